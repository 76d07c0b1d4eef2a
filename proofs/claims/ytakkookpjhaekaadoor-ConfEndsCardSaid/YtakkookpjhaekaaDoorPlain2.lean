/-
  Plain laws of prio, more.
-/
import Derived.Test.YtakkookpjhaekaaDoorPlain
namespace Go.Proofs.YtakkookpjhaekaaDoor
set_option linter.unusedVariables false
set_option linter.unusedSimpArgs false
set_option maxRecDepth 100000
open Go.RowKit

def mod4 (m : List Int) (i : Nat) : List Int := (List.range 16).map fun j => if j < i then (m.getD j 0).tmod 4 else m.getD j 0
theorem mod4_len {m : List Int} {i : Nat} : (mod4 m i).length = 16 := by simp [mod4]
theorem mod4_get {m : List Int} {i j : Nat} (h : j < 16) : (mod4 m i).getD j 0 = if j < i then (m.getD j 0).tmod 4 else m.getD j 0 := by
  simp only [mod4, List.getD, List.getElem?_map]; rw [List.getElem?_range h]; rfl
theorem mod4_zero {m : List Int} (hm : m.length = 16) : mod4 m 0 = m := list16 mod4_len hm fun j h => by rw [mod4_get h, if_neg (Nat.not_lt_zero _)]
theorem mod4_set {m : List Int} {i : Nat} {v : Int} (hi : i < 16) (hv : v = (m.getD i 0).tmod 4) : (mod4 m i).set i v = mod4 m (i + 1) :=
  list16 (List.length_set.trans mod4_len) mod4_len fun j h => by
    rw [getD_set (by rw [mod4_len]; exact h), mod4_get h, mod4_get h]
    by_cases e : i = j
    · subst e; rw [if_pos rfl, if_pos (Nat.lt_succ_self _), hv]
    · rw [if_neg e]; simp only [show (j < i + 1) = (j < i) by simp; omega]
theorem in8 {m : List Int} (hk : InK .u8 m) (j : Nat) : 0 ≤ m.getD j 0 ∧ m.getD j 0 ≤ 255 := by
  by_cases h : j < m.length
  · exact bounds_u8 (hk.getD h)
  · simp [List.getD, List.getElem?_eq_none (Nat.le_of_not_lt h)]
theorem wf8_of {x : Int} (h : 0 ≤ x) (g : x ≤ 255) : (Lit.int .u8 x).wf = true := by
  obtain ⟨n, rfl⟩ := Int.eq_ofNat_of_zero_le h
  have hn : n < 256 := by omega
  exact (by decide : ∀ j : Fin 256, (Lit.int .u8 ((j : Nat) : Int)).wf = true) ⟨n, hn⟩
theorem mod4_in {m : List Int} (hk : InK .u8 m) {j : Nat} (h : j < 16) : 0 ≤ (mod4 m 16).getD j 0 ∧ (mod4 m 16).getD j 0 ≤ 3 := by
  have := in8 hk j
  rw [mod4_get h, if_pos h, Int.tmod_eq_emod_of_nonneg this.1]; omega
theorem mod4_ink {m : List Int} (hk : InK .u8 m) : InK .u8 (mod4 m 16) := fun x hx => by
  obtain ⟨j, hj, rfl⟩ := List.mem_iff_getElem.1 hx
  have h := mod4_in hk (j := j) (by rw [mod4_len] at hj; exact hj)
  simp only [List.getD, List.getElem?_eq_getElem hj, Option.getD_some] at h
  exact wf8_of h.1 (by omega)
theorem right_mod4 {m : List Int} (hk : InK .u8 m) : rightF (mod4 m 16) = true := rightF_true mod4_len fun j h => (mod4_in hk h).2
theorem right_bad {m : List Int} {q : Nat} {n : Int} (hq : q < 16) (hn : n > 3) : (!rightF ((mod4 m 16).set q n)) = true := by
  rw [rightF_false (List.length_set.trans mod4_len) hq (by rw [getD_set (by rw [mod4_len]; exact hq), if_pos rfl]; exact hn)]; rfl
theorem of_none {m : List Int} (hk : InK .u8 m) {n : Int} (hn : n > 3) : ((((ofL (mod4 m 16) n 16).length : Nat) : Int) == 0) = true := by
  have : ofL (mod4 m 16) n 16 = [] := by
    unfold ofL
    rw [List.map_eq_nil_iff, List.filter_eq_nil_iff]
    intro j hj h
    have h1 := mod4_in hk (List.mem_range.1 hj)
    rw [beq_iff_eq] at h
    omega
  rw [this]; rfl
theorem of_bad {m : List Int} (hk : InK .u8 m) {q : Nat} {n : Int} (hq : q < 16) (hn : n > 3) : (ofL ((mod4 m 16).set q n) n 16 == [(q : Int)]) = true := by
  rw [beq_iff_eq]
  unfold ofL
  rw [List.filter_congr (q := fun j => j == q) (fun j hj => by
    have hj' := List.mem_range.1 hj
    rw [getD_set (by rw [mod4_len]; exact hj'), Bool.eq_iff_iff, beq_iff_eq, beq_iff_eq]
    have h1 := mod4_in hk hj'
    split <;> omega)]
  rw [(by decide : ∀ q : Fin 16, (List.range 16).filter (fun j => j == (q : Nat)) = [(q : Nat)]) ⟨q, hq⟩]; rfl
theorem ink1 {x : Int} (h : (Lit.int .u8 x).wf = true) : InK .u8 [x] := fun y hy => by simp only [List.mem_singleton] at hy; subst hy; exact h
/-! Once -/
def metL (m : List Int) (n : Nat) : List Int := (List.range 16).map fun j => if m.getD j 0 < (n : Int) then 1 else 0
def metI (m : List Int) (n k : Nat) : List Int := (List.range 16).map fun j => if m.getD j 0 < (n : Int) ∨ (j : Int) ∈ (ofL m (n : Int) 16).take k then 1 else 0
theorem metL_len {m : List Int} {n : Nat} : (metL m n).length = 16 := by simp [metL]
theorem metI_len {m : List Int} {n k : Nat} : (metI m n k).length = 16 := by simp [metI]
theorem metL_get {m : List Int} {n j : Nat} (h : j < 16) : (metL m n).getD j 0 = if m.getD j 0 < (n : Int) then 1 else 0 := by
  simp only [metL, List.getD, List.getElem?_map]; rw [List.getElem?_range h]; rfl
theorem metI_get {m : List Int} {n k j : Nat} (h : j < 16) : (metI m n k).getD j 0 = if m.getD j 0 < (n : Int) ∨ (j : Int) ∈ (ofL m (n : Int) 16).take k then 1 else 0 := by
  simp only [metI, List.getD, List.getElem?_map]; rw [List.getElem?_range h]; rfl
theorem metI_zero {m : List Int} {n : Nat} : metI m n 0 = metL m n := list16 metI_len metL_len fun j h => by rw [metI_get h, metL_get h]; simp
theorem metL_zero {m : List Int} (hk : InK .u8 m) : metL m 0 = List.replicate 16 0 := list16 metL_len (by simp) fun j h => by
  rw [metL_get h, if_neg (by have := in8 hk j; omega)]
  exact (by decide : ∀ j : Fin 16, (0 : Int) = (List.replicate 16 (0 : Int)).getD (j : Nat) 0) ⟨j, h⟩
theorem metI_end {m : List Int} {n k : Nat} (hk : k = (ofL m (n : Int) 16).length) : metI m n k = metL m (n + 1) := list16 metI_len metL_len fun j h => by
  rw [metI_get h, metL_get h, hk, List.take_length]
  have : ((j : Int) ∈ ofL m (n : Int) 16) ↔ m.getD j 0 = (n : Int) := by
    rw [ofL_mem]
    constructor
    · rintro ⟨i, _, e, h2⟩; have : j = i := by omega
      subst this; exact h2
    · exact fun e => ⟨j, h, rfl, e⟩
  simp only [this]
  have e : (m.getD j 0 < (n : Int) ∨ m.getD j 0 = (n : Int)) ↔ m.getD j 0 < ((n + 1 : Nat) : Int) := by omega
  simp only [e]
theorem ofL_sorted {m : List Int} {a : Int} : (ofL m a 16).Pairwise (· < ·) := by
  unfold ofL
  rw [List.pairwise_map]
  exact ((List.pairwise_lt_range).filter _).imp (fun h => by simpa using h)
theorem once_p {m : List Int} {n k : Nat} (hk : k < (ofL m (n : Int) 16).length) : ∃ j : Nat, j < 16 ∧ (ofL m (n : Int) 16).getD k 0 = (j : Int) ∧ m.getD j 0 = (n : Int) := by
  have : (ofL m (n : Int) 16).getD k 0 ∈ ofL m (n : Int) 16 := by
    simp only [List.getD, List.getElem?_eq_getElem hk, Option.getD_some]; exact List.getElem_mem hk
  obtain ⟨j, h1, h2, h3⟩ := ofL_mem.1 this
  exact ⟨j, h1, h2, h3⟩
theorem once_29 {m : List Int} {n k : Nat} (hk : k < (ofL m (n : Int) 16).length) : decide ((ofL m (n : Int) 16).getD k 0 > 15) = false := by
  obtain ⟨j, h1, h2, _⟩ := once_p hk
  exact decide_eq_false (by omega)
theorem once_41 {m : List Int} {n k : Nat} (hk : k < (ofL m (n : Int) 16).length) (h0 : 0 < k) : decide ((ofL m (n : Int) 16).getD (k - 1) 0 ≥ (ofL m (n : Int) 16).getD k 0) = false := by
  have := List.pairwise_iff_getElem.1 (ofL_sorted (m := m) (a := (n : Int))) (k - 1) k (by omega) hk (by omega)
  apply decide_eq_false
  simp only [List.getD, List.getElem?_eq_getElem hk, List.getElem?_eq_getElem (show k - 1 < (ofL m (n : Int) 16).length by omega), Option.getD_some]
  omega
theorem once_0 {m : List Int} {n k : Nat} (hk : k < (ofL m (n : Int) 16).length) : (metI m n k).getD ((ofL m (n : Int) 16).getD k 0).toNat 0 = 0 := by
  obtain ⟨j, h1, h2, h3⟩ := once_p hk
  rw [h2, Int.toNat_natCast, metI_get h1, if_neg]
  rintro (h | h)
  · omega
  · obtain ⟨i, hi, e⟩ := List.mem_iff_getElem.1 h
    rw [List.getElem_take] at e
    have hi' : i < k := by rw [List.length_take] at hi; omega
    have := List.pairwise_iff_getElem.1 (ofL_sorted (m := m) (a := (n : Int))) i k (by omega) hk hi'
    simp only [List.getD, List.getElem?_eq_getElem hk, Option.getD_some] at h2
    omega
theorem once_set {m : List Int} {n k : Nat} (hk : k < (ofL m (n : Int) 16).length) : (metI m n k).set ((ofL m (n : Int) 16).getD k 0).toNat 1 = metI m n (k + 1) := by
  obtain ⟨j, h1, h2, h3⟩ := once_p hk
  rw [h2, Int.toNat_natCast]
  refine list16 (List.length_set.trans metI_len) metI_len fun i hi => ?_
  rw [getD_set (by rw [metI_len]; exact hi), metI_get hi, metI_get hi, List.take_add_one, List.getElem?_eq_getElem hk]
  simp only [List.getD, List.getElem?_eq_getElem hk, Option.getD_some] at h2
  rw [h2]
  by_cases e : j = i
  · subst e; simp
  · have e' : ¬ (i : Int) = (j : Int) := by omega
    rw [if_neg e]; simp [e']
theorem once_p8 {m : List Int} {n k : Nat} (hk : k < (ofL m (n : Int) 16).length) : 0 ≤ (ofL m (n : Int) 16).getD k 0 ∧ (ofL m (n : Int) 16).getD k 0 ≤ 255 := by
  obtain ⟨j, h1, h2, h3⟩ := once_p hk; omega
theorem once_idx {m : List Int} {n k : Nat} (hk : k < (ofL m (n : Int) 16).length) : (ofL m (n : Int) 16).getD k 0 = ((((ofL m (n : Int) 16).getD k 0).toNat : Nat) : Int) ∧ ((ofL m (n : Int) 16).getD k 0).toNat < 16 := by
  obtain ⟨j, h1, h2, h3⟩ := once_p hk; omega
theorem once_band {m : List Int} {n k : Nat} (hk : k < (ofL m (n : Int) 16).length) : bandF m ((ofL m (n : Int) 16).getD k 0) = if (n : Int) < 3 then ((n : Int), true) else (0, false) := by
  obtain ⟨j, h1, h2, h3⟩ := once_p hk
  rw [h2]
  unfold bandF
  rw [Int.toNat_natCast, h3]
  by_cases h : (n : Int) < 3
  · rw [if_neg (by omega), if_pos h]
  · rw [if_pos (by omega), if_neg h]
theorem once_57 {m : List Int} {n k : Nat} (hk : k < (ofL m (n : Int) 16).length) : ((bandF m ((ofL m (n : Int) 16).getD k 0)).2 != (decide ((n : Int) < 3))) = false := by
  rw [once_band hk]; by_cases h : (n : Int) < 3 <;> simp [h]
theorem once_64 {m : List Int} {n k : Nat} (hk : k < (ofL m (n : Int) 16).length) (h2 : (bandF m ((ofL m (n : Int) 16).getD k 0)).2 = true) : ((bandF m ((ofL m (n : Int) 16).getD k 0)).1 != (n : Int)) = false := by
  rw [once_band hk] at h2 ⊢; by_cases h : (n : Int) < 3
  · simp [h]
  · simp [h] at h2
def cntK (m : List Int) (n : Nat) : Nat := ((List.range 16).filter fun j => decide (m.getD j 0 < (n : Int) ∧ m.getD j 0 < 4)).length
theorem filter_add {l : List Nat} {p q r : Nat → Bool} (h : ∀ j, r j = (p j || q j)) (hd : ∀ j, ¬ (p j = true ∧ q j = true)) : (l.filter r).length = (l.filter p).length + (l.filter q).length := by
  induction l with
  | nil => rfl
  | cons x l ih =>
    have h1 := h x; have h2 := hd x
    simp only [List.filter_cons]
    cases hp : p x <;> cases hq : q x <;> simp_all <;> omega
theorem cntK_le {m : List Int} {n : Nat} : cntK m n ≤ 16 := by unfold cntK; exact Nat.le_trans (List.length_filter_le _ _) (by simp)
theorem cntK_zero {m : List Int} (hk : InK .u8 m) : cntK m 0 = 0 := by
  unfold cntK
  rw [List.filter_eq_nil_iff.2 (fun j _ => by have := in8 hk j; rw [decide_eq_true_iff]; omega)]; rfl
theorem cntK_add {m : List Int} {n : Nat} (h : (n : Int) ≤ 3) : cntK m (n + 1) = cntK m n + (ofL m (n : Int) 16).length := by
  unfold cntK ofL
  rw [List.length_map]
  exact filter_add (fun j => by rw [Bool.eq_iff_iff, Bool.or_eq_true, decide_eq_true_iff, decide_eq_true_iff, beq_iff_eq]; omega) (fun j => by rw [decide_eq_true_iff, beq_iff_eq]; omega)
theorem cntK_same {m : List Int} {n : Nat} (h : ¬ (n : Int) ≤ 3) : cntK m (n + 1) = cntK m n := by
  unfold cntK
  congr 1
  exact List.filter_congr fun j _ => by rw [Bool.eq_iff_iff, decide_eq_true_iff, decide_eq_true_iff]; omega
theorem once_met {m : List Int} (hk : InK .u8 m) {i : Nat} (hi : i < 16) : ((metL m 256).getD i 0 != 1) = false := by
  rw [metL_get hi, if_pos (by have := in8 hk i; omega)]; rfl
theorem once_85 {m : List Int} (hm : m.length = 16) (hk : InK .u8 m) : (rightF m == (((cntK m 256 : Nat) : Int) == 16)) = true := by
  rw [beq_iff_eq, ← cntR_eq hm]
  have : cntK m 256 = cntR m 16 := by
    unfold cntK cntR
    congr 1
    exact List.filter_congr fun j _ => by rw [Bool.eq_iff_iff, decide_eq_true_iff, decide_eq_true_iff]; have := in8 hk j; omega
  rw [this]

end Go.Proofs.YtakkookpjhaekaaDoor
