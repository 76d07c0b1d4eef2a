/-
  Plain laws of count: sums by places.
-/
import Derived.Test.YtohkdjaobdgenaaAwake
namespace Go.Proofs.Ytohkdjaobdgenaa
set_option linter.unusedVariables false
set_option linter.unusedSimpArgs false
set_option maxRecDepth 100000
open Go.RowKit
/-! Sums by places. -/
def SF (f : Nat → Int) : Nat → Int
  | 0 => 0
  | i + 1 => SF f i + f i
theorem SF_front (f : Nat → Int) : ∀ i, SF f (i + 1) = f 0 + SF (fun t => f (t + 1)) i
  | 0 => by simp [SF]
  | i + 1 => by rw [SF, SF_front f i, SF]; omega
theorem SF_congr {f g : Nat → Int} : ∀ {i : Nat}, (∀ t, t < i → f t = g t) → SF f i = SF g i
  | 0, _ => rfl
  | i + 1, h => by rw [SF, SF, SF_congr (fun t ht => h t (by omega)), h i (by omega)]
theorem SF_rev (f : Nat → Int) : ∀ L, SF (fun t => f (L - 1 - t)) L = SF f L
  | 0 => rfl
  | L + 1 => by
    rw [SF, SF_front f L, ← SF_rev (fun t => f (t + 1)) L, Nat.add_sub_cancel]
    have : SF (fun t => f (L - t)) L = SF (fun t => f (L - 1 - t + 1)) L := SF_congr fun t ht => by rw [show L - 1 - t + 1 = L - t by omega]
    rw [this, Nat.sub_self]; omega
def at0 (K V : Nat → Int) (j : Int) (t : Nat) : Int := if K t = j then V t else 0
/-- Counters behind so many additions. -/
structure Cn (K V : Nat → Int) (xs : List Int) (n k i : Nat) : Prop where
  len : xs.length = n
  get : ∀ j, j < n → xs.getD j 0 = SF (at0 K V (j : Int)) i % pw k
theorem getD_set' {l : List Int} {i j : Nat} {v : Int} (hj : j < l.length) : (l.set i v).getD j 0 = if i = j then v else l.getD j 0 := by
  simp only [List.getD, List.getElem?_set]
  split
  · rename_i e; subst e; rw [if_pos hj]; rfl
  · rfl
theorem getD_rep {n j : Nat} : (List.replicate n (0 : Int)).getD j 0 = 0 := by
  simp only [List.getD, List.getElem?_replicate]; split <;> rfl
theorem Cn.init {K V : Nat → Int} {n k : Nat} : Cn K V (List.replicate n 0) n k 0 := ⟨List.length_replicate, fun j _ => by rw [getD_rep]; rfl⟩
theorem Cn.add {K V : Nat → Int} {xs : List Int} {n k i p : Nat} {v : Int} (h : Cn K V xs n k i) (hK : K i = (p : Int)) (hp : p < n) (hv : v % pw k = V i % pw k) : Cn K V (xs.set p ((xs.getD p 0 + v) % pw k)) n k (i + 1) := by
  refine ⟨by rw [List.length_set]; exact h.len, fun j hj => ?_⟩
  rw [getD_set' (by rw [h.len]; exact hj), SF, at0, hK]
  by_cases e : p = j
  · subst e
    rw [if_pos rfl, if_pos rfl, h.get p hp, Int.emod_add_emod, ← Int.add_emod_emod, hv, Int.add_emod_emod]
  · rw [if_neg e, if_neg (by omega), Int.add_zero]
    exact h.get j hj
theorem set_twice {xs : List Int} {n k p : Nat} {u v : Int} (hl : xs.length = n) (hp : p < n) : ((xs.set p ((xs.getD p 0 + u) % pw k)).set p (((xs.set p ((xs.getD p 0 + u) % pw k)).getD p 0 + v) % pw k)) = xs.set p ((xs.getD p 0 + (u + v)) % pw k) := by
  rw [List.set_set, getD_set' (by omega), if_pos rfl, Int.emod_add_emod, Int.add_assoc]
theorem Cn.eq {K V K' V' : Nat → Int} {xs ys : List Int} {n k L : Nat} (h : Cn K V xs n k L) (h' : Cn K' V' ys n k L) (e : ∀ j, j < n → SF (at0 K V (j : Int)) L = SF (at0 K' V' (j : Int)) L) : xs = ys := by
  apply List.ext_getElem?
  intro j
  by_cases hj : j < n
  · have := (h.get j hj).trans ((congrArg (· % pw k) (e j hj)).trans (h'.get j hj).symm)
    simp only [List.getD, List.getElem?_eq_getElem (show j < xs.length by rw [h.len]; exact hj), List.getElem?_eq_getElem (show j < ys.length by rw [h'.len]; exact hj), Option.getD_some] at this
    rw [List.getElem?_eq_getElem (show j < xs.length by rw [h.len]; exact hj), List.getElem?_eq_getElem (show j < ys.length by rw [h'.len]; exact hj), this]
  · rw [List.getElem?_eq_none (by rw [h.len]; omega), List.getElem?_eq_none (by rw [h'.len]; omega)]
/-! Calls as rows. -/
def opKinds : List CK := [.i .u8, .i .i64, .i .u64]
def rowI (r : List Value) : Int := match r with
  | [_, .int _ i, _] => i
  | _ => 0
def rowN (r : List Value) : Int := match r with
  | [_, _, .int _ m] => m
  | _ => 0
def rowK (r : List Value) : Int := match r with
  | [.int _ m, _, _] => m
  | _ => 0
theorem op_row0 {r : List Value} (h : Oks opKinds r) : ∃ kd ii nn : Int, r = [.int .u8 kd, .int .i64 ii, .int .u64 nn] ∧ (Lit.int .i64 ii).wf = true ∧ (Lit.int .u64 nn).wf = true := by
  obtain ⟨v0, l0, rfl, ⟨kd, rfl, _⟩, q0⟩ := Oks_cons h
  obtain ⟨v1, l1, rfl, ⟨ii, rfl, w1⟩, q1⟩ := Oks_cons q0
  obtain ⟨v2, l2, rfl, ⟨nn, rfl, w2⟩, q2⟩ := Oks_cons q1
  obtain rfl := Oks_nil q2
  exact ⟨kd, ii, nn, rfl, w1, w2⟩
theorem op_row {rows : List (List Value)} (ho : ∀ row ∈ rows, Oks opKinds row) {i : Nat} (h : i < rows.length) : ∃ kd ii nn : Int, rows[i]? = some [.int .u8 kd, .int .i64 ii, .int .u64 nn] ∧ (0 ≤ nn ∧ nn < 18446744073709551616) ∧ (-9223372036854775808 ≤ ii ∧ ii ≤ 9223372036854775807) ∧
    rowK (rows.getD i []) = kd ∧ rowI (rows.getD i []) = ii ∧ rowN (rows.getD i []) = nn := by
  obtain ⟨kd, ii, nn, hr, w2, w3⟩ := op_row0 (ho rows[i] (List.getElem_mem h))
  have e : rows.getD i [] = [.int .u8 kd, .int .i64 ii, .int .u64 nn] := by simp [List.getD, List.getElem?_eq_getElem h, hr]
  have b3 := bounds_u64 w3
  have b2 := bounds_i64 w2
  exact ⟨kd, ii, nn, by rw [List.getElem?_eq_getElem h, hr], ⟨b3.1, by omega⟩, b2, by rw [e]; rfl, by rw [e]; rfl, by rw [e]; rfl⟩
theorem tmod_b {x n : Int} (h : 0 < n) : -n < x.tmod n ∧ x.tmod n < n := by
  have h1 := Int.tmod_lt_of_pos x h
  have h2 := Int.tmod_lt_of_pos (-x) h
  rw [Int.neg_tmod] at h2
  omega
theorem place_of {x : Int} {n : Nat} (h : 1 ≤ n) : ∃ p : Nat, p < n ∧ (x.tmod n + n).tmod n = (p : Int) := by
  have hb := tmod_b (x := x) (n := (n : Int)) (by omega)
  have h0 : 0 ≤ x.tmod n + n := by omega
  rw [Int.tmod_eq_emod_of_nonneg h0]
  have h1 := Int.emod_nonneg (x.tmod n + n) (show (n : Int) ≠ 0 by omega)
  have h2 := Int.emod_lt_of_pos (x.tmod n + n) (show (0 : Int) < n by omega)
  exact ⟨((x.tmod n + n) % n).toNat, by omega, by omega⟩
/-- The place that a call's number is turned to. -/
def KT (rows : List (List Value)) (n : Nat) (t : Nat) : Int := ((rowI (rows.getD t [])).tmod n + n).tmod n
def VT (rows : List (List Value)) (t : Nat) : Int := rowN (rows.getD t [])
theorem turned_eq {rows : List (List Value)} {xs ys : List Int} {n k L : Nat} (h : Cn (KT rows n) (VT rows) xs n k L) (h' : Cn (fun t => KT rows n (L - 1 - t)) (fun t => VT rows (L - 1 - t)) ys n k L) : (xs == ys) = true :=
  beq_iff_eq.2 (h.eq h' fun j _ => (SF_rev (at0 (KT rows n) (VT rows) (j : Int)) L).symm)

end Go.Proofs.Ytohkdjaobdgenaa
