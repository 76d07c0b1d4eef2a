/-
  Plain laws of count: what was added since.
-/
import Derived.Test.YtohkdjaobdgenaaPlain4
namespace Go.Proofs.Ytohkdjaobdgenaa
set_option linter.unusedVariables false
set_option linter.unusedSimpArgs false
set_option maxRecDepth 100000
open Go.RowKit
def barr (bs : List Bool) : Array Value := (bs.map Value.bool).toArray
theorem len_repB (n : Nat) : (List.replicate n false).length = n := List.length_replicate
theorem barr_rep {m : Nat} {c : Bool} : Array.replicate m (.bool c) = barr (List.replicate m c) := by
  unfold barr
  apply Array.toList_inj.1
  simp
theorem barr_size {bs : List Bool} {n : Nat} (h : bs.length = n) : (barr bs).size = n := by simp [barr, h]
theorem barr_get {bs : List Bool} {i : Nat} (h : i < bs.length) : (barr bs)[i]? = some (.bool (bs.getD i false)) := by
  simp [barr, List.getD, List.getElem?_eq_getElem h]
theorem barr_set {bs : List Bool} {i : Nat} {v : Bool} : (barr bs).setIfInBounds i (.bool v) = barr (bs.set i v) := by
  simp [barr, List.map_set]
theorem Inv.swap2 {w0 w : World} {A : List Blk} {x y : Blk} (h : Inv w0 (A ++ [x, y]) w) : Inv w0 (A ++ [y, x]) w := h.perm ((List.Perm.swap y x []).append_left A)
/-! Counters whose numbers may be. -/
structure Rg (xs : List Int) (n k : Nat) : Prop where
  len : xs.length = n
  get : ∀ j, j < n → 0 ≤ xs.getD j 0 ∧ xs.getD j 0 < pw k
theorem Rg.init {n k : Nat} (h1 : 1 ≤ k) (h2 : k ≤ 64) : Rg (List.replicate n 0) n k := ⟨List.length_replicate, fun j _ => by rw [getD_rep]; have := pw2 h1 h2; omega⟩
theorem Rg.add {xs : List Int} {n k : Nat} {i v : Int} (h1 : 1 ≤ k) (h2 : k ≤ 64) (h : Rg xs n k) : Rg (addX xs n k i v) n k := by
  refine ⟨addX_len h.len, fun j hj => ?_⟩
  rw [addX_get h.len hj]
  split
  · exact md_b h1 h2
  · exact h.get j hj
/-- What was added since: ws, an earlier look; xs, now; ss, the sums; rs, which went round. -/
structure Si (ws xs ss : List Int) (rs : List Bool) (n k : Nat) : Prop where
  lx : xs.length = n
  ls : ss.length = n
  lr : rs.length = n
  s : ∀ j, j < n → 0 ≤ ss.getD j 0 ∧ ss.getD j 0 < 18446744073709551616
  x : ∀ j, j < n → xs.getD j 0 = (ws.getD j 0 + ss.getD j 0) % pw k
  r : ∀ j, j < n → rs.getD j false = false → ss.getD j 0 ≤ pw k - 1
theorem getD_repB {n j : Nat} : (List.replicate n false).getD j false = false := by
  simp only [List.getD, List.getElem?_replicate]; split <;> rfl
theorem getD_setB {l : List Bool} {i j : Nat} {v : Bool} (hj : j < l.length) : (l.set i v).getD j false = if i = j then v else l.getD j false := by
  simp only [List.getD, List.getElem?_set]
  split
  · rename_i e; subst e; rw [if_pos hj]; rfl
  · rfl
theorem Si.init {ws : List Int} {n k : Nat} (h1 : 1 ≤ k) (h2 : k ≤ 64) (h : Rg ws n k) : Si ws ws (List.replicate n 0) (List.replicate n false) n k := by
  have hp := pw2 h1 h2
  refine ⟨h.len, List.length_replicate, List.length_replicate, fun j _ => by rw [getD_rep]; omega, fun j hj => ?_, fun j _ _ => by rw [getD_rep]; omega⟩
  rw [getD_rep, Int.add_zero]
  have := h.get j hj
  exact (Int.emod_eq_of_lt this.1 this.2).symm
theorem Si.step {ws xs ss : List Int} {rs : List Bool} {n k p : Nat} {N : Int} {b : Bool} (h1 : 1 ≤ k) (h2 : k ≤ 64) (h : Si ws xs ss rs n k) (hp : p < n) (hN : 0 ≤ N ∧ N < 18446744073709551616)
    (hb : b = false → rs.getD p false = false ∧ N ≤ pw k - 1 ∧ ss.getD p 0 ≤ pw k - 1 - N) : Si ws (xs.set p ((xs.getD p 0 + N) % pw k)) (ss.set p (IntKind.wrap .u64 (ss.getD p 0 + N))) (rs.set p b) n k := by
  have hpw := pw2 h1 h2
  refine ⟨by rw [List.length_set]; exact h.lx, by rw [List.length_set]; exact h.ls, by rw [List.length_set]; exact h.lr, fun j hj => ?_, fun j hj => ?_, fun j hj hr => ?_⟩
  · rw [getD_set' (by rw [h.ls]; exact hj)]
    split
    · exact wrap_nn
    · exact h.s j hj
  · rw [getD_set' (by rw [h.lx]; exact hj), getD_set' (by rw [h.ls]; exact hj)]
    by_cases e : p = j
    · subst e
      rw [if_pos rfl, if_pos rfl, h.x p hp, Int.emod_add_emod, ← Int.add_emod_emod (ws.getD p 0) (IntKind.wrap .u64 (ss.getD p 0 + N)), wrap_mod h1 h2, Int.add_emod_emod, Int.add_assoc]
    · rw [if_neg e, if_neg e]; exact h.x j hj
  · rw [getD_setB (by rw [h.lr]; exact hj)] at hr
    rw [getD_set' (by rw [h.ls]; exact hj)]
    by_cases e : p = j
    · subst e
      rw [if_pos rfl] at hr ⊢
      obtain ⟨_, g2, g3⟩ := hb hr
      have := h.s p hp
      rw [wrap_u64 (by omega) (by omega)]
      omega
    · rw [if_neg e] at hr ⊢; exact h.r j hj hr
theorem Si.rg {ws xs ss : List Int} {rs : List Bool} {n k j : Nat} (h1 : 1 ≤ k) (h2 : k ≤ 64) (h : Si ws xs ss rs n k) (hj : j < n) : 0 ≤ xs.getD j 0 ∧ xs.getD j 0 < pw k := by
  rw [h.x j hj]; exact md_b h1 h2
theorem Si.ok {ws xs ss : List Int} {rs : List Bool} {n k : Nat} (h1 : 1 ≤ k) (h2 : k ≤ 64) (hw : Rg ws n k) (h : Si ws xs ss rs n k) : ∀ j, j < n → (aheadF (xs.getD j 0) (ws.getD j 0) (k : Int)).2 = 0 := by
  intro j hj
  have a := h.rg h1 h2 hj
  have b := hw.get j hj
  unfold aheadF
  rw [Int.toNat_natCast, if_neg (by omega), if_neg (by omega)]
theorem since_get {xs ws : List Int} {n k j : Nat} (hj : j < n) : (sinceL xs ws k n).getD j 0 = (xs.getD j 0 - ws.getD j 0) % pw k := by
  simp only [sinceL, List.getD, List.getElem?_map]; rw [List.getElem?_range hj]; rfl
theorem Si.got {ws xs ss : List Int} {rs : List Bool} {n k j : Nat} (h : Si ws xs ss rs n k) (hj : j < n) : (sinceL xs ws k n).getD j 0 = ss.getD j 0 % pw k := by
  rw [since_get hj, h.x j hj, Int.emod_sub_emod, show ws.getD j 0 + ss.getD j 0 - ws.getD j 0 = ss.getD j 0 by omega]
theorem Si.end1 {ws xs ss : List Int} {rs : List Bool} {n k j : Nat} (h1 : 1 ≤ k) (h2 : k ≤ 64) (h : Si ws xs ss rs n k) (hj : j < n) (hr : (!rs.getD j false) = true) : ((sinceL xs ws k n).getD j 0 != ss.getD j 0) = false := by
  have hr' : rs.getD j false = false := by simpa using hr
  have a := h.r j hj hr'
  have b := h.s j hj
  have := pw2 h1 h2
  rw [bne_eq_false_iff_eq, h.got hj]
  exact Int.emod_eq_of_lt b.1 (by omega)
theorem Si.end2 {ws xs ss : List Int} {rs : List Bool} {n k j : Nat} (h : Si ws xs ss rs n k) (hj : j < n) : ((sinceL xs ws k n).getD j 0 != ss.getD j 0 % pw k) = false := by
  rw [bne_eq_false_iff_eq, h.got hj]
theorem place_cases (n : Nat) (x : Int) : (∃ p : Nat, p < n ∧ x = (p : Int)) ∨ (x < 0 ∨ (n : Int) ≤ x) := by
  by_cases h : 0 ≤ x ∧ x < (n : Int)
  · exact .inl ⟨x.toNat, by omega, by omega⟩
  · exact .inr (by omega)
theorem if_4 : (Try.prog.info? 4).map (fun i => (i.zero, i.size, i.bytes)) = some (some (.bool false), 1, 1) := by kernel_rfl

end Go.Proofs.Ytohkdjaobdgenaa
