/-
  Plain laws of count, for the whole of it.
-/
import Derived.Test.YtohkdjaobdgenaaRef
namespace Go.Proofs.Ytohkdjaobdgenaa
set_option linter.unusedVariables false
set_option linter.unusedSimpArgs false
set_option maxRecDepth 100000
open Go.RowKit
theorem addR_fix {xs ys : List Int} {n k j : Nat} {am : Int} (hl : xs.length = n) (hj : j < n) : (xs ++ ys).set j (((xs ++ ys).getD j 0 + am) % pw k) = xs.set j ((xs.getD j 0 + am) % pw k) ++ ys := by
  rw [getD_app (by omega), List.set_append_left _ _ (by omega)]
def sinceR (xs ws : List Int) (n m k : Nat) : List Int × Int := if m ≠ n then ([], 2) else if (List.range n).all (fun j => (aheadF (xs.getD j 0) (ws.getD j 0) (k : Int)).2 == 0) then (sinceL xs ws k n, 0) else ([], 2)
theorem all_ok {xs ws : List Int} {n k : Nat} (h : (List.range n).all (fun j => (aheadF (xs.getD j 0) (ws.getD j 0) (k : Int)).2 == 0) = true) : ∀ j, j < n → (aheadF (xs.getD j 0) (ws.getD j 0) (k : Int)).2 = 0 := fun j hj => beq_iff_eq.1 (List.all_eq_true.1 h j (List.mem_range.2 hj))
theorem not_ok {xs ws : List Int} {n k : Nat} (h : ¬ (List.range n).all (fun j => (aheadF (xs.getD j 0) (ws.getD j 0) (k : Int)).2 == 0) = true) : ∃ j, j < n ∧ (aheadF (xs.getD j 0) (ws.getD j 0) (k : Int)).2 ≠ 0 := by
  rw [List.all_eq_true] at h
  exact Classical.byContradiction fun g => h fun j hj => beq_iff_eq.2 (Classical.byContradiction fun e => g ⟨j, List.mem_range.1 hj, e⟩)
theorem sinceR2 {xs ws : List Int} {n m k : Nat} : (sinceR xs ws n m k).2 = 0 ∨ (sinceR xs ws n m k).2 = 2 := by
  unfold sinceR; split
  · exact .inr rfl
  · split
    · exact .inl rfl
    · exact .inr rfl
theorem sinceR_len {xs ws : List Int} {n m k : Nat} : (sinceR xs ws n m k).1.length ≤ n := by
  unfold sinceR; split
  · exact Nat.zero_le _
  · split
    · rw [since_len]; exact Nat.le_refl _
    · exact Nat.zero_le _
def getV (xs : List Int) (n : Nat) (i : Int) : Int := if 0 ≤ i ∧ i < (n : Int) then xs.getD i.toNat 0 else 0
theorem aheadF2 {a b c : Int} (h : (!((aheadF a b c).2 == 0)) = true) : ((aheadF a b c).2 != 2) = false := by
  rw [bne_eq_false_iff_eq]; exact ahead2 (by simpa using h)
theorem sinceRF {xs ws : List Int} {n m k : Nat} (h : (!((sinceR xs ws n m k).2 == 0)) = true) : ((sinceR xs ws n m k).2 != 2) = false := by
  rw [bne_eq_false_iff_eq]; rcases sinceR2 (xs := xs) (ws := ws) (n := n) (m := m) (k := k) with e | e
  · rw [e] at h; cases h
  · exact e
theorem new_cases (c b : Int) : (∃ n k : Nat, 1 ≤ n ∧ n ≤ 256 ∧ 1 ≤ k ∧ k ≤ 64 ∧ c = (n : Int) ∧ b = (k : Int)) ∨ (c < 1 ∨ c > 256 ∨ b < 1 ∨ b > 64) := by
  by_cases h : c < 1 ∨ c > 256 ∨ b < 1 ∨ b > 64
  · exact .inr h
  · exact .inl ⟨c.toNat, b.toNat, by omega, by omega, by omega, by omega, by omega, by omega⟩
theorem Inv.replace {w0 w : World} {A C : List Blk} {x y : Blk} (h : Inv w0 (A ++ [x] ++ C ++ [y]) w) (hx : w0.heap.size ≤ x.1) : Inv w0 (A ++ [y] ++ C) w := by
  have h2 : Inv w0 ((A ++ [y] ++ C) ++ [x]) w := h.perm (by
    simp only [List.append_assoc]
    refine List.Perm.append_left A ?_
    show (x :: (C ++ [y])).Perm (y :: (C ++ [x]))
    have h1 : (x :: (C ++ [y])).Perm (y :: x :: C) := (List.perm_append_comm (l₁ := C) (l₂ := [y])).cons x |>.trans (List.Perm.swap y x C)
    exact h1.trans ((List.perm_append_comm (l₁ := [x]) (l₂ := C)).cons y))
  exact h2.drop (A := A ++ [y] ++ C) (B := [x]) (fun z hz => by simp only [List.mem_singleton] at hz; subst hz; exact hx)

end Go.Proofs.Ytohkdjaobdgenaa
