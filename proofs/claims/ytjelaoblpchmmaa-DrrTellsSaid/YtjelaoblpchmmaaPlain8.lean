/-
  Pairs, without a program.
-/
import Derived.Test.YtjelaoblpchmmaaPlain7
import Derived.Test.YtjelaoblpchmmaaFwPair
namespace Go.Proofs.Ytjelaoblpchmmaa
set_option linter.unusedVariables false
set_option linter.unusedSimpArgs false
set_option maxRecDepth 100000
open Go.RowKit
variable {N K : Nat}
theorem if2_108 : (Try.prog.info? 108).map (fun i => (i.zero, i.size, i.bytes)) = some (some (.agg #[.int .i64 0, .int .i64 0]), 2, 16) := by kernel_rfl
def emB (F O : List (Int × Int)) : Bool := F.isEmpty && O.isEmpty
theorem emB_eq {F O : List (Int × Int)} : ((((F.length + O.length : Nat) : Int)) == 0) = emB F O := by
  unfold emB
  rw [Bool.eq_iff_iff]
  cases F <;> cases O <;> simp <;> omega
/-- The first of all; what is left of the old ones; is it a new one? -/
def hdP (F O : List (Int × Int)) : Int × Int := (F ++ O).headD (0, 0)
def tO (F O : List (Int × Int)) : List (Int × Int) := if F.isEmpty then O.tail else O
def nF (F : List (Int × Int)) : Bool := !F.isEmpty
/-- Whose credit? -/
def crL (L : List (Int × Int)) (n : Int) : Int := match L.find? (fun y => y.1 == n) with | some y => y.2 | none => 0
def inL (L : List (Int × Int)) (n : Int) : Bool := L.any fun y => y.1 == n
theorem crL_t {L : List (Int × Int)} {n : Int} {i : Nat} (h : ∀ j, j < i → (L.getD j (0, 0)).1 ≠ n) (hi : i < L.length) (e : (L.getD i (0, 0)).1 = n) : crL L n = (L.getD i (0, 0)).2 ∧ inL L n = true := by
  have hg : L.getD i (0, 0) = L[i] := by simp [List.getD, List.getElem?_eq_getElem hi]
  constructor
  · have : L.find? (fun y => y.1 == n) = some L[i] := by
      rw [List.find?_eq_some_iff_getElem]
      refine ⟨beq_iff_eq.2 (hg ▸ e), i, hi, rfl, fun j hj => ?_⟩
      have := h j hj
      simp only [List.getD, List.getElem?_eq_getElem (show j < L.length by omega), Option.getD_some] at this
      simpa using this
    unfold crL; rw [this, hg]
  · unfold inL; rw [List.any_eq_true]; exact ⟨L[i], List.getElem_mem hi, beq_iff_eq.2 (hg ▸ e)⟩
theorem crL_f {L : List (Int × Int)} {n : Int} {i : Nat} (h : ∀ j, j < i → (L.getD j (0, 0)).1 ≠ n) (hi : L.length ≤ i) : crL L n = 0 ∧ inL L n = false := by
  have hno : ∀ y ∈ L, ¬ (y.1 == n) = true := fun y hy => by
    obtain ⟨j, hj, rfl⟩ := List.mem_iff_getElem.1 hy
    have := h j (by omega)
    simp only [List.getD, List.getElem?_eq_getElem hj, Option.getD_some] at this
    simpa using this
  constructor
  · unfold crL; rw [List.find?_eq_none.2 hno]
  · unfold inL; exact Bool.eq_false_iff.2 fun g => by
      obtain ⟨y, hy, hn⟩ := List.any_eq_true.1 g
      exact hno y hy hn

end Go.Proofs.Ytjelaoblpchmmaa
