/-
  Plain laws of bands, more.
-/
import Derived.Test.YtkfilmdnpocinaaState
namespace Go.Proofs.Ytkfilmdnpocinaa
set_option linter.unusedVariables false
set_option linter.unusedSimpArgs false
theorem again_15 {h0 h1 h2 : Bool} {w0 w1 w2 a b c d : Int} {s : St} (hv : WOK w0 w1 w2) (h : Ok w0 w1 w2 s) (ha : (h0 || h1 || h2) = true) (he : pickS h0 h1 h2 w0 w1 w2 s = ⟨a, b, c, d⟩) :
    hasN h0 h1 h2 (pickN h0 h1 h2 w0 w1 w2 s) = true ∧ sel3 (pickN h0 h1 h2 w0 w1 w2 s) a b c > 0 ∧ d = pickN h0 h1 h2 w0 w1 w2 s := by
  have hg := pickS_is_good ha hv h
  rw [pickN_some ha]
  rw [he] at hg ⊢
  unfold good at hg
  rw [Bool.and_eq_true] at hg
  exact ⟨hg.1, of_decide_eq_true hg.2, rfl⟩
end Go.Proofs.Ytkfilmdnpocinaa
