/-
  Arguments, opened.
-/
import Derived.Test.YtjelaoblpchmmaaFns5
namespace Go.Proofs.Ytjelaoblpchmmaa
set_option linter.unusedVariables false
set_option linter.unusedSimpArgs false
set_option maxRecDepth 100000
open Go.RowKit
theorem tm {b m : Int} (h : (Lit.int .u8 b).wf = true) (hm : 0 < m) : 0 ≤ b.tmod m ∧ b.tmod m < m := by
  have := bounds_u8 h; rw [Int.tmod_eq_emod_of_nonneg this.1]; exact ⟨Int.emod_nonneg _ (by omega), Int.emod_lt_of_pos _ hm⟩
end Go.Proofs.Ytjelaoblpchmmaa
