/-
  The calculus of walks: ways that meet again.
-/
import Derived.Test.YtjelaoblpchmmaaFwEq
namespace Go.Proofs.Ytjelaoblpchmmaa
set_option linter.unusedVariables false
set_option linter.unusedSimpArgs false
open Go.RowKit
/-- What is known where ways meet: E of the slots, J of the world. -/
theorem code_join {P : Program} {Q : Exit → Act → World → Prop} (n : Nat) {a : Act} {w : World} {c : Code} (E : Env) (J : World → Prop)
    (h : c.wp P (Exit.then (fun a w => Fits E n a ∧ J w) Q) a w) (k : ∀ a w, Fits E n a → J w → Q .normal a w) : c.wp P Q a w := by
  refine wp_mono h (fun ex a' w' hq => ?_)
  cases ex with
  | normal => exact k a' w' hq.1 hq.2
  | _ => exact hq
/-- .. with something that each way has made for itself. -/
theorem code_joinG {P : Program} {Q : Exit → Act → World → Prop} (n : Nat) {a : Act} {w : World} {c : Code} (α : Type) (E : α → Env) (J : α → World → Prop)
    (h : c.wp P (Exit.then (fun a w => ∃ x, Fits (E x) n a ∧ J x w) Q) a w) (k : ∀ x a w, Fits (E x) n a → J x w → Q .normal a w) : c.wp P Q a w := by
  refine wp_mono h (fun ex a' w' hq => ?_)
  cases ex with
  | normal => obtain ⟨x, h1, h2⟩ := hq; exact k x a' w' h1 h2
  | _ => exact hq
end Go.Proofs.Ytjelaoblpchmmaa
