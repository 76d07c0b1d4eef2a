/-
  Arguments, opened.
-/
import Derived.Test.YtkfilmdnpocinaaFns3
namespace Go.Proofs.Ytkfilmdnpocinaa
set_option linter.unusedVariables false
set_option linter.unusedSimpArgs false
set_option maxRecDepth 100000
open Go.RowKit
theorem three_of {k : IntKind} {cs : List Value} (o : Oks [.i k, .i k, .i k] cs) : ∃ a b c : Int, cs = [.int k a, .int k b, .int k c] ∧ (Lit.int k a).wf = true ∧ (Lit.int k b).wf = true ∧ (Lit.int k c).wf = true := by
  match cs, o with
  | [x, y, z], ⟨⟨a, h1, w1⟩, ⟨b, h2, w2⟩, ⟨c, h3, w3⟩, _⟩ => exact ⟨a, b, c, by rw [h1, h2, h3], w1, w2, w3⟩
  | x :: y :: z :: u :: l, ⟨_, _, _, h⟩ => exact absurd h (by simp [Oks])
theorem bools_of {cs : List Value} (o : Oks [.b, .b, .b] cs) : ∃ a b c : Bool, cs = [.bool a, .bool b, .bool c] := by
  match cs, o with
  | [x, y, z], ⟨⟨a, h1⟩, ⟨b, h2⟩, ⟨c, h3⟩, _⟩ => exact ⟨a, b, c, by rw [h1, h2, h3]⟩
  | x :: y :: z :: u :: l, ⟨_, _, _, h⟩ => exact absurd h (by simp [Oks])
theorem below_of {P : Program} {g : FuncId} {vs : Array Value} {w : World} {v : Value} (h : Calls P g vs w fun e w' => e = .returned v ∧ Inv w [] w') : Calls P g vs w fun e w' => e = .returned v ∧ Below w.heap.size w w' := h.mono fun _ _ ⟨he, hI⟩ => ⟨he, hI.below⟩
end Go.Proofs.Ytkfilmdnpocinaa
