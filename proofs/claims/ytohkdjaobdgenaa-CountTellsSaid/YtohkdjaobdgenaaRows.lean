/-
  No cell of these rows narrows 'for every input' (looked for: loops, veiled, ifaces, maps, wideKeys, modest, calm, conditions, laid).
  DERIVED. THE GIVEN ROWS OF THIS SEAT. 6 by the template 'for every input the law returns true; each argument reads behind the call as it read before'; 0 by the template 'total and deterministic' (their statements: YtohkdjaobdgenaaTotals.lean).
  GIVEN WITH THE SEED: the statements are not yours to turn. If you find one false, say at which input.
  Laid BY PROGRAM, IN A SANDBOX (cutbox-rows.mjs): the forced cells as the released guide's own fill.sh prints them over the translation c92d6abd122b7d7c… (all of the seat's roots in one cut). By AI agents, Wed Nov 11 2026. No macro, syntax, notation, axiom, sorry.
-/
import Derived.Test.YtohkdjaobdgenaaChecked
import GoSem.Claim
import GoSem.ClaimJoined
import GoSem.ClaimMapViews
import Derived.JoinedTies
import Derived.KernelRfl
namespace Go.Proofs.Ytohkdjaobdgenaa
/- THE CELL 'sum', in the pinned program and in every row, IS THE sha256 OF THE DUMP (.gsa) THAT YtohkdjaobdgenaaProg.lean LOADS. Nothing in Lean hashes anything: it is a label: what it is worth is what the hold of that sum in a sandbox is worth. -/
noncomputable def Try.pinned : Pinned := { name := "ytohkdjaobdgenaa", sum := "c92d6abd122b7d7cd9ad1fe07a87870a78bd5c7f4620f4bc9f9df07a5ec12444", checked := Try.checked }
namespace Rows
def none {H : Type} : Left H := { results := [], args := [] }

/-- 'sandglasslaw27.CountTells': WHATEVER THE INPUT: true; the input reads as it did. -/
def countTellsSpec : ChangeSpec := { name := "countTells", fn := fun _ => fun
  | [d1, d2, d3, d4, d5] => { results := [.lit (.bool true)], args := [d1, d2, d3, d4, d5] }
  | _ => none }
def countTellsRow : OpenClaim := { program := "ytohkdjaobdgenaa", sum := "c92d6abd122b7d7cd9ad1fe07a87870a78bd5c7f4620f4bc9f9df07a5ec12444", func := "sandglass/sandglasslaw27.CountTells", spec := "countTells", unfollowed := true, recurses := true, apart := false }
def CountTellsSaid : Prop := countTellsRow.holds Try.pinned (OpenSpec.ofChange countTellsSpec)

/-- ITS FALSE NEIGHBOUR: 'it returns false'. Refute it at one input. -/
def countTellsWrong : ChangeSpec := { name := "countTells", fn := fun _ => fun
  | [d1, d2, d3, d4, d5] => { results := [.lit (.bool false)], args := [d1, d2, d3, d4, d5] }
  | _ => none }
def CountTellsWrongFalsely : Prop := countTellsRow.holds Try.pinned (OpenSpec.ofChange countTellsWrong)

/-- 'sandglasslaw27.CountSince': WHATEVER THE INPUT: true; the input reads as it did. -/
def countSinceSpec : ChangeSpec := { name := "countSince", fn := fun _ => fun
  | [d1, d2, d3, d4] => { results := [.lit (.bool true)], args := [d1, d2, d3, d4] }
  | _ => none }
def countSinceRow : OpenClaim := { program := "ytohkdjaobdgenaa", sum := "c92d6abd122b7d7cd9ad1fe07a87870a78bd5c7f4620f4bc9f9df07a5ec12444", func := "sandglass/sandglasslaw27.CountSince", spec := "countSince", unfollowed := true, recurses := true, apart := false }
def CountSinceSaid : Prop := countSinceRow.holds Try.pinned (OpenSpec.ofChange countSinceSpec)

/-- ITS FALSE NEIGHBOUR: 'it returns false'. Refute it at one input. -/
def countSinceWrong : ChangeSpec := { name := "countSince", fn := fun _ => fun
  | [d1, d2, d3, d4] => { results := [.lit (.bool false)], args := [d1, d2, d3, d4] }
  | _ => none }
def CountSinceWrongFalsely : Prop := countSinceRow.holds Try.pinned (OpenSpec.ofChange countSinceWrong)

/-- 'sandglasslaw27.CountTurned': WHATEVER THE INPUT: true; the input reads as it did. -/
def countTurnedSpec : ChangeSpec := { name := "countTurned", fn := fun _ => fun
  | [d1, d2, d3, d4] => { results := [.lit (.bool true)], args := [d1, d2, d3, d4] }
  | _ => none }
def countTurnedRow : OpenClaim := { program := "ytohkdjaobdgenaa", sum := "c92d6abd122b7d7cd9ad1fe07a87870a78bd5c7f4620f4bc9f9df07a5ec12444", func := "sandglass/sandglasslaw27.CountTurned", spec := "countTurned", unfollowed := true, recurses := true, apart := false }
def CountTurnedSaid : Prop := countTurnedRow.holds Try.pinned (OpenSpec.ofChange countTurnedSpec)

/-- ITS FALSE NEIGHBOUR: 'it returns false'. Refute it at one input. -/
def countTurnedWrong : ChangeSpec := { name := "countTurned", fn := fun _ => fun
  | [d1, d2, d3, d4] => { results := [.lit (.bool false)], args := [d1, d2, d3, d4] }
  | _ => none }
def CountTurnedWrongFalsely : Prop := countTurnedRow.holds Try.pinned (OpenSpec.ofChange countTurnedWrong)

/-- 'sandglasslaw27.CountDrain': WHATEVER THE INPUT: true; the input reads as it did. -/
def countDrainSpec : ChangeSpec := { name := "countDrain", fn := fun _ => fun
  | [d1, d2, d3] => { results := [.lit (.bool true)], args := [d1, d2, d3] }
  | _ => none }
def countDrainRow : OpenClaim := { program := "ytohkdjaobdgenaa", sum := "c92d6abd122b7d7cd9ad1fe07a87870a78bd5c7f4620f4bc9f9df07a5ec12444", func := "sandglass/sandglasslaw27.CountDrain", spec := "countDrain", unfollowed := true, recurses := true, apart := false }
def CountDrainSaid : Prop := countDrainRow.holds Try.pinned (OpenSpec.ofChange countDrainSpec)

/-- ITS FALSE NEIGHBOUR: 'it returns false'. Refute it at one input. -/
def countDrainWrong : ChangeSpec := { name := "countDrain", fn := fun _ => fun
  | [d1, d2, d3] => { results := [.lit (.bool false)], args := [d1, d2, d3] }
  | _ => none }
def CountDrainWrongFalsely : Prop := countDrainRow.holds Try.pinned (OpenSpec.ofChange countDrainWrong)

/-- 'sandglasslaw27.CountAhead': WHATEVER THE INPUT: true; the input reads as it did. -/
def countAheadSpec : ChangeSpec := { name := "countAhead", fn := fun _ => fun
  | [d1, d2, d3] => { results := [.lit (.bool true)], args := [d1, d2, d3] }
  | _ => none }
def countAheadRow : OpenClaim := { program := "ytohkdjaobdgenaa", sum := "c92d6abd122b7d7cd9ad1fe07a87870a78bd5c7f4620f4bc9f9df07a5ec12444", func := "sandglass/sandglasslaw27.CountAhead", spec := "countAhead", unfollowed := true, recurses := true, apart := false }
def CountAheadSaid : Prop := countAheadRow.holds Try.pinned (OpenSpec.ofChange countAheadSpec)

/-- ITS FALSE NEIGHBOUR: 'it returns false'. Refute it at one input. -/
def countAheadWrong : ChangeSpec := { name := "countAhead", fn := fun _ => fun
  | [d1, d2, d3] => { results := [.lit (.bool false)], args := [d1, d2, d3] }
  | _ => none }
def CountAheadWrongFalsely : Prop := countAheadRow.holds Try.pinned (OpenSpec.ofChange countAheadWrong)

/-- 'sandglasslaw27.CountNone': WHATEVER THE INPUT: true; the input reads as it did. -/
def countNoneSpec : ChangeSpec := { name := "countNone", fn := fun _ => fun
  | [d1, d2] => { results := [.lit (.bool true)], args := [d1, d2] }
  | _ => none }
def countNoneRow : OpenClaim := { program := "ytohkdjaobdgenaa", sum := "c92d6abd122b7d7cd9ad1fe07a87870a78bd5c7f4620f4bc9f9df07a5ec12444", func := "sandglass/sandglasslaw27.CountNone", spec := "countNone", unfollowed := true, recurses := true, apart := false }
def CountNoneSaid : Prop := countNoneRow.holds Try.pinned (OpenSpec.ofChange countNoneSpec)

/-- ITS FALSE NEIGHBOUR: 'it returns false'. Refute it at one input. -/
def countNoneWrong : ChangeSpec := { name := "countNone", fn := fun _ => fun
  | [d1, d2] => { results := [.lit (.bool false)], args := [d1, d2] }
  | _ => none }
def CountNoneWrongFalsely : Prop := countNoneRow.holds Try.pinned (OpenSpec.ofChange countNoneWrong)

/- THE SECOND FORM. 'bulk': how many values and letters a reading holds, each counted each time it is reached (what is shared counts as often as it is met; a slice's spare places count too). A statement '..UptoSaid' is the law's where the arguments, and the package variables that the reading takes, are together of bulk at most 1048576: NARROWER than '..Said'. Prove '..Said' where nothing that the law and all that it calls make is longer than what came in: it says more and counts as full. Else prove '..UptoSaid'. A law counts once. -/
mutual
def uptoBulk {H : Type} : DataW H → Nat
  | .lit (.string bytes) => bytes.length + 1
  | .lit _ => 1
  | .nil => 1
  | .ptr d => uptoBulk d + 1
  | .slice elems spare => uptoBulkAll elems + uptoBulkAll spare + 1
  | .agg parts => uptoBulkAll parts + 1
  | .iface _ d => uptoBulk d + 1
  | .map entries => uptoBulkEntries entries + 1
  | .held _ => 1
def uptoBulkAll {H : Type} : List (DataW H) → Nat
  | [] => 0
  | d :: r => uptoBulk d + uptoBulkAll r
def uptoBulkEntries {H : Type} : List (Lit × DataW H) → Nat
  | [] => 0
  | x :: r => uptoBulkEntry x + uptoBulkEntries r
def uptoBulkEntry {H : Type} : Lit × DataW H → Nat
  | (.string bytes, d) => bytes.length + uptoBulk d + 1
  | (_, d) => uptoBulk d + 1
 end
def uptoSmall : (H : Type) → List (DataW H) → Bool := fun _ ds => decide (uptoBulkAll ds ≤ 1048576)
def OpenSpec.upto (s : _root_.Go.ChangeSpec) : _root_.Go.OpenSpec := { _root_.Go.OpenSpec.ofChange s with cond := some uptoSmall }

/-- 'sandglasslaw27.CountTells', WHERE WHAT IT READS IS OF BULK AT MOST 1048576: true; the input reads as it did. -/
def countTellsUptoRow : OpenClaim := { program := "ytohkdjaobdgenaa", sum := "c92d6abd122b7d7cd9ad1fe07a87870a78bd5c7f4620f4bc9f9df07a5ec12444", func := "sandglass/sandglasslaw27.CountTells", spec := "countTells", unfollowed := true, recurses := true, apart := false, narrowed := true }
def CountTellsUptoSaid : Prop := countTellsUptoRow.holds Try.pinned (OpenSpec.upto countTellsSpec)

/-- 'sandglasslaw27.CountSince', WHERE WHAT IT READS IS OF BULK AT MOST 1048576: true; the input reads as it did. -/
def countSinceUptoRow : OpenClaim := { program := "ytohkdjaobdgenaa", sum := "c92d6abd122b7d7cd9ad1fe07a87870a78bd5c7f4620f4bc9f9df07a5ec12444", func := "sandglass/sandglasslaw27.CountSince", spec := "countSince", unfollowed := true, recurses := true, apart := false, narrowed := true }
def CountSinceUptoSaid : Prop := countSinceUptoRow.holds Try.pinned (OpenSpec.upto countSinceSpec)

/-- 'sandglasslaw27.CountTurned', WHERE WHAT IT READS IS OF BULK AT MOST 1048576: true; the input reads as it did. -/
def countTurnedUptoRow : OpenClaim := { program := "ytohkdjaobdgenaa", sum := "c92d6abd122b7d7cd9ad1fe07a87870a78bd5c7f4620f4bc9f9df07a5ec12444", func := "sandglass/sandglasslaw27.CountTurned", spec := "countTurned", unfollowed := true, recurses := true, apart := false, narrowed := true }
def CountTurnedUptoSaid : Prop := countTurnedUptoRow.holds Try.pinned (OpenSpec.upto countTurnedSpec)

/-- 'sandglasslaw27.CountDrain', WHERE WHAT IT READS IS OF BULK AT MOST 1048576: true; the input reads as it did. -/
def countDrainUptoRow : OpenClaim := { program := "ytohkdjaobdgenaa", sum := "c92d6abd122b7d7cd9ad1fe07a87870a78bd5c7f4620f4bc9f9df07a5ec12444", func := "sandglass/sandglasslaw27.CountDrain", spec := "countDrain", unfollowed := true, recurses := true, apart := false, narrowed := true }
def CountDrainUptoSaid : Prop := countDrainUptoRow.holds Try.pinned (OpenSpec.upto countDrainSpec)

/-- 'sandglasslaw27.CountAhead', WHERE WHAT IT READS IS OF BULK AT MOST 1048576: true; the input reads as it did. -/
def countAheadUptoRow : OpenClaim := { program := "ytohkdjaobdgenaa", sum := "c92d6abd122b7d7cd9ad1fe07a87870a78bd5c7f4620f4bc9f9df07a5ec12444", func := "sandglass/sandglasslaw27.CountAhead", spec := "countAhead", unfollowed := true, recurses := true, apart := false, narrowed := true }
def CountAheadUptoSaid : Prop := countAheadUptoRow.holds Try.pinned (OpenSpec.upto countAheadSpec)

/-- 'sandglasslaw27.CountNone', WHERE WHAT IT READS IS OF BULK AT MOST 1048576: true; the input reads as it did. -/
def countNoneUptoRow : OpenClaim := { program := "ytohkdjaobdgenaa", sum := "c92d6abd122b7d7cd9ad1fe07a87870a78bd5c7f4620f4bc9f9df07a5ec12444", func := "sandglass/sandglasslaw27.CountNone", spec := "countNone", unfollowed := true, recurses := true, apart := false, narrowed := true }
def CountNoneUptoSaid : Prop := countNoneUptoRow.holds Try.pinned (OpenSpec.upto countNoneSpec)

end Rows
end Go.Proofs.Ytohkdjaobdgenaa
