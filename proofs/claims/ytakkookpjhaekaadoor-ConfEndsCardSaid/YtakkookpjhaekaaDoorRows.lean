/-
  NARROWER THAN 'FOR EVERY INPUT', by the rows' own cells (each row's printed sentence says how): PrioTells: laid · PrioOnce: laid · PrioTurn: laid · PrioUsual: laid · PrioBeyond: laid · ConfTells: laid · ConfUsual: laid · ConfWrong: laid · ConfEnds: laid.
  DERIVED. THE GIVEN ROWS OF THIS SEAT. 9 by the template 'for every input the law returns true; each argument reads behind the call as it read before'; 0 by the template 'total and deterministic' (their statements: YtakkookpjhaekaaDoorTotals.lean).
  GIVEN WITH THE SEED: the statements are not yours to turn. If you find one false, say at which input.
  Laid BY PROGRAM, IN A SANDBOX (cutbox-rows.mjs): the forced cells as the released guide's own fill.sh prints them over the translation 2a88be1bfa33da11… (all of the seat's roots in one cut). By AI agents, Wed Nov 11 2026. No macro, syntax, notation, axiom, sorry.
-/
import Derived.Test.YtakkookpjhaekaaDoorChecked
import GoSem.Claim
import GoSem.ClaimJoined
import GoSem.ClaimMapViews
import Derived.JoinedTies
import Derived.KernelRfl
namespace Go.Proofs.YtakkookpjhaekaaDoor
/- THE CELL 'sum', in the pinned program and in every row, IS THE sha256 OF THE DUMP (.gsa) THAT YtakkookpjhaekaaDoorProg.lean LOADS. Nothing in Lean hashes anything: it is a label: what it is worth is what the hold of that sum in a sandbox is worth. -/
noncomputable def Tryd.pinned : Pinned := { name := "ytakkookpjhaekaadoor", sum := "2a88be1bfa33da11df8aab891b55fed6b7bff5e6334135fd3d9b4401b6a8d6bc", checked := Tryd.checked }
namespace Rows
def none {H : Type} : Left H := { results := [], args := [] }

/- WHAT THE LISTED PACKAGE-LEVEL VARIABLES READ AS WHEN THE CALL BEGINS. Each datum BY PROGRAM (the guide's laid-datum.mjs) off the statement by which the dump's own 'gosem.cut.vars' lays the variable. In a bare row this is a premise. The card (YtakkookpjhaekaaDoorCards.lean) ties it to the program's text. -/
def laid_sandglass_prio_usual {H : Type} : DataW H := .agg [.lit (.int .u8 1), .lit (.int .u8 2), .lit (.int .u8 2), .lit (.int .u8 2), .lit (.int .u8 1), .lit (.int .u8 2), .lit (.int .u8 0), .lit (.int .u8 3), .lit (.int .u8 1), .lit (.int .u8 1), .lit (.int .u8 1), .lit (.int .u8 1), .lit (.int .u8 1), .lit (.int .u8 1), .lit (.int .u8 1), .lit (.int .u8 1)]

/-- 'sandglasslaw16.PrioTells': WHATEVER THE INPUT: true; the input reads as it did. -/
def prioTellsSpec : ChangeSpec := { name := "prioTells", fn := fun _ => fun
  | [d1, d2, d3, d4] => { results := [.lit (.bool true)], args := [d1, d2, d3, d4] }
  | _ => none }
def prioTellsRow : OpenClaim := { program := "ytakkookpjhaekaadoor", sum := "2a88be1bfa33da11df8aab891b55fed6b7bff5e6334135fd3d9b4401b6a8d6bc", func := "sandglass/sandglasslaw16.PrioTells", spec := "prioTells", named := ["sandglass/prio.usual"], apart := false, laid := [("sandglass/prio.usual", laid_sandglass_prio_usual)] }
def PrioTellsSaid : Prop := prioTellsRow.holds Tryd.pinned (OpenSpec.ofChange prioTellsSpec)

/-- ITS FALSE NEIGHBOUR: 'it returns false'. Refute it at one input. -/
def prioTellsWrong : ChangeSpec := { name := "prioTells", fn := fun _ => fun
  | [d1, d2, d3, d4] => { results := [.lit (.bool false)], args := [d1, d2, d3, d4] }
  | _ => none }
def PrioTellsWrongFalsely : Prop := prioTellsRow.holds Tryd.pinned (OpenSpec.ofChange prioTellsWrong)

/-- 'sandglasslaw16.PrioOnce': WHATEVER THE INPUT: true; the input reads as it did. -/
def prioOnceSpec : ChangeSpec := { name := "prioOnce", fn := fun _ => fun
  | [d] => { results := [.lit (.bool true)], args := [d] }
  | _ => none }
def prioOnceRow : OpenClaim := { program := "ytakkookpjhaekaadoor", sum := "2a88be1bfa33da11df8aab891b55fed6b7bff5e6334135fd3d9b4401b6a8d6bc", func := "sandglass/sandglasslaw16.PrioOnce", spec := "prioOnce", named := ["sandglass/prio.usual"], apart := false, laid := [("sandglass/prio.usual", laid_sandglass_prio_usual)] }
def PrioOnceSaid : Prop := prioOnceRow.holds Tryd.pinned (OpenSpec.ofChange prioOnceSpec)

/-- ITS FALSE NEIGHBOUR: 'it returns false'. Refute it at one input. -/
def prioOnceWrong : ChangeSpec := { name := "prioOnce", fn := fun _ => fun
  | [d] => { results := [.lit (.bool false)], args := [d] }
  | _ => none }
def PrioOnceWrongFalsely : Prop := prioOnceRow.holds Tryd.pinned (OpenSpec.ofChange prioOnceWrong)

/-- 'sandglasslaw16.PrioTurn': WHATEVER THE INPUT: true; the input reads as it did. -/
def prioTurnSpec : ChangeSpec := { name := "prioTurn", fn := fun _ => fun
  | [d1, d2, d3] => { results := [.lit (.bool true)], args := [d1, d2, d3] }
  | _ => none }
def prioTurnRow : OpenClaim := { program := "ytakkookpjhaekaadoor", sum := "2a88be1bfa33da11df8aab891b55fed6b7bff5e6334135fd3d9b4401b6a8d6bc", func := "sandglass/sandglasslaw16.PrioTurn", spec := "prioTurn", named := ["sandglass/prio.usual"], apart := false, laid := [("sandglass/prio.usual", laid_sandglass_prio_usual)] }
def PrioTurnSaid : Prop := prioTurnRow.holds Tryd.pinned (OpenSpec.ofChange prioTurnSpec)

/-- ITS FALSE NEIGHBOUR: 'it returns false'. Refute it at one input. -/
def prioTurnWrong : ChangeSpec := { name := "prioTurn", fn := fun _ => fun
  | [d1, d2, d3] => { results := [.lit (.bool false)], args := [d1, d2, d3] }
  | _ => none }
def PrioTurnWrongFalsely : Prop := prioTurnRow.holds Tryd.pinned (OpenSpec.ofChange prioTurnWrong)

/-- 'sandglasslaw16.PrioUsual': WHATEVER THE INPUT: true; the input reads as it did. -/
def prioUsualSpec : ChangeSpec := { name := "prioUsual", fn := fun _ => fun
  | [d1, d2] => { results := [.lit (.bool true)], args := [d1, d2] }
  | _ => none }
def prioUsualRow : OpenClaim := { program := "ytakkookpjhaekaadoor", sum := "2a88be1bfa33da11df8aab891b55fed6b7bff5e6334135fd3d9b4401b6a8d6bc", func := "sandglass/sandglasslaw16.PrioUsual", spec := "prioUsual", named := ["sandglass/prio.usual"], apart := false, laid := [("sandglass/prio.usual", laid_sandglass_prio_usual)] }
def PrioUsualSaid : Prop := prioUsualRow.holds Tryd.pinned (OpenSpec.ofChange prioUsualSpec)

/-- ITS FALSE NEIGHBOUR: 'it returns false'. Refute it at one input. -/
def prioUsualWrong : ChangeSpec := { name := "prioUsual", fn := fun _ => fun
  | [d1, d2] => { results := [.lit (.bool false)], args := [d1, d2] }
  | _ => none }
def PrioUsualWrongFalsely : Prop := prioUsualRow.holds Tryd.pinned (OpenSpec.ofChange prioUsualWrong)

/-- 'sandglasslaw16.PrioBeyond': WHATEVER THE INPUT: true; the input reads as it did. -/
def prioBeyondSpec : ChangeSpec := { name := "prioBeyond", fn := fun _ => fun
  | [d1, d2, d3, d4] => { results := [.lit (.bool true)], args := [d1, d2, d3, d4] }
  | _ => none }
def prioBeyondRow : OpenClaim := { program := "ytakkookpjhaekaadoor", sum := "2a88be1bfa33da11df8aab891b55fed6b7bff5e6334135fd3d9b4401b6a8d6bc", func := "sandglass/sandglasslaw16.PrioBeyond", spec := "prioBeyond", named := ["sandglass/prio.usual"], apart := false, laid := [("sandglass/prio.usual", laid_sandglass_prio_usual)] }
def PrioBeyondSaid : Prop := prioBeyondRow.holds Tryd.pinned (OpenSpec.ofChange prioBeyondSpec)

/-- ITS FALSE NEIGHBOUR: 'it returns false'. Refute it at one input. -/
def prioBeyondWrong : ChangeSpec := { name := "prioBeyond", fn := fun _ => fun
  | [d1, d2, d3, d4] => { results := [.lit (.bool false)], args := [d1, d2, d3, d4] }
  | _ => none }
def PrioBeyondWrongFalsely : Prop := prioBeyondRow.holds Tryd.pinned (OpenSpec.ofChange prioBeyondWrong)

/-- 'sandglasslaw22.ConfTells': WHATEVER THE INPUT: true; the input reads as it did. -/
def confTellsSpec : ChangeSpec := { name := "confTells", fn := fun _ => fun
  | [d1, d2] => { results := [.lit (.bool true)], args := [d1, d2] }
  | _ => none }
def confTellsRow : OpenClaim := { program := "ytakkookpjhaekaadoor", sum := "2a88be1bfa33da11df8aab891b55fed6b7bff5e6334135fd3d9b4401b6a8d6bc", func := "sandglass/sandglasslaw22.ConfTells", spec := "confTells", unfollowed := true, recurses := true, named := ["sandglass/prio.usual"], apart := false, laid := [("sandglass/prio.usual", laid_sandglass_prio_usual)] }
def ConfTellsSaid : Prop := confTellsRow.holds Tryd.pinned (OpenSpec.ofChange confTellsSpec)

/-- ITS FALSE NEIGHBOUR: 'it returns false'. Refute it at one input. -/
def confTellsWrong : ChangeSpec := { name := "confTells", fn := fun _ => fun
  | [d1, d2] => { results := [.lit (.bool false)], args := [d1, d2] }
  | _ => none }
def ConfTellsWrongFalsely : Prop := confTellsRow.holds Tryd.pinned (OpenSpec.ofChange confTellsWrong)

/-- 'sandglasslaw22.ConfUsual': WHATEVER THE INPUT: true; the input reads as it did. -/
def confUsualSpec : ChangeSpec := { name := "confUsual", fn := fun _ => fun
  | [d1, d2, d3] => { results := [.lit (.bool true)], args := [d1, d2, d3] }
  | _ => none }
def confUsualRow : OpenClaim := { program := "ytakkookpjhaekaadoor", sum := "2a88be1bfa33da11df8aab891b55fed6b7bff5e6334135fd3d9b4401b6a8d6bc", func := "sandglass/sandglasslaw22.ConfUsual", spec := "confUsual", unfollowed := true, recurses := true, named := ["sandglass/prio.usual"], apart := false, laid := [("sandglass/prio.usual", laid_sandglass_prio_usual)] }
def ConfUsualSaid : Prop := confUsualRow.holds Tryd.pinned (OpenSpec.ofChange confUsualSpec)

/-- ITS FALSE NEIGHBOUR: 'it returns false'. Refute it at one input. -/
def confUsualWrong : ChangeSpec := { name := "confUsual", fn := fun _ => fun
  | [d1, d2, d3] => { results := [.lit (.bool false)], args := [d1, d2, d3] }
  | _ => none }
def ConfUsualWrongFalsely : Prop := confUsualRow.holds Tryd.pinned (OpenSpec.ofChange confUsualWrong)

/-- 'sandglasslaw22.ConfWrong': WHATEVER THE INPUT: true; the input reads as it did. -/
def confWrongSpec : ChangeSpec := { name := "confWrong", fn := fun _ => fun
  | [d1, d2, d3] => { results := [.lit (.bool true)], args := [d1, d2, d3] }
  | _ => none }
def confWrongRow : OpenClaim := { program := "ytakkookpjhaekaadoor", sum := "2a88be1bfa33da11df8aab891b55fed6b7bff5e6334135fd3d9b4401b6a8d6bc", func := "sandglass/sandglasslaw22.ConfWrong", spec := "confWrong", unfollowed := true, recurses := true, named := ["sandglass/prio.usual"], apart := false, laid := [("sandglass/prio.usual", laid_sandglass_prio_usual)] }
def ConfWrongSaid : Prop := confWrongRow.holds Tryd.pinned (OpenSpec.ofChange confWrongSpec)

/-- ITS FALSE NEIGHBOUR: 'it returns false'. Refute it at one input. -/
def confWrongWrong : ChangeSpec := { name := "confWrong", fn := fun _ => fun
  | [d1, d2, d3] => { results := [.lit (.bool false)], args := [d1, d2, d3] }
  | _ => none }
def ConfWrongWrongFalsely : Prop := confWrongRow.holds Tryd.pinned (OpenSpec.ofChange confWrongWrong)

/-- 'sandglasslaw22.ConfEnds': WHATEVER THE INPUT: true; the input reads as it did. -/
def confEndsSpec : ChangeSpec := { name := "confEnds", fn := fun _ => fun
  | [d] => { results := [.lit (.bool true)], args := [d] }
  | _ => none }
def confEndsRow : OpenClaim := { program := "ytakkookpjhaekaadoor", sum := "2a88be1bfa33da11df8aab891b55fed6b7bff5e6334135fd3d9b4401b6a8d6bc", func := "sandglass/sandglasslaw22.ConfEnds", spec := "confEnds", unfollowed := true, recurses := true, named := ["sandglass/prio.usual"], apart := false, laid := [("sandglass/prio.usual", laid_sandglass_prio_usual)] }
def ConfEndsSaid : Prop := confEndsRow.holds Tryd.pinned (OpenSpec.ofChange confEndsSpec)

/-- ITS FALSE NEIGHBOUR: 'it returns false'. Refute it at one input. -/
def confEndsWrong : ChangeSpec := { name := "confEnds", fn := fun _ => fun
  | [d] => { results := [.lit (.bool false)], args := [d] }
  | _ => none }
def ConfEndsWrongFalsely : Prop := confEndsRow.holds Tryd.pinned (OpenSpec.ofChange confEndsWrong)

/- THE SECOND FORM. 'bulk': how many values and letters a reading holds, each counted each time it is reached (what is shared counts as often as it is met; a slice's spare places count too). A statement '..UptoSaid' is the law's where the arguments, and the package variables that the reading takes, are together of bulk at most 1048576: NARROWER than '..Said'. Prove '..Said' where nothing that the law and all that it calls make is longer than what came in: it says more and counts as full. Else prove '..UptoSaid'. A law counts once. -/
mutual
def uptoBulk {H : Type} : DataW H → Nat
  | .lit (.string bytes) => bytes.length + 1
  | .lit _ => 1
  | .nil => 1
  | .ptr d => uptoBulk d + 1
  | .slice elems spare => uptoBulkAll elems + uptoBulkAll spare + 1
  | .agg parts => uptoBulkAll parts + 1
  | .iface _ d => uptoBulk d + 1
  | .map entries => uptoBulkEntries entries + 1
  | .held _ => 1
def uptoBulkAll {H : Type} : List (DataW H) → Nat
  | [] => 0
  | d :: r => uptoBulk d + uptoBulkAll r
def uptoBulkEntries {H : Type} : List (Lit × DataW H) → Nat
  | [] => 0
  | x :: r => uptoBulkEntry x + uptoBulkEntries r
def uptoBulkEntry {H : Type} : Lit × DataW H → Nat
  | (.string bytes, d) => bytes.length + uptoBulk d + 1
  | (_, d) => uptoBulk d + 1
 end
def uptoSmall : (H : Type) → List (DataW H) → Bool := fun _ ds => decide (uptoBulkAll ds ≤ 1048576)
def OpenSpec.upto (s : _root_.Go.ChangeSpec) : _root_.Go.OpenSpec := { _root_.Go.OpenSpec.ofChange s with cond := some uptoSmall }

/-- 'sandglasslaw16.PrioTells', WHERE WHAT IT READS IS OF BULK AT MOST 1048576: true; the input reads as it did. -/
def prioTellsUptoRow : OpenClaim := { program := "ytakkookpjhaekaadoor", sum := "2a88be1bfa33da11df8aab891b55fed6b7bff5e6334135fd3d9b4401b6a8d6bc", func := "sandglass/sandglasslaw16.PrioTells", spec := "prioTells", named := ["sandglass/prio.usual"], apart := false, laid := [("sandglass/prio.usual", laid_sandglass_prio_usual)], narrowed := true }
def PrioTellsUptoSaid : Prop := prioTellsUptoRow.holds Tryd.pinned (OpenSpec.upto prioTellsSpec)

/-- 'sandglasslaw16.PrioOnce', WHERE WHAT IT READS IS OF BULK AT MOST 1048576: true; the input reads as it did. -/
def prioOnceUptoRow : OpenClaim := { program := "ytakkookpjhaekaadoor", sum := "2a88be1bfa33da11df8aab891b55fed6b7bff5e6334135fd3d9b4401b6a8d6bc", func := "sandglass/sandglasslaw16.PrioOnce", spec := "prioOnce", named := ["sandglass/prio.usual"], apart := false, laid := [("sandglass/prio.usual", laid_sandglass_prio_usual)], narrowed := true }
def PrioOnceUptoSaid : Prop := prioOnceUptoRow.holds Tryd.pinned (OpenSpec.upto prioOnceSpec)

/-- 'sandglasslaw16.PrioTurn', WHERE WHAT IT READS IS OF BULK AT MOST 1048576: true; the input reads as it did. -/
def prioTurnUptoRow : OpenClaim := { program := "ytakkookpjhaekaadoor", sum := "2a88be1bfa33da11df8aab891b55fed6b7bff5e6334135fd3d9b4401b6a8d6bc", func := "sandglass/sandglasslaw16.PrioTurn", spec := "prioTurn", named := ["sandglass/prio.usual"], apart := false, laid := [("sandglass/prio.usual", laid_sandglass_prio_usual)], narrowed := true }
def PrioTurnUptoSaid : Prop := prioTurnUptoRow.holds Tryd.pinned (OpenSpec.upto prioTurnSpec)

/-- 'sandglasslaw16.PrioUsual', WHERE WHAT IT READS IS OF BULK AT MOST 1048576: true; the input reads as it did. -/
def prioUsualUptoRow : OpenClaim := { program := "ytakkookpjhaekaadoor", sum := "2a88be1bfa33da11df8aab891b55fed6b7bff5e6334135fd3d9b4401b6a8d6bc", func := "sandglass/sandglasslaw16.PrioUsual", spec := "prioUsual", named := ["sandglass/prio.usual"], apart := false, laid := [("sandglass/prio.usual", laid_sandglass_prio_usual)], narrowed := true }
def PrioUsualUptoSaid : Prop := prioUsualUptoRow.holds Tryd.pinned (OpenSpec.upto prioUsualSpec)

/-- 'sandglasslaw16.PrioBeyond', WHERE WHAT IT READS IS OF BULK AT MOST 1048576: true; the input reads as it did. -/
def prioBeyondUptoRow : OpenClaim := { program := "ytakkookpjhaekaadoor", sum := "2a88be1bfa33da11df8aab891b55fed6b7bff5e6334135fd3d9b4401b6a8d6bc", func := "sandglass/sandglasslaw16.PrioBeyond", spec := "prioBeyond", named := ["sandglass/prio.usual"], apart := false, laid := [("sandglass/prio.usual", laid_sandglass_prio_usual)], narrowed := true }
def PrioBeyondUptoSaid : Prop := prioBeyondUptoRow.holds Tryd.pinned (OpenSpec.upto prioBeyondSpec)

/-- 'sandglasslaw22.ConfTells', WHERE WHAT IT READS IS OF BULK AT MOST 1048576: true; the input reads as it did. -/
def confTellsUptoRow : OpenClaim := { program := "ytakkookpjhaekaadoor", sum := "2a88be1bfa33da11df8aab891b55fed6b7bff5e6334135fd3d9b4401b6a8d6bc", func := "sandglass/sandglasslaw22.ConfTells", spec := "confTells", unfollowed := true, recurses := true, named := ["sandglass/prio.usual"], apart := false, laid := [("sandglass/prio.usual", laid_sandglass_prio_usual)], narrowed := true }
def ConfTellsUptoSaid : Prop := confTellsUptoRow.holds Tryd.pinned (OpenSpec.upto confTellsSpec)

/-- 'sandglasslaw22.ConfUsual', WHERE WHAT IT READS IS OF BULK AT MOST 1048576: true; the input reads as it did. -/
def confUsualUptoRow : OpenClaim := { program := "ytakkookpjhaekaadoor", sum := "2a88be1bfa33da11df8aab891b55fed6b7bff5e6334135fd3d9b4401b6a8d6bc", func := "sandglass/sandglasslaw22.ConfUsual", spec := "confUsual", unfollowed := true, recurses := true, named := ["sandglass/prio.usual"], apart := false, laid := [("sandglass/prio.usual", laid_sandglass_prio_usual)], narrowed := true }
def ConfUsualUptoSaid : Prop := confUsualUptoRow.holds Tryd.pinned (OpenSpec.upto confUsualSpec)

/-- 'sandglasslaw22.ConfWrong', WHERE WHAT IT READS IS OF BULK AT MOST 1048576: true; the input reads as it did. -/
def confWrongUptoRow : OpenClaim := { program := "ytakkookpjhaekaadoor", sum := "2a88be1bfa33da11df8aab891b55fed6b7bff5e6334135fd3d9b4401b6a8d6bc", func := "sandglass/sandglasslaw22.ConfWrong", spec := "confWrong", unfollowed := true, recurses := true, named := ["sandglass/prio.usual"], apart := false, laid := [("sandglass/prio.usual", laid_sandglass_prio_usual)], narrowed := true }
def ConfWrongUptoSaid : Prop := confWrongUptoRow.holds Tryd.pinned (OpenSpec.upto confWrongSpec)

/-- 'sandglasslaw22.ConfEnds', WHERE WHAT IT READS IS OF BULK AT MOST 1048576: true; the input reads as it did. -/
def confEndsUptoRow : OpenClaim := { program := "ytakkookpjhaekaadoor", sum := "2a88be1bfa33da11df8aab891b55fed6b7bff5e6334135fd3d9b4401b6a8d6bc", func := "sandglass/sandglasslaw22.ConfEnds", spec := "confEnds", unfollowed := true, recurses := true, named := ["sandglass/prio.usual"], apart := false, laid := [("sandglass/prio.usual", laid_sandglass_prio_usual)], narrowed := true }
def ConfEndsUptoSaid : Prop := confEndsUptoRow.holds Tryd.pinned (OpenSpec.upto confEndsSpec)

end Rows
end Go.Proofs.YtakkookpjhaekaaDoor
