/-
  No cell of these rows narrows 'for every input' (looked for: loops, veiled, ifaces, maps, wideKeys, modest, calm, conditions, laid).
  DERIVED. THE GIVEN ROWS OF THIS SEAT. 6 by the template 'for every input the law returns true; each argument reads behind the call as it read before'; 0 by the template 'total and deterministic' (their statements: YtkfilmdnpocinaaTotals.lean).
  GIVEN WITH THE SEED: the statements are not yours to turn. If you find one false, say at which input.
  Laid BY PROGRAM, IN A SANDBOX (cutbox-rows.mjs): the forced cells as the released guide's own fill.sh prints them over the translation 46412ca31a66414e… (all of the seat's roots in one cut). By AI agents, Wed Nov 11 2026. No macro, syntax, notation, axiom, sorry.
-/
import Derived.Test.YtkfilmdnpocinaaChecked
import GoSem.Claim
import GoSem.ClaimJoined
import GoSem.ClaimMapViews
import Derived.JoinedTies
import Derived.KernelRfl
namespace Go.Proofs.Ytkfilmdnpocinaa
/- THE CELL 'sum', in the pinned program and in every row, IS THE sha256 OF THE DUMP (.gsa) THAT YtkfilmdnpocinaaProg.lean LOADS. Nothing in Lean hashes anything: it is a label: what it is worth is what the hold of that sum in a sandbox is worth. -/
noncomputable def Try.pinned : Pinned := { name := "ytkfilmdnpocinaa", sum := "46412ca31a66414e55019cc6924bb22a03f831ca9e396a4816e93d5b08299792", checked := Try.checked }
namespace Rows
def none {H : Type} : Left H := { results := [], args := [] }

/-- 'sandglasslaw18.BandsTells': WHATEVER THE INPUT: true; the input reads as it did. -/
def bandsTellsSpec : ChangeSpec := { name := "bandsTells", fn := fun _ => fun
  | [d1, d2] => { results := [.lit (.bool true)], args := [d1, d2] }
  | _ => none }
def bandsTellsRow : OpenClaim := { program := "ytkfilmdnpocinaa", sum := "46412ca31a66414e55019cc6924bb22a03f831ca9e396a4816e93d5b08299792", func := "sandglass/sandglasslaw18.BandsTells", spec := "bandsTells", apart := false }
def BandsTellsSaid : Prop := bandsTellsRow.holds Try.pinned (OpenSpec.ofChange bandsTellsSpec)

/-- ITS FALSE NEIGHBOUR: 'it returns false'. Refute it at one input. -/
def bandsTellsWrong : ChangeSpec := { name := "bandsTells", fn := fun _ => fun
  | [d1, d2] => { results := [.lit (.bool false)], args := [d1, d2] }
  | _ => none }
def BandsTellsWrongFalsely : Prop := bandsTellsRow.holds Try.pinned (OpenSpec.ofChange bandsTellsWrong)

/-- 'sandglasslaw18.BandsShare': WHATEVER THE INPUT: true; the input reads as it did. -/
def bandsShareSpec : ChangeSpec := { name := "bandsShare", fn := fun _ => fun
  | [d1, d2, d3, d4, d5] => { results := [.lit (.bool true)], args := [d1, d2, d3, d4, d5] }
  | _ => none }
def bandsShareRow : OpenClaim := { program := "ytkfilmdnpocinaa", sum := "46412ca31a66414e55019cc6924bb22a03f831ca9e396a4816e93d5b08299792", func := "sandglass/sandglasslaw18.BandsShare", spec := "bandsShare", apart := false }
def BandsShareSaid : Prop := bandsShareRow.holds Try.pinned (OpenSpec.ofChange bandsShareSpec)

/-- ITS FALSE NEIGHBOUR: 'it returns false'. Refute it at one input. -/
def bandsShareWrong : ChangeSpec := { name := "bandsShare", fn := fun _ => fun
  | [d1, d2, d3, d4, d5] => { results := [.lit (.bool false)], args := [d1, d2, d3, d4, d5] }
  | _ => none }
def BandsShareWrongFalsely : Prop := bandsShareRow.holds Try.pinned (OpenSpec.ofChange bandsShareWrong)

/-- 'sandglasslaw18.BandsAlone': WHATEVER THE INPUT: true; the input reads as it did. -/
def bandsAloneSpec : ChangeSpec := { name := "bandsAlone", fn := fun _ => fun
  | [d1, d2, d3, d4] => { results := [.lit (.bool true)], args := [d1, d2, d3, d4] }
  | _ => none }
def bandsAloneRow : OpenClaim := { program := "ytkfilmdnpocinaa", sum := "46412ca31a66414e55019cc6924bb22a03f831ca9e396a4816e93d5b08299792", func := "sandglass/sandglasslaw18.BandsAlone", spec := "bandsAlone", apart := false }
def BandsAloneSaid : Prop := bandsAloneRow.holds Try.pinned (OpenSpec.ofChange bandsAloneSpec)

/-- ITS FALSE NEIGHBOUR: 'it returns false'. Refute it at one input. -/
def bandsAloneWrong : ChangeSpec := { name := "bandsAlone", fn := fun _ => fun
  | [d1, d2, d3, d4] => { results := [.lit (.bool false)], args := [d1, d2, d3, d4] }
  | _ => none }
def BandsAloneWrongFalsely : Prop := bandsAloneRow.holds Try.pinned (OpenSpec.ofChange bandsAloneWrong)

/-- 'sandglasslaw18.BandsAgain': WHATEVER THE INPUT: true; the input reads as it did. -/
def bandsAgainSpec : ChangeSpec := { name := "bandsAgain", fn := fun _ => fun
  | [d1, d2, d3] => { results := [.lit (.bool true)], args := [d1, d2, d3] }
  | _ => none }
def bandsAgainRow : OpenClaim := { program := "ytkfilmdnpocinaa", sum := "46412ca31a66414e55019cc6924bb22a03f831ca9e396a4816e93d5b08299792", func := "sandglass/sandglasslaw18.BandsAgain", spec := "bandsAgain", apart := false }
def BandsAgainSaid : Prop := bandsAgainRow.holds Try.pinned (OpenSpec.ofChange bandsAgainSpec)

/-- ITS FALSE NEIGHBOUR: 'it returns false'. Refute it at one input. -/
def bandsAgainWrong : ChangeSpec := { name := "bandsAgain", fn := fun _ => fun
  | [d1, d2, d3] => { results := [.lit (.bool false)], args := [d1, d2, d3] }
  | _ => none }
def BandsAgainWrongFalsely : Prop := bandsAgainRow.holds Try.pinned (OpenSpec.ofChange bandsAgainWrong)

/-- 'sandglasslaw18.BandsTurn': WHATEVER THE INPUT: true; the input reads as it did. -/
def bandsTurnSpec : ChangeSpec := { name := "bandsTurn", fn := fun _ => fun
  | [d1, d2, d3, d4] => { results := [.lit (.bool true)], args := [d1, d2, d3, d4] }
  | _ => none }
def bandsTurnRow : OpenClaim := { program := "ytkfilmdnpocinaa", sum := "46412ca31a66414e55019cc6924bb22a03f831ca9e396a4816e93d5b08299792", func := "sandglass/sandglasslaw18.BandsTurn", spec := "bandsTurn", apart := false }
def BandsTurnSaid : Prop := bandsTurnRow.holds Try.pinned (OpenSpec.ofChange bandsTurnSpec)

/-- ITS FALSE NEIGHBOUR: 'it returns false'. Refute it at one input. -/
def bandsTurnWrong : ChangeSpec := { name := "bandsTurn", fn := fun _ => fun
  | [d1, d2, d3, d4] => { results := [.lit (.bool false)], args := [d1, d2, d3, d4] }
  | _ => none }
def BandsTurnWrongFalsely : Prop := bandsTurnRow.holds Try.pinned (OpenSpec.ofChange bandsTurnWrong)

/-- 'sandglasslaw18.BandsNone': WHATEVER THE INPUT: true; the input reads as it did. -/
def bandsNoneSpec : ChangeSpec := { name := "bandsNone", fn := fun _ => fun
  | [d1, d2, d3] => { results := [.lit (.bool true)], args := [d1, d2, d3] }
  | _ => none }
def bandsNoneRow : OpenClaim := { program := "ytkfilmdnpocinaa", sum := "46412ca31a66414e55019cc6924bb22a03f831ca9e396a4816e93d5b08299792", func := "sandglass/sandglasslaw18.BandsNone", spec := "bandsNone", apart := false }
def BandsNoneSaid : Prop := bandsNoneRow.holds Try.pinned (OpenSpec.ofChange bandsNoneSpec)

/-- ITS FALSE NEIGHBOUR: 'it returns false'. Refute it at one input. -/
def bandsNoneWrong : ChangeSpec := { name := "bandsNone", fn := fun _ => fun
  | [d1, d2, d3] => { results := [.lit (.bool false)], args := [d1, d2, d3] }
  | _ => none }
def BandsNoneWrongFalsely : Prop := bandsNoneRow.holds Try.pinned (OpenSpec.ofChange bandsNoneWrong)

/- THE SECOND FORM. 'bulk': how many values and letters a reading holds, each counted each time it is reached (what is shared counts as often as it is met; a slice's spare places count too). A statement '..UptoSaid' is the law's where the arguments, and the package variables that the reading takes, are together of bulk at most 1048576: NARROWER than '..Said'. Prove '..Said' where nothing that the law and all that it calls make is longer than what came in: it says more and counts as full. Else prove '..UptoSaid'. A law counts once. -/
mutual
def uptoBulk {H : Type} : DataW H → Nat
  | .lit (.string bytes) => bytes.length + 1
  | .lit _ => 1
  | .nil => 1
  | .ptr d => uptoBulk d + 1
  | .slice elems spare => uptoBulkAll elems + uptoBulkAll spare + 1
  | .agg parts => uptoBulkAll parts + 1
  | .iface _ d => uptoBulk d + 1
  | .map entries => uptoBulkEntries entries + 1
  | .held _ => 1
def uptoBulkAll {H : Type} : List (DataW H) → Nat
  | [] => 0
  | d :: r => uptoBulk d + uptoBulkAll r
def uptoBulkEntries {H : Type} : List (Lit × DataW H) → Nat
  | [] => 0
  | x :: r => uptoBulkEntry x + uptoBulkEntries r
def uptoBulkEntry {H : Type} : Lit × DataW H → Nat
  | (.string bytes, d) => bytes.length + uptoBulk d + 1
  | (_, d) => uptoBulk d + 1
 end
def uptoSmall : (H : Type) → List (DataW H) → Bool := fun _ ds => decide (uptoBulkAll ds ≤ 1048576)
def OpenSpec.upto (s : _root_.Go.ChangeSpec) : _root_.Go.OpenSpec := { _root_.Go.OpenSpec.ofChange s with cond := some uptoSmall }

/-- 'sandglasslaw18.BandsTells', WHERE WHAT IT READS IS OF BULK AT MOST 1048576: true; the input reads as it did. -/
def bandsTellsUptoRow : OpenClaim := { program := "ytkfilmdnpocinaa", sum := "46412ca31a66414e55019cc6924bb22a03f831ca9e396a4816e93d5b08299792", func := "sandglass/sandglasslaw18.BandsTells", spec := "bandsTells", apart := false, narrowed := true }
def BandsTellsUptoSaid : Prop := bandsTellsUptoRow.holds Try.pinned (OpenSpec.upto bandsTellsSpec)

/-- 'sandglasslaw18.BandsShare', WHERE WHAT IT READS IS OF BULK AT MOST 1048576: true; the input reads as it did. -/
def bandsShareUptoRow : OpenClaim := { program := "ytkfilmdnpocinaa", sum := "46412ca31a66414e55019cc6924bb22a03f831ca9e396a4816e93d5b08299792", func := "sandglass/sandglasslaw18.BandsShare", spec := "bandsShare", apart := false, narrowed := true }
def BandsShareUptoSaid : Prop := bandsShareUptoRow.holds Try.pinned (OpenSpec.upto bandsShareSpec)

/-- 'sandglasslaw18.BandsAlone', WHERE WHAT IT READS IS OF BULK AT MOST 1048576: true; the input reads as it did. -/
def bandsAloneUptoRow : OpenClaim := { program := "ytkfilmdnpocinaa", sum := "46412ca31a66414e55019cc6924bb22a03f831ca9e396a4816e93d5b08299792", func := "sandglass/sandglasslaw18.BandsAlone", spec := "bandsAlone", apart := false, narrowed := true }
def BandsAloneUptoSaid : Prop := bandsAloneUptoRow.holds Try.pinned (OpenSpec.upto bandsAloneSpec)

/-- 'sandglasslaw18.BandsAgain', WHERE WHAT IT READS IS OF BULK AT MOST 1048576: true; the input reads as it did. -/
def bandsAgainUptoRow : OpenClaim := { program := "ytkfilmdnpocinaa", sum := "46412ca31a66414e55019cc6924bb22a03f831ca9e396a4816e93d5b08299792", func := "sandglass/sandglasslaw18.BandsAgain", spec := "bandsAgain", apart := false, narrowed := true }
def BandsAgainUptoSaid : Prop := bandsAgainUptoRow.holds Try.pinned (OpenSpec.upto bandsAgainSpec)

/-- 'sandglasslaw18.BandsTurn', WHERE WHAT IT READS IS OF BULK AT MOST 1048576: true; the input reads as it did. -/
def bandsTurnUptoRow : OpenClaim := { program := "ytkfilmdnpocinaa", sum := "46412ca31a66414e55019cc6924bb22a03f831ca9e396a4816e93d5b08299792", func := "sandglass/sandglasslaw18.BandsTurn", spec := "bandsTurn", apart := false, narrowed := true }
def BandsTurnUptoSaid : Prop := bandsTurnUptoRow.holds Try.pinned (OpenSpec.upto bandsTurnSpec)

/-- 'sandglasslaw18.BandsNone', WHERE WHAT IT READS IS OF BULK AT MOST 1048576: true; the input reads as it did. -/
def bandsNoneUptoRow : OpenClaim := { program := "ytkfilmdnpocinaa", sum := "46412ca31a66414e55019cc6924bb22a03f831ca9e396a4816e93d5b08299792", func := "sandglass/sandglasslaw18.BandsNone", spec := "bandsNone", apart := false, narrowed := true }
def BandsNoneUptoSaid : Prop := bandsNoneUptoRow.holds Try.pinned (OpenSpec.upto bandsNoneSpec)

end Rows
end Go.Proofs.Ytkfilmdnpocinaa
