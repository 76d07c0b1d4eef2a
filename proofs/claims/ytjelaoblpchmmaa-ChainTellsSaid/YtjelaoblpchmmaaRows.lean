/-
  No cell of these rows narrows 'for every input' (looked for: loops, veiled, ifaces, maps, wideKeys, modest, calm, conditions, laid).
  DERIVED. THE GIVEN ROWS OF THIS SEAT. 12 by the template 'for every input the law returns true; each argument reads behind the call as it read before'; 0 by the template 'total and deterministic' (their statements: YtjelaoblpchmmaaTotals.lean).
  GIVEN WITH THE SEED: the statements are not yours to turn. If you find one false, say at which input.
  Laid BY PROGRAM, IN A SANDBOX (cutbox-rows.mjs): the forced cells as the released guide's own fill.sh prints them over the translation 15752fca208a4df2… (all of the seat's roots in one cut). By AI agents, Wed Nov 11 2026. No macro, syntax, notation, axiom, sorry.
-/
import Derived.Test.YtjelaoblpchmmaaChecked
import GoSem.Claim
import GoSem.ClaimJoined
import GoSem.ClaimMapViews
import Derived.JoinedTies
import Derived.KernelRfl
namespace Go.Proofs.Ytjelaoblpchmmaa
/- THE CELL 'sum', in the pinned program and in every row, IS THE sha256 OF THE DUMP (.gsa) THAT YtjelaoblpchmmaaProg.lean LOADS. Nothing in Lean hashes anything: it is a label: what it is worth is what the hold of that sum in a sandbox is worth. -/
noncomputable def Try.pinned : Pinned := { name := "ytjelaoblpchmmaa", sum := "15752fca208a4df29af16ea269a95c0f79adcbb65f2d1f89b2af6fd7e69d7b67", checked := Try.checked }
namespace Rows
def none {H : Type} : Left H := { results := [], args := [] }

/-- 'sandglasslaw17.DrrLeaves': WHATEVER THE INPUT: true; the input reads as it did. -/
def drrLeavesSpec : ChangeSpec := { name := "drrLeaves", fn := fun _ => fun
  | [d1, d2] => { results := [.lit (.bool true)], args := [d1, d2] }
  | _ => none }
def drrLeavesRow : OpenClaim := { program := "ytjelaoblpchmmaa", sum := "15752fca208a4df29af16ea269a95c0f79adcbb65f2d1f89b2af6fd7e69d7b67", func := "sandglass/sandglasslaw17.DrrLeaves", spec := "drrLeaves", apart := false }
def DrrLeavesSaid : Prop := drrLeavesRow.holds Try.pinned (OpenSpec.ofChange drrLeavesSpec)

/-- ITS FALSE NEIGHBOUR: 'it returns false'. Refute it at one input. -/
def drrLeavesWrong : ChangeSpec := { name := "drrLeaves", fn := fun _ => fun
  | [d1, d2] => { results := [.lit (.bool false)], args := [d1, d2] }
  | _ => none }
def DrrLeavesWrongFalsely : Prop := drrLeavesRow.holds Try.pinned (OpenSpec.ofChange drrLeavesWrong)

/-- 'sandglasslaw17.DrrNone': WHATEVER THE INPUT: true; the input reads as it did. -/
def drrNoneSpec : ChangeSpec := { name := "drrNone", fn := fun _ => fun
  | [d1, d2] => { results := [.lit (.bool true)], args := [d1, d2] }
  | _ => none }
def drrNoneRow : OpenClaim := { program := "ytjelaoblpchmmaa", sum := "15752fca208a4df29af16ea269a95c0f79adcbb65f2d1f89b2af6fd7e69d7b67", func := "sandglass/sandglasslaw17.DrrNone", spec := "drrNone", apart := false }
def DrrNoneSaid : Prop := drrNoneRow.holds Try.pinned (OpenSpec.ofChange drrNoneSpec)

/-- ITS FALSE NEIGHBOUR: 'it returns false'. Refute it at one input. -/
def drrNoneWrong : ChangeSpec := { name := "drrNone", fn := fun _ => fun
  | [d1, d2] => { results := [.lit (.bool false)], args := [d1, d2] }
  | _ => none }
def DrrNoneWrongFalsely : Prop := drrNoneRow.holds Try.pinned (OpenSpec.ofChange drrNoneWrong)

/-- 'sandglasslaw05.ChainApart': WHATEVER THE INPUT: true; the input reads as it did. -/
def chainApartSpec : ChangeSpec := { name := "chainApart", fn := fun _ => fun
  | [d1, d2, d3] => { results := [.lit (.bool true)], args := [d1, d2, d3] }
  | _ => none }
def chainApartRow : OpenClaim := { program := "ytjelaoblpchmmaa", sum := "15752fca208a4df29af16ea269a95c0f79adcbb65f2d1f89b2af6fd7e69d7b67", func := "sandglass/sandglasslaw05.ChainApart", spec := "chainApart", apart := false }
def ChainApartSaid : Prop := chainApartRow.holds Try.pinned (OpenSpec.ofChange chainApartSpec)

/-- ITS FALSE NEIGHBOUR: 'it returns false'. Refute it at one input. -/
def chainApartWrong : ChangeSpec := { name := "chainApart", fn := fun _ => fun
  | [d1, d2, d3] => { results := [.lit (.bool false)], args := [d1, d2, d3] }
  | _ => none }
def ChainApartWrongFalsely : Prop := chainApartRow.holds Try.pinned (OpenSpec.ofChange chainApartWrong)

/-- 'sandglasslaw05.ChainTells': WHATEVER THE INPUT: true; the input reads as it did. -/
def chainTellsSpec : ChangeSpec := { name := "chainTells", fn := fun _ => fun
  | [d1, d2, d3] => { results := [.lit (.bool true)], args := [d1, d2, d3] }
  | _ => none }
def chainTellsRow : OpenClaim := { program := "ytjelaoblpchmmaa", sum := "15752fca208a4df29af16ea269a95c0f79adcbb65f2d1f89b2af6fd7e69d7b67", func := "sandglass/sandglasslaw05.ChainTells", spec := "chainTells", apart := false }
def ChainTellsSaid : Prop := chainTellsRow.holds Try.pinned (OpenSpec.ofChange chainTellsSpec)

/-- ITS FALSE NEIGHBOUR: 'it returns false'. Refute it at one input. -/
def chainTellsWrong : ChangeSpec := { name := "chainTells", fn := fun _ => fun
  | [d1, d2, d3] => { results := [.lit (.bool false)], args := [d1, d2, d3] }
  | _ => none }
def ChainTellsWrongFalsely : Prop := chainTellsRow.holds Try.pinned (OpenSpec.ofChange chainTellsWrong)

/-- 'sandglasslaw05.ChainOrder': WHATEVER THE INPUT: true; the input reads as it did. -/
def chainOrderSpec : ChangeSpec := { name := "chainOrder", fn := fun _ => fun
  | [d1, d2, d3, d4] => { results := [.lit (.bool true)], args := [d1, d2, d3, d4] }
  | _ => none }
def chainOrderRow : OpenClaim := { program := "ytjelaoblpchmmaa", sum := "15752fca208a4df29af16ea269a95c0f79adcbb65f2d1f89b2af6fd7e69d7b67", func := "sandglass/sandglasslaw05.ChainOrder", spec := "chainOrder", apart := false }
def ChainOrderSaid : Prop := chainOrderRow.holds Try.pinned (OpenSpec.ofChange chainOrderSpec)

/-- ITS FALSE NEIGHBOUR: 'it returns false'. Refute it at one input. -/
def chainOrderWrong : ChangeSpec := { name := "chainOrder", fn := fun _ => fun
  | [d1, d2, d3, d4] => { results := [.lit (.bool false)], args := [d1, d2, d3, d4] }
  | _ => none }
def ChainOrderWrongFalsely : Prop := chainOrderRow.holds Try.pinned (OpenSpec.ofChange chainOrderWrong)

/-- 'sandglasslaw05.ChainOnce': WHATEVER THE INPUT: true; the input reads as it did. -/
def chainOnceSpec : ChangeSpec := { name := "chainOnce", fn := fun _ => fun
  | [d] => { results := [.lit (.bool true)], args := [d] }
  | _ => none }
def chainOnceRow : OpenClaim := { program := "ytjelaoblpchmmaa", sum := "15752fca208a4df29af16ea269a95c0f79adcbb65f2d1f89b2af6fd7e69d7b67", func := "sandglass/sandglasslaw05.ChainOnce", spec := "chainOnce", apart := false }
def ChainOnceSaid : Prop := chainOnceRow.holds Try.pinned (OpenSpec.ofChange chainOnceSpec)

/-- ITS FALSE NEIGHBOUR: 'it returns false'. Refute it at one input. -/
def chainOnceWrong : ChangeSpec := { name := "chainOnce", fn := fun _ => fun
  | [d] => { results := [.lit (.bool false)], args := [d] }
  | _ => none }
def ChainOnceWrongFalsely : Prop := chainOnceRow.holds Try.pinned (OpenSpec.ofChange chainOnceWrong)

/-- 'sandglasslaw05.ChainBack': WHATEVER THE INPUT: true; the input reads as it did. -/
def chainBackSpec : ChangeSpec := { name := "chainBack", fn := fun _ => fun
  | [d1, d2, d3] => { results := [.lit (.bool true)], args := [d1, d2, d3] }
  | _ => none }
def chainBackRow : OpenClaim := { program := "ytjelaoblpchmmaa", sum := "15752fca208a4df29af16ea269a95c0f79adcbb65f2d1f89b2af6fd7e69d7b67", func := "sandglass/sandglasslaw05.ChainBack", spec := "chainBack", apart := false }
def ChainBackSaid : Prop := chainBackRow.holds Try.pinned (OpenSpec.ofChange chainBackSpec)

/-- ITS FALSE NEIGHBOUR: 'it returns false'. Refute it at one input. -/
def chainBackWrong : ChangeSpec := { name := "chainBack", fn := fun _ => fun
  | [d1, d2, d3] => { results := [.lit (.bool false)], args := [d1, d2, d3] }
  | _ => none }
def ChainBackWrongFalsely : Prop := chainBackRow.holds Try.pinned (OpenSpec.ofChange chainBackWrong)

/-- 'sandglasslaw05.ChainNone': WHATEVER THE INPUT: true; the input reads as it did. -/
def chainNoneSpec : ChangeSpec := { name := "chainNone", fn := fun _ => fun
  | [d1, d2] => { results := [.lit (.bool true)], args := [d1, d2] }
  | _ => none }
def chainNoneRow : OpenClaim := { program := "ytjelaoblpchmmaa", sum := "15752fca208a4df29af16ea269a95c0f79adcbb65f2d1f89b2af6fd7e69d7b67", func := "sandglass/sandglasslaw05.ChainNone", spec := "chainNone", apart := false }
def ChainNoneSaid : Prop := chainNoneRow.holds Try.pinned (OpenSpec.ofChange chainNoneSpec)

/-- ITS FALSE NEIGHBOUR: 'it returns false'. Refute it at one input. -/
def chainNoneWrong : ChangeSpec := { name := "chainNone", fn := fun _ => fun
  | [d1, d2] => { results := [.lit (.bool false)], args := [d1, d2] }
  | _ => none }
def ChainNoneWrongFalsely : Prop := chainNoneRow.holds Try.pinned (OpenSpec.ofChange chainNoneWrong)

/-- 'sandglasslaw17.DrrFair': WHATEVER THE INPUT: true; the input reads as it did. -/
def drrFairSpec : ChangeSpec := { name := "drrFair", fn := fun _ => fun
  | [d1, d2, d3, d4, d5, d6] => { results := [.lit (.bool true)], args := [d1, d2, d3, d4, d5, d6] }
  | _ => none }
def drrFairRow : OpenClaim := { program := "ytjelaoblpchmmaa", sum := "15752fca208a4df29af16ea269a95c0f79adcbb65f2d1f89b2af6fd7e69d7b67", func := "sandglass/sandglasslaw17.DrrFair", spec := "drrFair", apart := false }
def DrrFairSaid : Prop := drrFairRow.holds Try.pinned (OpenSpec.ofChange drrFairSpec)

/-- ITS FALSE NEIGHBOUR: 'it returns false'. Refute it at one input. -/
def drrFairWrong : ChangeSpec := { name := "drrFair", fn := fun _ => fun
  | [d1, d2, d3, d4, d5, d6] => { results := [.lit (.bool false)], args := [d1, d2, d3, d4, d5, d6] }
  | _ => none }
def DrrFairWrongFalsely : Prop := drrFairRow.holds Try.pinned (OpenSpec.ofChange drrFairWrong)

/-- 'sandglasslaw17.DrrTells': WHATEVER THE INPUT: true; the input reads as it did. -/
def drrTellsSpec : ChangeSpec := { name := "drrTells", fn := fun _ => fun
  | [d1, d2, d3] => { results := [.lit (.bool true)], args := [d1, d2, d3] }
  | _ => none }
def drrTellsRow : OpenClaim := { program := "ytjelaoblpchmmaa", sum := "15752fca208a4df29af16ea269a95c0f79adcbb65f2d1f89b2af6fd7e69d7b67", func := "sandglass/sandglasslaw17.DrrTells", spec := "drrTells", apart := false }
def DrrTellsSaid : Prop := drrTellsRow.holds Try.pinned (OpenSpec.ofChange drrTellsSpec)

/-- ITS FALSE NEIGHBOUR: 'it returns false'. Refute it at one input. -/
def drrTellsWrong : ChangeSpec := { name := "drrTells", fn := fun _ => fun
  | [d1, d2, d3] => { results := [.lit (.bool false)], args := [d1, d2, d3] }
  | _ => none }
def DrrTellsWrongFalsely : Prop := drrTellsRow.holds Try.pinned (OpenSpec.ofChange drrTellsWrong)

/-- 'sandglasslaw17.DrrTurn': WHATEVER THE INPUT: true; the input reads as it did. -/
def drrTurnSpec : ChangeSpec := { name := "drrTurn", fn := fun _ => fun
  | [d1, d2] => { results := [.lit (.bool true)], args := [d1, d2] }
  | _ => none }
def drrTurnRow : OpenClaim := { program := "ytjelaoblpchmmaa", sum := "15752fca208a4df29af16ea269a95c0f79adcbb65f2d1f89b2af6fd7e69d7b67", func := "sandglass/sandglasslaw17.DrrTurn", spec := "drrTurn", apart := false }
def DrrTurnSaid : Prop := drrTurnRow.holds Try.pinned (OpenSpec.ofChange drrTurnSpec)

/-- ITS FALSE NEIGHBOUR: 'it returns false'. Refute it at one input. -/
def drrTurnWrong : ChangeSpec := { name := "drrTurn", fn := fun _ => fun
  | [d1, d2] => { results := [.lit (.bool false)], args := [d1, d2] }
  | _ => none }
def DrrTurnWrongFalsely : Prop := drrTurnRow.holds Try.pinned (OpenSpec.ofChange drrTurnWrong)

/-- 'sandglasslaw17.DrrNew': WHATEVER THE INPUT: true; the input reads as it did. -/
def drrNewSpec : ChangeSpec := { name := "drrNew", fn := fun _ => fun
  | [d1, d2, d3, d4] => { results := [.lit (.bool true)], args := [d1, d2, d3, d4] }
  | _ => none }
def drrNewRow : OpenClaim := { program := "ytjelaoblpchmmaa", sum := "15752fca208a4df29af16ea269a95c0f79adcbb65f2d1f89b2af6fd7e69d7b67", func := "sandglass/sandglasslaw17.DrrNew", spec := "drrNew", apart := false }
def DrrNewSaid : Prop := drrNewRow.holds Try.pinned (OpenSpec.ofChange drrNewSpec)

/-- ITS FALSE NEIGHBOUR: 'it returns false'. Refute it at one input. -/
def drrNewWrong : ChangeSpec := { name := "drrNew", fn := fun _ => fun
  | [d1, d2, d3, d4] => { results := [.lit (.bool false)], args := [d1, d2, d3, d4] }
  | _ => none }
def DrrNewWrongFalsely : Prop := drrNewRow.holds Try.pinned (OpenSpec.ofChange drrNewWrong)

/- THE SECOND FORM. 'bulk': how many values and letters a reading holds, each counted each time it is reached (what is shared counts as often as it is met; a slice's spare places count too). A statement '..UptoSaid' is the law's where the arguments, and the package variables that the reading takes, are together of bulk at most 1048576: NARROWER than '..Said'. Prove '..Said' where nothing that the law and all that it calls make is longer than what came in: it says more and counts as full. Else prove '..UptoSaid'. A law counts once. -/
mutual
def uptoBulk {H : Type} : DataW H → Nat
  | .lit (.string bytes) => bytes.length + 1
  | .lit _ => 1
  | .nil => 1
  | .ptr d => uptoBulk d + 1
  | .slice elems spare => uptoBulkAll elems + uptoBulkAll spare + 1
  | .agg parts => uptoBulkAll parts + 1
  | .iface _ d => uptoBulk d + 1
  | .map entries => uptoBulkEntries entries + 1
  | .held _ => 1
def uptoBulkAll {H : Type} : List (DataW H) → Nat
  | [] => 0
  | d :: r => uptoBulk d + uptoBulkAll r
def uptoBulkEntries {H : Type} : List (Lit × DataW H) → Nat
  | [] => 0
  | x :: r => uptoBulkEntry x + uptoBulkEntries r
def uptoBulkEntry {H : Type} : Lit × DataW H → Nat
  | (.string bytes, d) => bytes.length + uptoBulk d + 1
  | (_, d) => uptoBulk d + 1
 end
def uptoSmall : (H : Type) → List (DataW H) → Bool := fun _ ds => decide (uptoBulkAll ds ≤ 1048576)
def OpenSpec.upto (s : _root_.Go.ChangeSpec) : _root_.Go.OpenSpec := { _root_.Go.OpenSpec.ofChange s with cond := some uptoSmall }

/-- 'sandglasslaw17.DrrLeaves', WHERE WHAT IT READS IS OF BULK AT MOST 1048576: true; the input reads as it did. -/
def drrLeavesUptoRow : OpenClaim := { program := "ytjelaoblpchmmaa", sum := "15752fca208a4df29af16ea269a95c0f79adcbb65f2d1f89b2af6fd7e69d7b67", func := "sandglass/sandglasslaw17.DrrLeaves", spec := "drrLeaves", apart := false, narrowed := true }
def DrrLeavesUptoSaid : Prop := drrLeavesUptoRow.holds Try.pinned (OpenSpec.upto drrLeavesSpec)

/-- 'sandglasslaw17.DrrNone', WHERE WHAT IT READS IS OF BULK AT MOST 1048576: true; the input reads as it did. -/
def drrNoneUptoRow : OpenClaim := { program := "ytjelaoblpchmmaa", sum := "15752fca208a4df29af16ea269a95c0f79adcbb65f2d1f89b2af6fd7e69d7b67", func := "sandglass/sandglasslaw17.DrrNone", spec := "drrNone", apart := false, narrowed := true }
def DrrNoneUptoSaid : Prop := drrNoneUptoRow.holds Try.pinned (OpenSpec.upto drrNoneSpec)

/-- 'sandglasslaw05.ChainApart', WHERE WHAT IT READS IS OF BULK AT MOST 1048576: true; the input reads as it did. -/
def chainApartUptoRow : OpenClaim := { program := "ytjelaoblpchmmaa", sum := "15752fca208a4df29af16ea269a95c0f79adcbb65f2d1f89b2af6fd7e69d7b67", func := "sandglass/sandglasslaw05.ChainApart", spec := "chainApart", apart := false, narrowed := true }
def ChainApartUptoSaid : Prop := chainApartUptoRow.holds Try.pinned (OpenSpec.upto chainApartSpec)

/-- 'sandglasslaw05.ChainTells', WHERE WHAT IT READS IS OF BULK AT MOST 1048576: true; the input reads as it did. -/
def chainTellsUptoRow : OpenClaim := { program := "ytjelaoblpchmmaa", sum := "15752fca208a4df29af16ea269a95c0f79adcbb65f2d1f89b2af6fd7e69d7b67", func := "sandglass/sandglasslaw05.ChainTells", spec := "chainTells", apart := false, narrowed := true }
def ChainTellsUptoSaid : Prop := chainTellsUptoRow.holds Try.pinned (OpenSpec.upto chainTellsSpec)

/-- 'sandglasslaw05.ChainOrder', WHERE WHAT IT READS IS OF BULK AT MOST 1048576: true; the input reads as it did. -/
def chainOrderUptoRow : OpenClaim := { program := "ytjelaoblpchmmaa", sum := "15752fca208a4df29af16ea269a95c0f79adcbb65f2d1f89b2af6fd7e69d7b67", func := "sandglass/sandglasslaw05.ChainOrder", spec := "chainOrder", apart := false, narrowed := true }
def ChainOrderUptoSaid : Prop := chainOrderUptoRow.holds Try.pinned (OpenSpec.upto chainOrderSpec)

/-- 'sandglasslaw05.ChainOnce', WHERE WHAT IT READS IS OF BULK AT MOST 1048576: true; the input reads as it did. -/
def chainOnceUptoRow : OpenClaim := { program := "ytjelaoblpchmmaa", sum := "15752fca208a4df29af16ea269a95c0f79adcbb65f2d1f89b2af6fd7e69d7b67", func := "sandglass/sandglasslaw05.ChainOnce", spec := "chainOnce", apart := false, narrowed := true }
def ChainOnceUptoSaid : Prop := chainOnceUptoRow.holds Try.pinned (OpenSpec.upto chainOnceSpec)

/-- 'sandglasslaw05.ChainBack', WHERE WHAT IT READS IS OF BULK AT MOST 1048576: true; the input reads as it did. -/
def chainBackUptoRow : OpenClaim := { program := "ytjelaoblpchmmaa", sum := "15752fca208a4df29af16ea269a95c0f79adcbb65f2d1f89b2af6fd7e69d7b67", func := "sandglass/sandglasslaw05.ChainBack", spec := "chainBack", apart := false, narrowed := true }
def ChainBackUptoSaid : Prop := chainBackUptoRow.holds Try.pinned (OpenSpec.upto chainBackSpec)

/-- 'sandglasslaw05.ChainNone', WHERE WHAT IT READS IS OF BULK AT MOST 1048576: true; the input reads as it did. -/
def chainNoneUptoRow : OpenClaim := { program := "ytjelaoblpchmmaa", sum := "15752fca208a4df29af16ea269a95c0f79adcbb65f2d1f89b2af6fd7e69d7b67", func := "sandglass/sandglasslaw05.ChainNone", spec := "chainNone", apart := false, narrowed := true }
def ChainNoneUptoSaid : Prop := chainNoneUptoRow.holds Try.pinned (OpenSpec.upto chainNoneSpec)

/-- 'sandglasslaw17.DrrFair', WHERE WHAT IT READS IS OF BULK AT MOST 1048576: true; the input reads as it did. -/
def drrFairUptoRow : OpenClaim := { program := "ytjelaoblpchmmaa", sum := "15752fca208a4df29af16ea269a95c0f79adcbb65f2d1f89b2af6fd7e69d7b67", func := "sandglass/sandglasslaw17.DrrFair", spec := "drrFair", apart := false, narrowed := true }
def DrrFairUptoSaid : Prop := drrFairUptoRow.holds Try.pinned (OpenSpec.upto drrFairSpec)

/-- 'sandglasslaw17.DrrTells', WHERE WHAT IT READS IS OF BULK AT MOST 1048576: true; the input reads as it did. -/
def drrTellsUptoRow : OpenClaim := { program := "ytjelaoblpchmmaa", sum := "15752fca208a4df29af16ea269a95c0f79adcbb65f2d1f89b2af6fd7e69d7b67", func := "sandglass/sandglasslaw17.DrrTells", spec := "drrTells", apart := false, narrowed := true }
def DrrTellsUptoSaid : Prop := drrTellsUptoRow.holds Try.pinned (OpenSpec.upto drrTellsSpec)

/-- 'sandglasslaw17.DrrTurn', WHERE WHAT IT READS IS OF BULK AT MOST 1048576: true; the input reads as it did. -/
def drrTurnUptoRow : OpenClaim := { program := "ytjelaoblpchmmaa", sum := "15752fca208a4df29af16ea269a95c0f79adcbb65f2d1f89b2af6fd7e69d7b67", func := "sandglass/sandglasslaw17.DrrTurn", spec := "drrTurn", apart := false, narrowed := true }
def DrrTurnUptoSaid : Prop := drrTurnUptoRow.holds Try.pinned (OpenSpec.upto drrTurnSpec)

/-- 'sandglasslaw17.DrrNew', WHERE WHAT IT READS IS OF BULK AT MOST 1048576: true; the input reads as it did. -/
def drrNewUptoRow : OpenClaim := { program := "ytjelaoblpchmmaa", sum := "15752fca208a4df29af16ea269a95c0f79adcbb65f2d1f89b2af6fd7e69d7b67", func := "sandglass/sandglasslaw17.DrrNew", spec := "drrNew", apart := false, narrowed := true }
def DrrNewUptoSaid : Prop := drrNewUptoRow.holds Try.pinned (OpenSpec.upto drrNewSpec)

end Rows
end Go.Proofs.Ytjelaoblpchmmaa
