/-
  No cell of these rows narrows 'for every input' (looked for: loops, veiled, ifaces, maps, wideKeys, modest, calm, conditions, laid).
  DERIVED. THE GIVEN ROWS OF THIS SEAT. 5 by the template 'for every input the law returns true; each argument reads behind the call as it read before'; 0 by the template 'total and deterministic' (their statements: YtnajiccihfdggaaTotals.lean).
  GIVEN WITH THE SEED: the statements are not yours to turn. If you find one false, say at which input.
  Laid BY PROGRAM, IN A SANDBOX (cutbox-rows.mjs): the forced cells as the released guide's own fill.sh prints them over the translation db1ae3403a016bd7… (all of the seat's roots in one cut). By AI agents, Wed Nov 11 2026. No macro, syntax, notation, axiom, sorry.
-/
import Derived.Test.YtnajiccihfdggaaChecked
import GoSem.Claim
import GoSem.ClaimJoined
import GoSem.ClaimMapViews
import Derived.JoinedTies
import Derived.KernelRfl
namespace Go.Proofs.Ytnajiccihfdggaa
/- THE CELL 'sum', in the pinned program and in every row, IS THE sha256 OF THE DUMP (.gsa) THAT YtnajiccihfdggaaProg.lean LOADS. Nothing in Lean hashes anything: it is a label: what it is worth is what the hold of that sum in a sandbox is worth. -/
noncomputable def Try.pinned : Pinned := { name := "ytnajiccihfdggaa", sum := "db1ae3403a016bd7f2a5231df13c37c632d637efb768b40bd271a7653f9fd789", checked := Try.checked }
namespace Rows
def none {H : Type} : Left H := { results := [], args := [] }

/-- 'sandglasslaw21.LimitsTells': WHATEVER THE INPUT: true; the input reads as it did. -/
def limitsTellsSpec : ChangeSpec := { name := "limitsTells", fn := fun _ => fun
  | [d1, d2, d3] => { results := [.lit (.bool true)], args := [d1, d2, d3] }
  | _ => none }
def limitsTellsRow : OpenClaim := { program := "ytnajiccihfdggaa", sum := "db1ae3403a016bd7f2a5231df13c37c632d637efb768b40bd271a7653f9fd789", func := "sandglass/sandglasslaw21.LimitsTells", spec := "limitsTells", apart := false }
def LimitsTellsSaid : Prop := limitsTellsRow.holds Try.pinned (OpenSpec.ofChange limitsTellsSpec)

/-- ITS FALSE NEIGHBOUR: 'it returns false'. Refute it at one input. -/
def limitsTellsWrong : ChangeSpec := { name := "limitsTells", fn := fun _ => fun
  | [d1, d2, d3] => { results := [.lit (.bool false)], args := [d1, d2, d3] }
  | _ => none }
def LimitsTellsWrongFalsely : Prop := limitsTellsRow.holds Try.pinned (OpenSpec.ofChange limitsTellsWrong)

/-- 'sandglasslaw21.LimitsLeft': WHATEVER THE INPUT: true; the input reads as it did. -/
def limitsLeftSpec : ChangeSpec := { name := "limitsLeft", fn := fun _ => fun
  | [d1, d2] => { results := [.lit (.bool true)], args := [d1, d2] }
  | _ => none }
def limitsLeftRow : OpenClaim := { program := "ytnajiccihfdggaa", sum := "db1ae3403a016bd7f2a5231df13c37c632d637efb768b40bd271a7653f9fd789", func := "sandglass/sandglasslaw21.LimitsLeft", spec := "limitsLeft", apart := false }
def LimitsLeftSaid : Prop := limitsLeftRow.holds Try.pinned (OpenSpec.ofChange limitsLeftSpec)

/-- ITS FALSE NEIGHBOUR: 'it returns false'. Refute it at one input. -/
def limitsLeftWrong : ChangeSpec := { name := "limitsLeft", fn := fun _ => fun
  | [d1, d2] => { results := [.lit (.bool false)], args := [d1, d2] }
  | _ => none }
def LimitsLeftWrongFalsely : Prop := limitsLeftRow.holds Try.pinned (OpenSpec.ofChange limitsLeftWrong)

/-- 'sandglasslaw21.LimitsOrder': WHATEVER THE INPUT: true; the input reads as it did. -/
def limitsOrderSpec : ChangeSpec := { name := "limitsOrder", fn := fun _ => fun
  | [d1, d2, d3, d4, d5] => { results := [.lit (.bool true)], args := [d1, d2, d3, d4, d5] }
  | _ => none }
def limitsOrderRow : OpenClaim := { program := "ytnajiccihfdggaa", sum := "db1ae3403a016bd7f2a5231df13c37c632d637efb768b40bd271a7653f9fd789", func := "sandglass/sandglasslaw21.LimitsOrder", spec := "limitsOrder", apart := false }
def LimitsOrderSaid : Prop := limitsOrderRow.holds Try.pinned (OpenSpec.ofChange limitsOrderSpec)

/-- ITS FALSE NEIGHBOUR: 'it returns false'. Refute it at one input. -/
def limitsOrderWrong : ChangeSpec := { name := "limitsOrder", fn := fun _ => fun
  | [d1, d2, d3, d4, d5] => { results := [.lit (.bool false)], args := [d1, d2, d3, d4, d5] }
  | _ => none }
def LimitsOrderWrongFalsely : Prop := limitsOrderRow.holds Try.pinned (OpenSpec.ofChange limitsOrderWrong)

/-- 'sandglasslaw21.LimitsMost': WHATEVER THE INPUT: true; the input reads as it did. -/
def limitsMostSpec : ChangeSpec := { name := "limitsMost", fn := fun _ => fun
  | [d1, d2, d3] => { results := [.lit (.bool true)], args := [d1, d2, d3] }
  | _ => none }
def limitsMostRow : OpenClaim := { program := "ytnajiccihfdggaa", sum := "db1ae3403a016bd7f2a5231df13c37c632d637efb768b40bd271a7653f9fd789", func := "sandglass/sandglasslaw21.LimitsMost", spec := "limitsMost", apart := false }
def LimitsMostSaid : Prop := limitsMostRow.holds Try.pinned (OpenSpec.ofChange limitsMostSpec)

/-- ITS FALSE NEIGHBOUR: 'it returns false'. Refute it at one input. -/
def limitsMostWrong : ChangeSpec := { name := "limitsMost", fn := fun _ => fun
  | [d1, d2, d3] => { results := [.lit (.bool false)], args := [d1, d2, d3] }
  | _ => none }
def LimitsMostWrongFalsely : Prop := limitsMostRow.holds Try.pinned (OpenSpec.ofChange limitsMostWrong)

/-- 'sandglasslaw21.LimitsWith': WHATEVER THE INPUT: true; the input reads as it did. -/
def limitsWithSpec : ChangeSpec := { name := "limitsWith", fn := fun _ => fun
  | [d1, d2, d3] => { results := [.lit (.bool true)], args := [d1, d2, d3] }
  | _ => none }
def limitsWithRow : OpenClaim := { program := "ytnajiccihfdggaa", sum := "db1ae3403a016bd7f2a5231df13c37c632d637efb768b40bd271a7653f9fd789", func := "sandglass/sandglasslaw21.LimitsWith", spec := "limitsWith", unfollowed := true, recurses := true, apart := false }
def LimitsWithSaid : Prop := limitsWithRow.holds Try.pinned (OpenSpec.ofChange limitsWithSpec)

/-- ITS FALSE NEIGHBOUR: 'it returns false'. Refute it at one input. -/
def limitsWithWrong : ChangeSpec := { name := "limitsWith", fn := fun _ => fun
  | [d1, d2, d3] => { results := [.lit (.bool false)], args := [d1, d2, d3] }
  | _ => none }
def LimitsWithWrongFalsely : Prop := limitsWithRow.holds Try.pinned (OpenSpec.ofChange limitsWithWrong)

/- THE SECOND FORM. 'bulk': how many values and letters a reading holds, each counted each time it is reached (what is shared counts as often as it is met; a slice's spare places count too). A statement '..UptoSaid' is the law's where the arguments, and the package variables that the reading takes, are together of bulk at most 1048576: NARROWER than '..Said'. Prove '..Said' where nothing that the law and all that it calls make is longer than what came in: it says more and counts as full. Else prove '..UptoSaid'. A law counts once. -/
mutual
def uptoBulk {H : Type} : DataW H → Nat
  | .lit (.string bytes) => bytes.length + 1
  | .lit _ => 1
  | .nil => 1
  | .ptr d => uptoBulk d + 1
  | .slice elems spare => uptoBulkAll elems + uptoBulkAll spare + 1
  | .agg parts => uptoBulkAll parts + 1
  | .iface _ d => uptoBulk d + 1
  | .map entries => uptoBulkEntries entries + 1
  | .held _ => 1
def uptoBulkAll {H : Type} : List (DataW H) → Nat
  | [] => 0
  | d :: r => uptoBulk d + uptoBulkAll r
def uptoBulkEntries {H : Type} : List (Lit × DataW H) → Nat
  | [] => 0
  | x :: r => uptoBulkEntry x + uptoBulkEntries r
def uptoBulkEntry {H : Type} : Lit × DataW H → Nat
  | (.string bytes, d) => bytes.length + uptoBulk d + 1
  | (_, d) => uptoBulk d + 1
 end
def uptoSmall : (H : Type) → List (DataW H) → Bool := fun _ ds => decide (uptoBulkAll ds ≤ 1048576)
def OpenSpec.upto (s : _root_.Go.ChangeSpec) : _root_.Go.OpenSpec := { _root_.Go.OpenSpec.ofChange s with cond := some uptoSmall }

/-- 'sandglasslaw21.LimitsTells', WHERE WHAT IT READS IS OF BULK AT MOST 1048576: true; the input reads as it did. -/
def limitsTellsUptoRow : OpenClaim := { program := "ytnajiccihfdggaa", sum := "db1ae3403a016bd7f2a5231df13c37c632d637efb768b40bd271a7653f9fd789", func := "sandglass/sandglasslaw21.LimitsTells", spec := "limitsTells", apart := false, narrowed := true }
def LimitsTellsUptoSaid : Prop := limitsTellsUptoRow.holds Try.pinned (OpenSpec.upto limitsTellsSpec)

/-- 'sandglasslaw21.LimitsLeft', WHERE WHAT IT READS IS OF BULK AT MOST 1048576: true; the input reads as it did. -/
def limitsLeftUptoRow : OpenClaim := { program := "ytnajiccihfdggaa", sum := "db1ae3403a016bd7f2a5231df13c37c632d637efb768b40bd271a7653f9fd789", func := "sandglass/sandglasslaw21.LimitsLeft", spec := "limitsLeft", apart := false, narrowed := true }
def LimitsLeftUptoSaid : Prop := limitsLeftUptoRow.holds Try.pinned (OpenSpec.upto limitsLeftSpec)

/-- 'sandglasslaw21.LimitsOrder', WHERE WHAT IT READS IS OF BULK AT MOST 1048576: true; the input reads as it did. -/
def limitsOrderUptoRow : OpenClaim := { program := "ytnajiccihfdggaa", sum := "db1ae3403a016bd7f2a5231df13c37c632d637efb768b40bd271a7653f9fd789", func := "sandglass/sandglasslaw21.LimitsOrder", spec := "limitsOrder", apart := false, narrowed := true }
def LimitsOrderUptoSaid : Prop := limitsOrderUptoRow.holds Try.pinned (OpenSpec.upto limitsOrderSpec)

/-- 'sandglasslaw21.LimitsMost', WHERE WHAT IT READS IS OF BULK AT MOST 1048576: true; the input reads as it did. -/
def limitsMostUptoRow : OpenClaim := { program := "ytnajiccihfdggaa", sum := "db1ae3403a016bd7f2a5231df13c37c632d637efb768b40bd271a7653f9fd789", func := "sandglass/sandglasslaw21.LimitsMost", spec := "limitsMost", apart := false, narrowed := true }
def LimitsMostUptoSaid : Prop := limitsMostUptoRow.holds Try.pinned (OpenSpec.upto limitsMostSpec)

/-- 'sandglasslaw21.LimitsWith', WHERE WHAT IT READS IS OF BULK AT MOST 1048576: true; the input reads as it did. -/
def limitsWithUptoRow : OpenClaim := { program := "ytnajiccihfdggaa", sum := "db1ae3403a016bd7f2a5231df13c37c632d637efb768b40bd271a7653f9fd789", func := "sandglass/sandglasslaw21.LimitsWith", spec := "limitsWith", unfollowed := true, recurses := true, apart := false, narrowed := true }
def LimitsWithUptoSaid : Prop := limitsWithUptoRow.holds Try.pinned (OpenSpec.upto limitsWithSpec)

end Rows
end Go.Proofs.Ytnajiccihfdggaa
