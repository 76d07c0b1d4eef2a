/-
  Arguments, opened.
-/
import Derived.Test.YtohkdjaobdgenaaPlain
namespace Go.Proofs.Ytohkdjaobdgenaa
set_option linter.unusedVariables false
set_option linter.unusedSimpArgs false
set_option maxRecDepth 100000
open Go.RowKit
theorem tm64 {b : Int} (h : (Lit.int .u8 b).wf = true) : 0 ≤ b.tmod 64 ∧ b.tmod 64 ≤ 63 := by have := bounds_u8 h; rw [Int.tmod_eq_emod_of_nonneg this.1]; omega
theorem ek64 {b : Int} (h : (Lit.int .u8 b).wf = true) : 1 + b.tmod 64 = ((1 + b.tmod 64).toNat : Int) := by have := tm64 h; omega
theorem kk1 {b : Int} (h : (Lit.int .u8 b).wf = true) : 1 ≤ (1 + b.tmod 64).toNat := by have := tm64 h; omega
theorem kk2 {b : Int} (h : (Lit.int .u8 b).wf = true) : (1 + b.tmod 64).toNat ≤ 64 := by have := tm64 h; omega
theorem tm20 {b : Int} (h : (Lit.int .u8 b).wf = true) : 0 ≤ b.tmod 20 ∧ b.tmod 20 ≤ 19 := by have := bounds_u8 h; rw [Int.tmod_eq_emod_of_nonneg this.1]; omega
theorem en20 {b : Int} (h : (Lit.int .u8 b).wf = true) : 1 + b.tmod 20 = ((1 + b.tmod 20).toNat : Int) := by have := tm20 h; omega
theorem nn1 {b : Int} (h : (Lit.int .u8 b).wf = true) : 1 ≤ (1 + b.tmod 20).toNat := by have := tm20 h; omega
theorem nn2 {b : Int} (h : (Lit.int .u8 b).wf = true) : (1 + b.tmod 20).toNat ≤ 20 := by have := tm20 h; omega
theorem bounds64 {n : Int} (h : (Lit.int .u64 n).wf = true) : 0 ≤ n ∧ n < 18446744073709551616 := by have := bounds_u64 h; omega
theorem below_of {P : Program} {g : FuncId} {vs : Array Value} {w : World} {v : Value} (h : Calls P g vs w fun e w' => e = .returned v ∧ Inv w [] w') : Calls P g vs w fun e w' => e = .returned v ∧ Below w.heap.size w w' := h.mono fun _ _ ⟨he, hI⟩ => ⟨he, hI.below⟩
end Go.Proofs.Ytohkdjaobdgenaa
