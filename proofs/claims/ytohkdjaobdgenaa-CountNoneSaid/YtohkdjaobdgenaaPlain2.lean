/-
  Plain laws of count, more.
-/
import Derived.Test.YtohkdjaobdgenaaAwake
namespace Go.Proofs.Ytohkdjaobdgenaa
set_option linter.unusedVariables false
set_option linter.unusedSimpArgs false
set_option maxRecDepth 100000
open Go.RowKit
theorem or256 {n : Int} : 256 ≤ IntKind.wrap .u64 (BitVec.ofInt IntKind.u64.bits n ||| BitVec.ofInt IntKind.u64.bits 256).toNat := by
  have h1 : (BitVec.ofInt IntKind.u64.bits n ||| BitVec.ofInt IntKind.u64.bits 256).toNat < 2 ^ 64 := BitVec.isLt _
  have h2 : 256 ≤ (BitVec.ofInt IntKind.u64.bits n ||| BitVec.ofInt IntKind.u64.bits 256).toNat := by
    rw [BitVec.toNat_or]; exact Nat.le_trans (by decide) Nat.right_le_or
  rw [wrap_u64 (by omega) (by omega)]
  omega
theorem none_big {x nn : Int} (h : 256 ≤ nn) : (aheadF x nn ((8 : Nat) : Int)).2 ≠ 0 := by
  have e : pw (((8 : Nat) : Int).toNat) = 256 := by decide
  unfold aheadF
  rw [if_neg (by decide), if_pos (.inr (by rw [e]; omega))]; decide

end Go.Proofs.Ytohkdjaobdgenaa
