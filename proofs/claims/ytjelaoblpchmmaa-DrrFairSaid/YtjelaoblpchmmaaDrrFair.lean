/-
  As long as flows always have something to send, and are in the old list, any two of them have sent, over any time, the same, but for three quanta and twice the longest packet; no condition.
-/
import Derived.Test.YtjelaoblpchmmaaRows
import Derived.Test.YtjelaoblpchmmaaOpen
import Derived.Test.YtjelaoblpchmmaaWDrrFair
import Derived.WalkKit
import Derived.ProofKit
import Derived.OpenShut
import Derived.ShutString
import Derived.ChangeOld
import Derived.Below
import Derived.SizedLaws
namespace Go.Proofs.Ytjelaoblpchmmaa.drrFair
open Go.ChangeShapes Go.WideShapes Go.ChangeAt Go.RowKit
open Go.ChangeMaps (open_string shut_string)
set_option linter.unusedVariables false
set_option linter.unusedSimpArgs false
theorem own : ownKnob Try.prog.godebug = none := by kernel_rfl
theorem laidOut : laidOutB Try.prog = true := by kernel_rfl
set_option maxRecDepth 100000 in
set_option maxHeartbeats 4000000 in
theorem lifted (os : Os) (started : os.Started) (H : Type) (enc : TypeId × Value → H) :
    ReturnsInHanded {} Try.checked os 11 .any (Rows.drrFairSpec.pre6 enc Try.prog Try.f11 Rows.drrFairRow.domain false) (Rows.drrFairSpec.post enc Try.prog Try.f11 false true false false) := by
  refine returnsInHanded_of_change_sized (C := Try.checked) own started (by kernel_rfl) Try.func11
    (ChangeSpec.witness6 (enc := enc) (C := Try.checked) false ⟨#[], #[.int .u16 0, .int .u8 0, .slice none 0 0, .slice none 0 0, .int .u8 0, .int .u8 0], []⟩ 8 (by kernel_rfl) (by kernel_rfl) (by kernel_rfl) (by kernel_rfl)) ?_
  intro W base args ds gs before hval0 hW hcnd hsz0 _
  have hsz : (DataW.weightsEach Try.prog (Try.f11.params.toList ++ Rows.drrFairSpec.plain.varTypes Try.prog) (ds ++ gs)).all (· ≤ reachBytes) = true := hsz0
  have hval : ∀ (j : Nat) t v, Try.f11.params[j]? = some t → args[j]? = some v → Value.okWide Try.prog W .any base t v := hval0
  have hW' := hW
  obtain ⟨p, q, hA0, hV, rfl, hfz, hnd⟩ := hW
  have hA : DataW.TrodAll enc Try.prog W 0 (fun _ => true) true Try.f11.params.toList args.toList ds p := hA0
  rw [Try.params11] at hA hval hsz
  obtain ⟨v0, vs0, d0, ds0, p0, q0, hargs, rfl, rfl, h0, r0⟩ := trodAll_cons hA
  obtain ⟨v1, vs1, d1, ds1, p1, q1, rfl, rfl, rfl, h1, r1⟩ := trodAll_cons r0
  obtain ⟨v2, vs2, d2, ds2, p2, q2, rfl, rfl, rfl, h2, r2⟩ := trodAll_cons r1
  obtain ⟨v3, vs3, d3, ds3, p3, q3, rfl, rfl, rfl, h3, r3⟩ := trodAll_cons r2
  obtain ⟨v4, vs4, d4, ds4, p4, q4, rfl, rfl, rfl, h4, r4⟩ := trodAll_cons r3
  obtain ⟨v5, vs5, d5, ds5, p5, q5, rfl, rfl, rfl, h5, r5⟩ := trodAll_cons r4
  obtain ⟨rfl, rfl, rfl⟩ := trodAll_nil r5
  obtain rfl : args = #[v0, v1, v2, v3, v4, v5] := by cases args; simp_all
  obtain ⟨rfl, rfl⟩ := trodVars_none hV
  obtain ⟨a0, rfl, rfl, rfl, w0⟩ := open_int Try.underlying22 (hval 0 22 v0 rfl rfl) h0
  obtain ⟨a1, rfl, rfl, rfl, w1⟩ := open_int Try.underlying5 (hval 1 5 v1 rfl rfl) h1
  have k2 := h2
  have lt2 : ∀ x ∈ p2, x.block < W.heap.size := by obtain ⟨m, hm⟩ := k2; exact DataW.trod_lt m _ _ _ hm
  obtain ⟨at2, len2, cap2, rfl⟩ := okWide_slice Try.underlying81 (hval 2 81 v2 rfl rfl)
  have sl2 := open_rows 12 Try.underlying81 sh_22 (by kernel_rfl) h2
  obtain ⟨rows2, hl2, ho2, hr2, hc2, hx2⟩ := slice_of sl2
  obtain ⟨ws, hwl, hws, hq⟩ := rd_of hr2 ho2
  obtain rfl : ws.length = len2 := hwl.trans hl2
  have k3 := h3
  have lt3 : ∀ x ∈ p3, x.block < W.heap.size := by obtain ⟨m, hm⟩ := k3; exact DataW.trod_lt m _ _ _ hm
  obtain ⟨at3, len3, cap3, rfl⟩ := okWide_slice Try.underlying81 (hval 3 81 v3 rfl rfl)
  have sl3 := open_rows 12 Try.underlying81 sh_22 (by kernel_rfl) h3
  obtain ⟨rows3, hl3, ho3, hr3, hc3, hx3⟩ := slice_of sl3
  obtain ⟨ws3, hwl3, hws3, hq3⟩ := rd_of hr3 ho3
  obtain rfl : ws3.length = len3 := hwl3.trans hl3
  obtain ⟨a4, rfl, rfl, rfl, w4⟩ := open_int Try.underlying5 (hval 4 5 v4 rfl rfl) h4
  obtain ⟨a5, rfl, rfl, rfl, w5⟩ := open_int Try.underlying5 (hval 5 5 v5 rfl rfl) h5
  clear hA0 hval0 hsz0 hsz
  refine ((below_of (drrFair_walk rfl (by have := bounds_u16 w0; omega) rfl (tm w1 (by decide)) (N := (2 + a1.tmod 7).toNat) (by have := tm w1 (m := 7) (by decide); omega) rfl hc2 hws rfl hc3 hws3 (lo := (a4.tmod 100).toNat) (up := (a4.tmod 100).toNat + a5.toNat) (by have := tm w4 (m := 100) (by decide); omega) (by have := bounds_u8 w4; omega) (by have := tm w4 (m := 100) (by decide); omega) (by have := bounds_u8 w5; have := tm w4 (m := 100) (by decide); omega) (by have := bounds_u8 w5; omega) hq hq3))).mono fun e W' ⟨he, bel⟩ => ?_
  subst he
  exact ⟨_, rfl, _, _, _, [], _, [], hW', trodAll_mk1 (shut_bool Try.underlying4 _), (trodAll_cons_mk (shut_int Try.underlying22 w0) (trodAll_cons_mk (shut_int Try.underlying5 w1) (trodAll_cons_mk (Below.trod laidOut (by kernel_rfl) (of_decide_eq_true (by kernel_rfl)) k2 bel lt2) (trodAll_cons_mk (Below.trod laidOut (by kernel_rfl) (of_decide_eq_true (by kernel_rfl)) k3 bel lt3) (trodAll_cons_mk (shut_int Try.underlying5 w4) (trodAll_cons_mk (shut_int Try.underlying5 w5) trodAll_mk0)))))), rfl, bel.frame _, fun h => by cases h⟩
theorem over : Rows.drrFairRow.holds Try.pinned (OpenSpec.ofChange Rows.drrFairSpec) :=
  OpenClaim.holds_of_wide 11 Try.f11 rfl rfl rfl rfl rfl rfl rfl ⟨rfl, rfl, rfl, rfl, rfl⟩ rfl rfl rfl rfl rfl (by kernel_rfl) Try.func11 (by kernel_rfl)
    (of_decide_eq_true (by kernel_rfl)) (by unfold Func.isWrapper; first | (rw [if_pos (by decide +kernel)]; kernel_rfl) | (rw [if_neg (by decide +kernel)]; exact ⟨rfl, rfl⟩))
    (fun os started H enc _ => lifted os started H enc)
theorem proved : Rows.DrrFairSaid := over
#print axioms proved
end Go.Proofs.Ytjelaoblpchmmaa.drrFair
namespace Go.Proofs.Ytjelaoblpchmmaa
/-- The statement, under a short name, for the claim. -/
theorem drrFair_holds : Rows.DrrFairSaid := drrFair.proved
end Go.Proofs.Ytjelaoblpchmmaa
