/-
  The chapter's examples.
-/
import Derived.Test.YtohkdjaobdgenaaFns6
namespace Go.Proofs.Ytohkdjaobdgenaa
set_option linter.unusedVariables false
set_option linter.unusedSimpArgs false
set_option maxRecDepth 100000
open Go.RowKit
set_option maxHeartbeats 8000000 in
theorem awake_pur : Pur Try.prog 13 [] (.bool true) := by
  intro w
  have hI1 := Inv.start w
  refine enter (n := 106) Try.func13 rfl rfl rfl ?_
  intro ac1 hf1
  refine code_seq ?_
  refine seq_start (l := [0]) rfl ?_
  refine seq_one (op_val (v := .bool false) hf1 rfl rfl rfl rfl rfl rfl (r_assign rfl) fun ac2 hf2 => ?_)
  refine seq_end ?_
  clear ac1 hf1
  refine then_normal ?_
  refine code_seq ?_
  refine seq_start (l := [0, 1, 2, 3, 4, 5]) rfl ?_
  refine seq_one (op_call (R := fun v w' => ∃ lb cb, Array.size (World.heap w) ≤ lb ∧ Array.size (World.heap w) ≤ cb ∧ v = .tuple #[.pointer (some ⟨cb, 0, none⟩), .int .i64 0] ∧ Inv w [(lb, arr .u64 (List.replicate 2 0), 24), (cb, #[.slice (some ⟨lb, 0, none⟩) 2 2, .int .i64 8], 58)] w') hf2 rfl rfl rfl rfl ca_11 ((new_walk (n := 2) (k := 8) (by decide) (by decide) (by decide) (by decide) _).mono fun e w' ⟨lb, cb, h1, h2, h3, h4⟩ => ⟨_, h3, lb, cb, h1, h2, rfl, h4⟩) fun ac3 v wd1 hR hf3 => ?_)
  obtain ⟨b1, b2, hqb1, hqb2, rfl, hwb1⟩ := hR
  have hb1 := Nat.le_trans hI1.size hqb1
  have hb2 := Nat.le_trans hI1.size hqb2
  have hI2 : Inv w [(b1, arr .u64 (List.replicate 2 0), 24), (b2, #[.slice (some ⟨b1, 0, none⟩) 2 2, .int .i64 8], 58)] _ := hI1.callN hwb1 (fun x hx => by simp only [List.mem_cons, List.mem_nil_iff, or_false] at hx; rcases hx with rfl | rfl <;> assumption)
  refine seq_one (op_val (v := .tuple #[.pointer (some ⟨b2, 0, none⟩), .int .i64 0]) hf3 rfl rfl rfl rfl rfl rfl (r_move rfl) fun ac4 hf4 => ?_)
  refine seq_one (op_val (v := .pointer (some ⟨b2, 0, none⟩)) hf4 rfl rfl rfl rfl rfl rfl (r_extract rfl rfl) fun ac5 hf5 => ?_)
  refine seq_one (op_val (v := .int .i64 0) hf5 rfl rfl rfl rfl rfl rfl (r_extract rfl rfl) fun ac6 hf6 => ?_)
  refine seq_one (op_val (v := .pointer (some ⟨b2, 0, none⟩)) hf6 rfl rfl rfl rfl rfl rfl (r_assign rfl) fun ac7 hf7 => ?_)
  refine seq_one (op_val (v := .int .i64 0) hf7 rfl rfl rfl rfl rfl rfl (r_assign rfl) fun ac8 hf8 => ?_)
  refine seq_end ?_
  clear ac2 hf2 hI1 hwb1 hqb1 hqb2 ac3 hf3 ac4 hf4 ac5 hf5 ac6 hf6 ac7 hf7
  refine then_normal ?_
  refine code_seq ?_
  refine seq_start (l := [0, 1, 2, 3, 4, 5]) rfl ?_
  refine seq_one (op_val (v := .pointer (some ⟨b2, 0, none⟩)) hf8 rfl rfl rfl rfl rfl rfl (r_move rfl) fun ac9 hf9 => ?_)
  refine seq_one (op_call (R := fun v w' => v = .int .i64 0 ∧ Inv _ [(b1, arr .u64 ((List.replicate 2 0).set 0 (((List.replicate 2 0).getD 0 0 + 300) % pw 8)), 24), (b2, #[.slice (some ⟨b1, 0, none⟩) 2 2, .int .i64 8], 58)] w') hf9 rfl rfl rfl rfl ca_16 ((add_in (n := 2) (k := 8) (j := 0) rfl (by decide) (by decide) (by decide) (hI2.ne (i := 0) (j := 1) rfl rfl (by decide)) (Has.cons (hI2.at 0 rfl) (Has.cons (hI2.at 1 rfl) Has.nil))).mono fun _ _ h => ⟨_, h.1, rfl, h.2⟩) fun ac10 v wd2 hR3 hf10 => ?_)
  obtain ⟨rfl, hR3⟩ := hR3
  have hI3 : Inv w [(b1, arr .u64 ((List.replicate 2 0).set 0 (((List.replicate 2 0).getD 0 0 + 300) % pw 8)), 24), (b2, #[.slice (some ⟨b1, 0, none⟩) 2 2, .int .i64 8], 58)] _ := Inv.callS (A := []) (S := [(b1, arr .u64 (List.replicate 2 0), 24), (b2, #[.slice (some ⟨b1, 0, none⟩) 2 2, .int .i64 8], 58)]) (S' := [(b1, arr .u64 ((List.replicate 2 0).set 0 (((List.replicate 2 0).getD 0 0 + 300) % pw 8)), 24), (b2, #[.slice (some ⟨b1, 0, none⟩) 2 2, .int .i64 8], 58)]) (L := []) (N := []) hI2 hR3 rfl (fun _ h => by cases h)
  refine seq_one (op_val (v := .pointer (some ⟨b2, 0, none⟩)) hf10 rfl rfl rfl rfl rfl rfl (r_move rfl) fun ac11 hf11 => ?_)
  refine seq_one (op_call (R := fun v w' => v = .int .i64 0 ∧ Inv _ [(b1, arr .u64 (((List.replicate 2 0).set 0 (((List.replicate 2 0).getD 0 0 + 300) % pw 8)).set 1 ((((List.replicate 2 0).set 0 (((List.replicate 2 0).getD 0 0 + 300) % pw 8)).getD 1 0 + 256) % pw 8)), 24), (b2, #[.slice (some ⟨b1, 0, none⟩) 2 2, .int .i64 8], 58)] w') hf11 rfl rfl rfl rfl ca_16 ((add_in (n := 2) (k := 8) (j := 1) rfl (by decide) (by decide) (by decide) (hI3.ne (i := 0) (j := 1) rfl rfl (by decide)) (Has.cons (hI3.at 0 rfl) (Has.cons (hI3.at 1 rfl) Has.nil))).mono fun _ _ h => ⟨_, h.1, rfl, h.2⟩) fun ac12 v wd3 hR4 hf12 => ?_)
  obtain ⟨rfl, hR4⟩ := hR4
  have hI4 : Inv w [(b1, arr .u64 (((List.replicate 2 0).set 0 (((List.replicate 2 0).getD 0 0 + 300) % pw 8)).set 1 ((((List.replicate 2 0).set 0 (((List.replicate 2 0).getD 0 0 + 300) % pw 8)).getD 1 0 + 256) % pw 8)), 24), (b2, #[.slice (some ⟨b1, 0, none⟩) 2 2, .int .i64 8], 58)] _ := Inv.callS (A := []) (S := [(b1, arr .u64 ((List.replicate 2 0).set 0 (((List.replicate 2 0).getD 0 0 + 300) % pw 8)), 24), (b2, #[.slice (some ⟨b1, 0, none⟩) 2 2, .int .i64 8], 58)]) (S' := [(b1, arr .u64 (((List.replicate 2 0).set 0 (((List.replicate 2 0).getD 0 0 + 300) % pw 8)).set 1 ((((List.replicate 2 0).set 0 (((List.replicate 2 0).getD 0 0 + 300) % pw 8)).getD 1 0 + 256) % pw 8)), 24), (b2, #[.slice (some ⟨b1, 0, none⟩) 2 2, .int .i64 8], 58)]) (L := []) (N := []) hI3 hR4 rfl (fun _ h => by cases h)
  refine seq_one (op_val (v := .int .i64 0) hf12 rfl rfl rfl rfl rfl rfl (r_assign rfl) fun ac13 hf13 => ?_)
  refine seq_one (op_val (v := .int .i64 0) hf13 rfl rfl rfl rfl rfl rfl (r_assign rfl) fun ac14 hf14 => ?_)
  refine seq_end ?_
  clear ac8 hf8 ac9 wd1 hf9 hI2 hR3 ac10 hf10 ac11 wd2 hf11 hI3 hR4 ac12 hf12 ac13 hf13
  refine then_normal ?_
  refine code_seq ?_
  refine seq_start (l := [0, 1, 2, 3, 4, 5, 6]) rfl ?_
  refine seq_one (op_val (v := .pointer (some ⟨b2, 0, none⟩)) hf14 rfl rfl rfl rfl rfl rfl (r_move rfl) fun ac15 hf15 => ?_)
  refine seq_one (op_pureW hf15 rfl rfl rfl rfl ca_21 (get_in (j := 0) rfl (by decide) (hI4.ne (i := 0) (j := 1) rfl rfl (by decide)) (Has.cons (hI4.at 0 rfl) (Has.cons (hI4.at 1 rfl) Has.nil))) hI4 fun ac16 wd4 hI5 hf16 => ?_)
  refine seq_one (op_val (v := .tuple #[.int .u64 ((((List.replicate 2 0).set 0 (((List.replicate 2 0).getD 0 0 + 300) % pw 8)).set 1 ((((List.replicate 2 0).set 0 (((List.replicate 2 0).getD 0 0 + 300) % pw 8)).getD 1 0 + 256) % pw 8)).getD 0 0), .bool true]) hf16 rfl rfl rfl rfl rfl rfl (r_move rfl) fun ac17 hf17 => ?_)
  refine seq_one (op_val (v := .int .u64 ((((List.replicate 2 0).set 0 (((List.replicate 2 0).getD 0 0 + 300) % pw 8)).set 1 ((((List.replicate 2 0).set 0 (((List.replicate 2 0).getD 0 0 + 300) % pw 8)).getD 1 0 + 256) % pw 8)).getD 0 0)) hf17 rfl rfl rfl rfl rfl rfl (r_extract rfl rfl) fun ac18 hf18 => ?_)
  refine seq_one (op_val (v := .bool true) hf18 rfl rfl rfl rfl rfl rfl (r_extract rfl rfl) fun ac19 hf19 => ?_)
  refine seq_one (op_val (v := .int .u64 ((((List.replicate 2 0).set 0 (((List.replicate 2 0).getD 0 0 + 300) % pw 8)).set 1 ((((List.replicate 2 0).set 0 (((List.replicate 2 0).getD 0 0 + 300) % pw 8)).getD 1 0 + 256) % pw 8)).getD 0 0)) hf19 rfl rfl rfl rfl rfl rfl (r_assign rfl) fun ac20 hf20 => ?_)
  refine seq_one (op_val (v := .bool true) hf20 rfl rfl rfl rfl rfl rfl (r_assign rfl) fun ac21 hf21 => ?_)
  refine seq_end ?_
  clear ac14 hf14 ac15 wd3 hI4 hf15 ac16 hf16 ac17 hf17 ac18 hf18 ac19 hf19 ac20 hf20
  refine then_normal ?_
  refine code_seq ?_
  refine seq_start (l := [0, 1, 2, 3, 4, 5, 6, 7]) rfl ?_
  refine seq_one (op_val (v := .pointer (some ⟨b2, 0, none⟩)) hf21 rfl rfl rfl rfl rfl rfl (r_move rfl) fun ac22 hf22 => ?_)
  refine seq_one (op_bslice (s := 24) (cells := #[.int .u64 40, .int .u64 255]) hf22 rfl rfl rfl rfl rfl (fun _ => by kernel_rfl) hI5 fun ac23 b5 wd5 hb5 hI6 hf23 => ?_)
  have hI7 : Inv w [(b1, arr .u64 (((List.replicate 2 0).set 0 (((List.replicate 2 0).getD 0 0 + 300) % pw 8)).set 1 ((((List.replicate 2 0).set 0 (((List.replicate 2 0).getD 0 0 + 300) % pw 8)).getD 1 0 + 256) % pw 8)), 24), (b2, #[.slice (some ⟨b1, 0, none⟩) 2 2, .int .i64 8], 58), (b5, #[.int .u64 40, .int .u64 255], 24)] wd5 := hI6
  refine seq_one (op_call (R := fun v w' => ∃ S p cap, v = .tuple #[.slice p (sinceL (((List.replicate 2 0).set 0 (((List.replicate 2 0).getD 0 0 + 300) % pw 8)).set 1 ((((List.replicate 2 0).set 0 (((List.replicate 2 0).getD 0 0 + 300) % pw 8)).getD 1 0 + 256) % pw 8)) [40, 255] 8 2).length cap, .int .i64 0] ∧ Sl 24 .u64 S p cap (sinceL (((List.replicate 2 0).set 0 (((List.replicate 2 0).getD 0 0 + 300) % pw 8)).set 1 ((((List.replicate 2 0).set 0 (((List.replicate 2 0).getD 0 0 + 300) % pw 8)).getD 1 0 + 256) % pw 8)) [40, 255] 8 2) ∧ Inv wd5 S w' ∧ ∀ x ∈ S, wd5.heap.size ≤ x.1) hf23 rfl rfl rfl rfl ca_18 ((since_ok (xs := (((List.replicate 2 0).set 0 (((List.replicate 2 0).getD 0 0 + 300) % pw 8)).set 1 ((((List.replicate 2 0).set 0 (((List.replicate 2 0).getD 0 0 + 300) % pw 8)).getD 1 0 + 256) % pw 8))) (ws := [40, 255]) (n := 2) (k := 8) rfl rfl rfl (by decide) (by intro j hj; rcases (show j = 0 ∨ j = 1 by omega) with rfl | rfl <;> decide) (hI7.ne (i := 0) (j := 1) rfl rfl (by decide)) (Has.cons (hI7.at 0 rfl) (Has.cons (hI7.at 1 rfl) Has.nil)) (Rd.blk (xs := [40, 255]) (hI7.at 2 rfl) rfl)).mono fun _ _ ⟨S, p, cap, he, h1, h3, h4⟩ => ⟨_, he, S, p, cap, rfl, h1, h3, h4⟩) fun ac24 v wd6 hR hf24 => ?_)
  obtain ⟨Sq6, q6, capq6, rfl, hsq6, hwq6, hzq6⟩ := hR
  have hyq6 := fk_le hI7.size hzq6
  have hI8 : Inv w ([(b1, arr .u64 (((List.replicate 2 0).set 0 (((List.replicate 2 0).getD 0 0 + 300) % pw 8)).set 1 ((((List.replicate 2 0).set 0 (((List.replicate 2 0).getD 0 0 + 300) % pw 8)).getD 1 0 + 256) % pw 8)), 24), (b2, #[.slice (some ⟨b1, 0, none⟩) 2 2, .int .i64 8], 58), (b5, #[.int .u64 40, .int .u64 255], 24)] ++ Sq6) _ := hI7.callN hwq6 hzq6
  refine seq_one (op_val (v := .tuple #[.slice q6 ((sinceL (((List.replicate 2 0).set 0 (((List.replicate 2 0).getD 0 0 + 300) % pw 8)).set 1 ((((List.replicate 2 0).set 0 (((List.replicate 2 0).getD 0 0 + 300) % pw 8)).getD 1 0 + 256) % pw 8)) [40, 255] 8 2).length) capq6, .int .i64 0]) hf24 rfl rfl rfl rfl rfl rfl (r_move rfl) fun ac25 hf25 => ?_)
  refine seq_one (op_val (v := .slice q6 ((sinceL (((List.replicate 2 0).set 0 (((List.replicate 2 0).getD 0 0 + 300) % pw 8)).set 1 ((((List.replicate 2 0).set 0 (((List.replicate 2 0).getD 0 0 + 300) % pw 8)).getD 1 0 + 256) % pw 8)) [40, 255] 8 2).length) capq6) hf25 rfl rfl rfl rfl rfl rfl (r_extract rfl rfl) fun ac26 hf26 => ?_)
  refine seq_one (op_val (v := .int .i64 0) hf26 rfl rfl rfl rfl rfl rfl (r_extract rfl rfl) fun ac27 hf27 => ?_)
  refine seq_one (op_val (v := .slice q6 ((sinceL (((List.replicate 2 0).set 0 (((List.replicate 2 0).getD 0 0 + 300) % pw 8)).set 1 ((((List.replicate 2 0).set 0 (((List.replicate 2 0).getD 0 0 + 300) % pw 8)).getD 1 0 + 256) % pw 8)) [40, 255] 8 2).length) capq6) hf27 rfl rfl rfl rfl rfl rfl (r_assign rfl) fun ac28 hf28 => ?_)
  refine seq_one (op_val (v := .int .i64 0) hf28 rfl rfl rfl rfl rfl rfl (r_assign rfl) fun ac29 hf29 => ?_)
  refine seq_end ?_
  clear ac21 hf21 ac22 wd4 hI5 hf22 hI6 ac23 wd5 hf23 hI7 hwq6 hzq6 ac24 hf24 ac25 hf25 ac26 hf26 ac27 hf27 ac28 hf28
  refine then_normal ?_
  refine code_seq ?_
  refine seq_start (l := [0, 1, 2, 3, 4, 5]) rfl ?_
  refine seq_one (op_pure hf29 rfl rfl rfl rfl ca_9 (ahead_pur 3 250 8) hI8 fun ac30 wd7 hI9 hf30 => ?_)
  refine seq_one (op_val (v := .tuple #[.int .u64 ((aheadF 3 250 8).1), .int .i64 ((aheadF 3 250 8).2)]) hf30 rfl rfl rfl rfl rfl rfl (r_move rfl) fun ac31 hf31 => ?_)
  refine seq_one (op_val (v := .int .u64 ((aheadF 3 250 8).1)) hf31 rfl rfl rfl rfl rfl rfl (r_extract rfl rfl) fun ac32 hf32 => ?_)
  refine seq_one (op_val (v := .int .i64 ((aheadF 3 250 8).2)) hf32 rfl rfl rfl rfl rfl rfl (r_extract rfl rfl) fun ac33 hf33 => ?_)
  refine seq_one (op_val (v := .int .u64 ((aheadF 3 250 8).1)) hf33 rfl rfl rfl rfl rfl rfl (r_assign rfl) fun ac34 hf34 => ?_)
  refine seq_one (op_val (v := .int .i64 ((aheadF 3 250 8).2)) hf34 rfl rfl rfl rfl rfl rfl (r_assign rfl) fun ac35 hf35 => ?_)
  refine seq_end ?_
  clear ac29 wd6 hI8 hf29 ac30 hf30 ac31 hf31 ac32 hf32 ac33 hf33 ac34 hf34
  refine then_normal ?_
  refine code_seq ?_
  refine seq_start (l := [0, 1, 2, 3, 4, 5]) rfl ?_
  refine seq_one (op_pure hf35 rfl rfl rfl rfl ca_9 (ahead_pur 3 256 8) hI9 fun ac36 wd8 hI10 hf36 => ?_)
  refine seq_one (op_val (v := .tuple #[.int .u64 ((aheadF 3 256 8).1), .int .i64 ((aheadF 3 256 8).2)]) hf36 rfl rfl rfl rfl rfl rfl (r_move rfl) fun ac37 hf37 => ?_)
  refine seq_one (op_val (v := .int .u64 ((aheadF 3 256 8).1)) hf37 rfl rfl rfl rfl rfl rfl (r_extract rfl rfl) fun ac38 hf38 => ?_)
  refine seq_one (op_val (v := .int .i64 ((aheadF 3 256 8).2)) hf38 rfl rfl rfl rfl rfl rfl (r_extract rfl rfl) fun ac39 hf39 => ?_)
  refine seq_one (op_val (v := .int .u64 ((aheadF 3 256 8).1)) hf39 rfl rfl rfl rfl rfl rfl (r_assign rfl) fun ac40 hf40 => ?_)
  refine seq_one (op_val (v := .int .i64 ((aheadF 3 256 8).2)) hf40 rfl rfl rfl rfl rfl rfl (r_assign rfl) fun ac41 hf41 => ?_)
  refine seq_end ?_
  clear ac35 wd7 hI9 hf35 ac36 hf36 ac37 hf37 ac38 hf38 ac39 hf39 ac40 hf40
  refine then_normal ?_
  refine code_seq ?_
  refine seq_start (l := [0, 1, 2, 3, 4, 5]) rfl ?_
  refine seq_one (op_pure hf41 rfl rfl rfl rfl ca_9 (ahead_pur 0 1 64) hI10 fun ac42 wd9 hI11 hf42 => ?_)
  refine seq_one (op_val (v := .tuple #[.int .u64 ((aheadF 0 1 64).1), .int .i64 ((aheadF 0 1 64).2)]) hf42 rfl rfl rfl rfl rfl rfl (r_move rfl) fun ac43 hf43 => ?_)
  refine seq_one (op_val (v := .int .u64 ((aheadF 0 1 64).1)) hf43 rfl rfl rfl rfl rfl rfl (r_extract rfl rfl) fun ac44 hf44 => ?_)
  refine seq_one (op_val (v := .int .i64 ((aheadF 0 1 64).2)) hf44 rfl rfl rfl rfl rfl rfl (r_extract rfl rfl) fun ac45 hf45 => ?_)
  refine seq_one (op_val (v := .int .u64 ((aheadF 0 1 64).1)) hf45 rfl rfl rfl rfl rfl rfl (r_assign rfl) fun ac46 hf46 => ?_)
  refine seq_one (op_val (v := .int .i64 ((aheadF 0 1 64).2)) hf46 rfl rfl rfl rfl rfl rfl (r_assign rfl) fun ac47 hf47 => ?_)
  refine seq_end ?_
  clear ac41 wd8 hI10 hf41 ac42 hf42 ac43 hf43 ac44 hf44 ac45 hf45 ac46 hf46
  refine then_normal ?_
  refine code_seq ?_
  refine seq_start (l := [0, 1, 2]) rfl ?_
  refine seq_one (op_val (v := .pointer (some ⟨b2, 0, none⟩)) hf47 rfl rfl rfl rfl rfl rfl (r_move rfl) fun ac48 hf48 => ?_)
  refine seq_one (op_call (R := fun v w' => ∃ b m, Array.size (World.heap _) ≤ b ∧ 2 + m ≤ maxLen ∧ v = .slice (some ⟨b, 0, none⟩) 2 (2 + m) ∧ Inv _ [(b1, arr .u64 (List.replicate 2 0), 24), (b2, #[.slice (some ⟨b1, 0, none⟩) 2 2, .int .i64 8], 58), (b, arr .u64 ((((List.replicate 2 0).set 0 (((List.replicate 2 0).getD 0 0 + 300) % pw 8)).set 1 ((((List.replicate 2 0).set 0 (((List.replicate 2 0).getD 0 0 + 300) % pw 8)).getD 1 0 + 256) % pw 8)) ++ List.replicate m 0), 24)] w') hf48 rfl rfl rfl rfl ca_14 ((drain_walk rfl (by decide) (by decide) (hI11.ne (i := 0) (j := 1) rfl rfl (by decide)) (Has.cons (hI11.at 0 rfl) (Has.cons (hI11.at 1 rfl) Has.nil))).mono fun e w' ⟨b, m, h1, h2, h3, h4⟩ => ⟨_, h3, b, m, h1, h2, rfl, h4⟩) fun ac49 v wd10 hR hf49 => ?_)
  obtain ⟨b7, m7, hqb7, hm7, rfl, hwb7⟩ := hR
  have hb7 := Nat.le_trans hI11.size hqb7
  have hI12 : Inv w ([(b1, arr .u64 (List.replicate 2 0), 24), (b2, #[.slice (some ⟨b1, 0, none⟩) 2 2, .int .i64 8], 58), (b5, #[.int .u64 40, .int .u64 255], 24), (b7, arr .u64 ((((List.replicate 2 0).set 0 (((List.replicate 2 0).getD 0 0 + 300) % pw 8)).set 1 ((((List.replicate 2 0).set 0 (((List.replicate 2 0).getD 0 0 + 300) % pw 8)).getD 1 0 + 256) % pw 8)) ++ List.replicate m7 0), 24)] ++ Sq6) _ := Inv.callST (A := []) (S := [(b1, arr .u64 (((List.replicate 2 0).set 0 (((List.replicate 2 0).getD 0 0 + 300) % pw 8)).set 1 ((((List.replicate 2 0).set 0 (((List.replicate 2 0).getD 0 0 + 300) % pw 8)).getD 1 0 + 256) % pw 8)), 24), (b2, #[.slice (some ⟨b1, 0, none⟩) 2 2, .int .i64 8], 58)]) (S' := [(b1, arr .u64 (List.replicate 2 0), 24), (b2, #[.slice (some ⟨b1, 0, none⟩) 2 2, .int .i64 8], 58)]) (L := [(b5, #[.int .u64 40, .int .u64 255], 24)]) (N := [(b7, arr .u64 ((((List.replicate 2 0).set 0 (((List.replicate 2 0).getD 0 0 + 300) % pw 8)).set 1 ((((List.replicate 2 0).set 0 (((List.replicate 2 0).getD 0 0 + 300) % pw 8)).getD 1 0 + 256) % pw 8)) ++ List.replicate m7 0), 24)]) (T := Sq6) hI11 hwb7 rfl (fun x hx => by simp only [List.mem_singleton] at hx; subst hx; exact hqb7)
  refine seq_one (op_val (v := .slice (some ⟨b7, 0, none⟩) 2 (2 + m7)) hf49 rfl rfl rfl rfl rfl rfl (r_assign rfl) fun ac50 hf50 => ?_)
  refine seq_end ?_
  clear ac47 hf47 ac48 wd9 hf48 hI11 hwb7 hqb7 ac49 hf49
  refine then_normal ?_
  refine code_seq ?_
  refine seq_start (l := [0, 1, 2, 3, 4, 5]) rfl ?_
  refine seq_one (op_pure hf50 rfl rfl rfl rfl ca_11 (new_bad (by decide)) hI12 fun ac51 wd11 hI13 hf51 => ?_)
  refine seq_one (op_val (v := .tuple #[.pointer none, .int .i64 2]) hf51 rfl rfl rfl rfl rfl rfl (r_move rfl) fun ac52 hf52 => ?_)
  refine seq_one (op_val (v := .pointer none) hf52 rfl rfl rfl rfl rfl rfl (r_extract rfl rfl) fun ac53 hf53 => ?_)
  refine seq_one (op_val (v := .int .i64 2) hf53 rfl rfl rfl rfl rfl rfl (r_extract rfl rfl) fun ac54 hf54 => ?_)
  refine seq_one (op_val (v := .pointer none) hf54 rfl rfl rfl rfl rfl rfl (r_assign rfl) fun ac55 hf55 => ?_)
  refine seq_one (op_val (v := .int .i64 2) hf55 rfl rfl rfl rfl rfl rfl (r_assign rfl) fun ac56 hf56 => ?_)
  refine seq_end ?_
  clear ac50 wd10 hI12 hf50 ac51 hf51 ac52 hf52 ac53 hf53 ac54 hf54 ac55 hf55
  refine then_normal ?_
  refine code_seq ?_
  refine seq_start (l := [0, 1, 2, 3, 4, 5, 6, 7, 8, 9, 10, 11, 12, 13, 14, 15, 16, 17, 18, 19, 20, 21, 22, 23, 24, 25, 26, 27, 28, 29, 30, 31, 32, 33, 34, 35, 36, 37, 38, 39, 40, 41, 42, 43, 44, 45, 46, 47, 48, 49, 50, 51]) rfl ?_
  refine seq_one (op_val (v := .int .i64 0) hf56 rfl rfl rfl rfl rfl rfl (r_move rfl) fun ac57 hf57 => ?_)
  refine seq_one (op_val (v := .int .i64 0) hf57 rfl rfl rfl rfl rfl rfl (r_move rfl) fun ac58 hf58 => ?_)
  refine seq_one (op_val (v := .int .i64 0) hf58 rfl rfl rfl rfl rfl rfl (r_add (c := 0) rfl rfl (by rfl)) fun ac59 hf59 => ?_)
  refine seq_one (op_val (v := .int .i64 0) hf59 rfl rfl rfl rfl rfl rfl (r_move rfl) fun ac60 hf60 => ?_)
  refine seq_one (op_val (v := .int .i64 0) hf60 rfl rfl rfl rfl rfl rfl (r_add (c := 0) rfl rfl (by rfl)) fun ac61 hf61 => ?_)
  refine seq_one (op_val (v := .int .i64 0) hf61 rfl rfl rfl rfl rfl rfl (r_move rfl) fun ac62 hf62 => ?_)
  refine seq_one (op_val (v := .int .i64 0) hf62 rfl rfl rfl rfl rfl rfl (r_add (c := 0) rfl rfl (by rfl)) fun ac63 hf63 => ?_)
  refine seq_one (op_val (v := .int .i64 ((aheadF 3 250 8).2)) hf63 rfl rfl rfl rfl rfl rfl (r_move rfl) fun ac64 hf64 => ?_)
  refine seq_one (op_val (v := .int .i64 (IntKind.wrap .i64 (0 + ((aheadF 3 250 8).2)))) hf64 rfl rfl rfl rfl rfl rfl (r_add rfl rfl rfl) fun ac65 hf65 => ?_)
  refine seq_one (op_val (v := .int .i64 ((aheadF 0 1 64).2)) hf65 rfl rfl rfl rfl rfl rfl (r_move rfl) fun ac66 hf66 => ?_)
  refine seq_one (op_val (v := .int .i64 (IntKind.wrap .i64 ((IntKind.wrap .i64 (0 + ((aheadF 3 250 8).2))) + ((aheadF 0 1 64).2)))) hf66 rfl rfl rfl rfl rfl rfl (r_add rfl rfl rfl) fun ac67 hf67 => ?_)
  refine seq_one (op_val (v := .bool ((IntKind.wrap .i64 ((IntKind.wrap .i64 (0 + ((aheadF 3 250 8).2))) + ((aheadF 0 1 64).2))) == 0)) hf67 rfl rfl rfl rfl rfl rfl (r_eql rfl rfl) fun ac68 hf68 => ?_)
  refine seq_one (op_val (v := .bool ((IntKind.wrap .i64 ((IntKind.wrap .i64 (0 + ((aheadF 3 250 8).2))) + ((aheadF 0 1 64).2))) == 0)) hf68 rfl rfl rfl rfl rfl rfl (r_move rfl) fun ac69 hf69 => ?_)
  have hf70 := hf69.know 67 (u := .bool true) rfl (congrArg Value.bool (by decide))
  refine seq_one (op_val (v := .int .i64 ((aheadF 3 256 8).2)) hf70 rfl rfl rfl rfl rfl rfl (r_move rfl) fun ac70 hf71 => ?_)
  refine seq_one (op_val (v := .bool (((aheadF 3 256 8).2) == 2)) hf71 rfl rfl rfl rfl rfl rfl (r_eql rfl rfl) fun ac71 hf72 => ?_)
  refine seq_one (op_val (v := .bool (((aheadF 3 256 8).2) == 2)) hf72 rfl rfl rfl rfl rfl rfl (r_pickT rfl rfl) fun ac72 hf73 => ?_)
  refine seq_one (op_val (v := .bool (((aheadF 3 256 8).2) == 2)) hf73 rfl rfl rfl rfl rfl rfl (r_move rfl) fun ac73 hf74 => ?_)
  have hf75 := hf74.know 71 (u := .bool true) rfl (congrArg Value.bool (by decide))
  refine seq_one (op_val (v := .int .i64 2) hf75 rfl rfl rfl rfl rfl rfl (r_move rfl) fun ac74 hf76 => ?_)
  refine seq_one (op_val (v := .bool true) hf76 rfl rfl rfl rfl rfl rfl (r_eqlC rfl rfl (by decide)) fun ac75 hf77 => ?_)
  refine seq_one (op_val (v := .bool true) hf77 rfl rfl rfl rfl rfl rfl (r_pickT rfl rfl) fun ac76 hf78 => ?_)
  refine seq_one (op_val (v := .bool true) hf78 rfl rfl rfl rfl rfl rfl (r_move rfl) fun ac77 hf79 => ?_)
  refine seq_one (op_val (v := .int .u64 ((((List.replicate 2 0).set 0 (((List.replicate 2 0).getD 0 0 + 300) % pw 8)).set 1 ((((List.replicate 2 0).set 0 (((List.replicate 2 0).getD 0 0 + 300) % pw 8)).getD 1 0 + 256) % pw 8)).getD 0 0)) hf79 rfl rfl rfl rfl rfl rfl (r_move rfl) fun ac78 hf80 => ?_)
  refine seq_one (op_val (v := .bool (((((List.replicate 2 0).set 0 (((List.replicate 2 0).getD 0 0 + 300) % pw 8)).set 1 ((((List.replicate 2 0).set 0 (((List.replicate 2 0).getD 0 0 + 300) % pw 8)).getD 1 0 + 256) % pw 8)).getD 0 0) == 44)) hf80 rfl rfl rfl rfl rfl rfl (r_eql rfl rfl) fun ac79 hf81 => ?_)
  refine seq_one (op_val (v := .bool (((((List.replicate 2 0).set 0 (((List.replicate 2 0).getD 0 0 + 300) % pw 8)).set 1 ((((List.replicate 2 0).set 0 (((List.replicate 2 0).getD 0 0 + 300) % pw 8)).getD 1 0 + 256) % pw 8)).getD 0 0) == 44)) hf81 rfl rfl rfl rfl rfl rfl (r_pickT rfl rfl) fun ac80 hf82 => ?_)
  refine seq_one (op_val (v := .bool (((((List.replicate 2 0).set 0 (((List.replicate 2 0).getD 0 0 + 300) % pw 8)).set 1 ((((List.replicate 2 0).set 0 (((List.replicate 2 0).getD 0 0 + 300) % pw 8)).getD 1 0 + 256) % pw 8)).getD 0 0) == 44)) hf82 rfl rfl rfl rfl rfl rfl (r_move rfl) fun ac81 hf83 => ?_)
  have hf84 := hf83.know 79 (u := .bool true) rfl (congrArg Value.bool (by decide))
  refine seq_one (op_val (v := .bool true) hf84 rfl rfl rfl rfl rfl rfl (r_move rfl) fun ac82 hf85 => ?_)
  refine seq_one (op_val (v := .bool true) hf85 rfl rfl rfl rfl rfl rfl (r_pickT rfl rfl) fun ac83 hf86 => ?_)
  refine seq_one (op_val (v := .bool true) hf86 rfl rfl rfl rfl rfl rfl (r_move rfl) fun ac84 hf87 => ?_)
  refine seq_one (op_val (v := .slice q6 ((sinceL (((List.replicate 2 0).set 0 (((List.replicate 2 0).getD 0 0 + 300) % pw 8)).set 1 ((((List.replicate 2 0).set 0 (((List.replicate 2 0).getD 0 0 + 300) % pw 8)).getD 1 0 + 256) % pw 8)) [40, 255] 8 2).length) capq6) hf87 rfl rfl rfl rfl rfl rfl (r_move rfl) fun ac85 hf88 => ?_)
  refine seq_one (op_bslice (s := 24) (cells := #[.int .u64 4, .int .u64 1]) hf88 rfl rfl rfl rfl rfl (fun _ => by kernel_rfl) hI13 fun ac86 b8 wd12 hb8 hI14 hf89 => ?_)
  have hI15 : Inv w ([(b1, arr .u64 (List.replicate 2 0), 24), (b2, #[.slice (some ⟨b1, 0, none⟩) 2 2, .int .i64 8], 58), (b5, #[.int .u64 40, .int .u64 255], 24), (b7, arr .u64 ((((List.replicate 2 0).set 0 (((List.replicate 2 0).getD 0 0 + 300) % pw 8)).set 1 ((((List.replicate 2 0).set 0 (((List.replicate 2 0).getD 0 0 + 300) % pw 8)).getD 1 0 + 256) % pw 8)) ++ List.replicate m7 0), 24), (b8, #[.int .u64 4, .int .u64 1], 24)] ++ Sq6) wd12 := Inv.tail (A := [(b1, arr .u64 (List.replicate 2 0), 24), (b2, #[.slice (some ⟨b1, 0, none⟩) 2 2, .int .i64 8], 58), (b5, #[.int .u64 40, .int .u64 255], 24), (b7, arr .u64 ((((List.replicate 2 0).set 0 (((List.replicate 2 0).getD 0 0 + 300) % pw 8)).set 1 ((((List.replicate 2 0).set 0 (((List.replicate 2 0).getD 0 0 + 300) % pw 8)).getD 1 0 + 256) % pw 8)) ++ List.replicate m7 0), 24)]) (T := Sq6) (N := [(b8, #[.int .u64 4, .int .u64 1], 24)]) hI14
  refine seq_one (op_pureW hf89 rfl rfl rfl rfl ca_15 (same_walk (xs := sinceL (((List.replicate 2 0).set 0 (((List.replicate 2 0).getD 0 0 + 300) % pw 8)).set 1 ((((List.replicate 2 0).set 0 (((List.replicate 2 0).getD 0 0 + 300) % pw 8)).getD 1 0 + 256) % pw 8)) [40, 255] 8 2) (ys := [4, 1]) rfl rfl (by rw [since_len]; omega) (hsq6.rd hI15 (fun x hx => List.mem_append_right _ hx)) (Rd.blk (xs := [4, 1]) (hI15.at 4 rfl) rfl)) hI15 fun ac87 wd13 hI16 hf90 => ?_)
  refine seq_one (op_val (v := .bool ((sinceL (((List.replicate 2 0).set 0 (((List.replicate 2 0).getD 0 0 + 300) % pw 8)).set 1 ((((List.replicate 2 0).set 0 (((List.replicate 2 0).getD 0 0 + 300) % pw 8)).getD 1 0 + 256) % pw 8)) [40, 255] 8 2) == [4, 1])) hf90 rfl rfl rfl rfl rfl rfl (r_pickT rfl rfl) fun ac88 hf91 => ?_)
  refine seq_one (op_val (v := .bool ((sinceL (((List.replicate 2 0).set 0 (((List.replicate 2 0).getD 0 0 + 300) % pw 8)).set 1 ((((List.replicate 2 0).set 0 (((List.replicate 2 0).getD 0 0 + 300) % pw 8)).getD 1 0 + 256) % pw 8)) [40, 255] 8 2) == [4, 1])) hf91 rfl rfl rfl rfl rfl rfl (r_move rfl) fun ac89 hf92 => ?_)
  have hf93 := hf92.know 87 (u := .bool true) rfl (congrArg Value.bool (by decide))
  refine seq_one (op_val (v := .int .u64 ((aheadF 3 250 8).1)) hf93 rfl rfl rfl rfl rfl rfl (r_move rfl) fun ac90 hf94 => ?_)
  refine seq_one (op_val (v := .bool (((aheadF 3 250 8).1) == 9)) hf94 rfl rfl rfl rfl rfl rfl (r_eql rfl rfl) fun ac91 hf95 => ?_)
  refine seq_one (op_val (v := .bool (((aheadF 3 250 8).1) == 9)) hf95 rfl rfl rfl rfl rfl rfl (r_pickT rfl rfl) fun ac92 hf96 => ?_)
  refine seq_one (op_val (v := .bool (((aheadF 3 250 8).1) == 9)) hf96 rfl rfl rfl rfl rfl rfl (r_move rfl) fun ac93 hf97 => ?_)
  have hf98 := hf97.know 91 (u := .bool true) rfl (congrArg Value.bool (by decide))
  refine seq_one (op_val (v := .int .u64 ((aheadF 0 1 64).1)) hf98 rfl rfl rfl rfl rfl rfl (r_move rfl) fun ac94 hf99 => ?_)
  refine seq_one (op_val (v := .bool (((aheadF 0 1 64).1) == 18446744073709551615)) hf99 rfl rfl rfl rfl rfl rfl (r_eql rfl rfl) fun ac95 hf100 => ?_)
  refine seq_one (op_val (v := .bool (((aheadF 0 1 64).1) == 18446744073709551615)) hf100 rfl rfl rfl rfl rfl rfl (r_pickT rfl rfl) fun ac96 hf101 => ?_)
  refine seq_one (op_val (v := .bool (((aheadF 0 1 64).1) == 18446744073709551615)) hf101 rfl rfl rfl rfl rfl rfl (r_move rfl) fun ac97 hf102 => ?_)
  have hf103 := hf102.know 95 (u := .bool true) rfl (congrArg Value.bool (by decide))
  refine seq_one (op_val (v := .slice (some ⟨b7, 0, none⟩) 2 (2 + m7)) hf103 rfl rfl rfl rfl rfl rfl (r_move rfl) fun ac98 hf104 => ?_)
  refine seq_one (op_bslice (s := 24) (cells := #[.int .u64 44, .int .u64 0]) hf104 rfl rfl rfl rfl rfl (fun _ => by kernel_rfl) hI16 fun ac99 b9 wd14 hb9 hI17 hf105 => ?_)
  have hI18 : Inv w ([(b1, arr .u64 (List.replicate 2 0), 24), (b2, #[.slice (some ⟨b1, 0, none⟩) 2 2, .int .i64 8], 58), (b5, #[.int .u64 40, .int .u64 255], 24), (b7, arr .u64 ((((List.replicate 2 0).set 0 (((List.replicate 2 0).getD 0 0 + 300) % pw 8)).set 1 ((((List.replicate 2 0).set 0 (((List.replicate 2 0).getD 0 0 + 300) % pw 8)).getD 1 0 + 256) % pw 8)) ++ List.replicate m7 0), 24), (b8, #[.int .u64 4, .int .u64 1], 24), (b9, #[.int .u64 44, .int .u64 0], 24)] ++ Sq6) wd14 := Inv.tail (A := [(b1, arr .u64 (List.replicate 2 0), 24), (b2, #[.slice (some ⟨b1, 0, none⟩) 2 2, .int .i64 8], 58), (b5, #[.int .u64 40, .int .u64 255], 24), (b7, arr .u64 ((((List.replicate 2 0).set 0 (((List.replicate 2 0).getD 0 0 + 300) % pw 8)).set 1 ((((List.replicate 2 0).set 0 (((List.replicate 2 0).getD 0 0 + 300) % pw 8)).getD 1 0 + 256) % pw 8)) ++ List.replicate m7 0), 24), (b8, #[.int .u64 4, .int .u64 1], 24)]) (T := Sq6) (N := [(b9, #[.int .u64 44, .int .u64 0], 24)]) hI17
  refine seq_one (op_pureW hf105 rfl rfl rfl rfl ca_15 (same_walk (xs := (((List.replicate 2 0).set 0 (((List.replicate 2 0).getD 0 0 + 300) % pw 8)).set 1 ((((List.replicate 2 0).set 0 (((List.replicate 2 0).getD 0 0 + 300) % pw 8)).getD 1 0 + 256) % pw 8))) (ys := [44, 0]) rfl rfl (by decide) (Rd.blk (xs := (((List.replicate 2 0).set 0 (((List.replicate 2 0).getD 0 0 + 300) % pw 8)).set 1 ((((List.replicate 2 0).set 0 (((List.replicate 2 0).getD 0 0 + 300) % pw 8)).getD 1 0 + 256) % pw 8))) (hI18.at 3 rfl) arr_take2) (Rd.blk (xs := [44, 0]) (hI18.at 5 rfl) rfl)) hI18 fun ac100 wd15 hI19 hf106 => ?_)
  refine seq_one (op_val (v := .bool ((((List.replicate 2 0).set 0 (((List.replicate 2 0).getD 0 0 + 300) % pw 8)).set 1 ((((List.replicate 2 0).set 0 (((List.replicate 2 0).getD 0 0 + 300) % pw 8)).getD 1 0 + 256) % pw 8)) == [44, 0])) hf106 rfl rfl rfl rfl rfl rfl (r_pickT rfl rfl) fun ac101 hf107 => ?_)
  refine seq_one (op_val (v := .bool ((((List.replicate 2 0).set 0 (((List.replicate 2 0).getD 0 0 + 300) % pw 8)).set 1 ((((List.replicate 2 0).set 0 (((List.replicate 2 0).getD 0 0 + 300) % pw 8)).getD 1 0 + 256) % pw 8)) == [44, 0])) hf107 rfl rfl rfl rfl rfl rfl (r_move rfl) fun ac102 hf108 => ?_)
  have hf109 := hf108.know 100 (u := .bool true) rfl (congrArg Value.bool (by decide))
  refine seq_one (op_val (v := .pointer (some ⟨b2, 0, none⟩)) hf109 rfl rfl rfl rfl rfl rfl (r_move rfl) fun ac103 hf110 => ?_)
  refine seq_one (op_call (R := fun v w' => ∃ b m, Array.size (World.heap _) ≤ b ∧ 2 + m ≤ maxLen ∧ v = .slice (some ⟨b, 0, none⟩) 2 (2 + m) ∧ Inv _ [(b, arr .u64 (List.replicate 2 0 ++ List.replicate m 0), 24)] w') hf110 rfl rfl rfl rfl ca_20 ((all_walk rfl (by decide) (by decide) (hI19.ne (i := 0) (j := 1) rfl rfl (by decide)) (Has.cons (hI19.at 0 rfl) (Has.cons (hI19.at 1 rfl) Has.nil))).mono fun e w' ⟨b, m, h1, h2, h3, h4⟩ => ⟨_, h3, b, m, h1, h2, rfl, h4⟩) fun ac104 v wd16 hR hf111 => ?_)
  obtain ⟨b10, m10, hqb10, hm10, rfl, hwb10⟩ := hR
  have hb10 := Nat.le_trans hI19.size hqb10
  have hI20 : Inv w ([(b1, arr .u64 (List.replicate 2 0), 24), (b2, #[.slice (some ⟨b1, 0, none⟩) 2 2, .int .i64 8], 58), (b5, #[.int .u64 40, .int .u64 255], 24), (b7, arr .u64 ((((List.replicate 2 0).set 0 (((List.replicate 2 0).getD 0 0 + 300) % pw 8)).set 1 ((((List.replicate 2 0).set 0 (((List.replicate 2 0).getD 0 0 + 300) % pw 8)).getD 1 0 + 256) % pw 8)) ++ List.replicate m7 0), 24), (b8, #[.int .u64 4, .int .u64 1], 24), (b9, #[.int .u64 44, .int .u64 0], 24), (b10, arr .u64 (List.replicate 2 0 ++ List.replicate m10 0), 24)] ++ Sq6) _ := Inv.tail (A := [(b1, arr .u64 (List.replicate 2 0), 24), (b2, #[.slice (some ⟨b1, 0, none⟩) 2 2, .int .i64 8], 58), (b5, #[.int .u64 40, .int .u64 255], 24), (b7, arr .u64 ((((List.replicate 2 0).set 0 (((List.replicate 2 0).getD 0 0 + 300) % pw 8)).set 1 ((((List.replicate 2 0).set 0 (((List.replicate 2 0).getD 0 0 + 300) % pw 8)).getD 1 0 + 256) % pw 8)) ++ List.replicate m7 0), 24), (b8, #[.int .u64 4, .int .u64 1], 24), (b9, #[.int .u64 44, .int .u64 0], 24)]) (T := Sq6) (N := [(b10, arr .u64 (List.replicate 2 0 ++ List.replicate m10 0), 24)]) (hI19.callN hwb10 (fun x hx => by simp only [List.mem_singleton] at hx; subst hx; exact hqb10))
  refine seq_one (op_bslice (s := 24) (cells := #[.int .u64 0, .int .u64 0]) hf111 rfl rfl rfl rfl rfl (fun _ => by kernel_rfl) hI20 fun ac105 b11 wd17 hb11 hI21 hf112 => ?_)
  have hI22 : Inv w ([(b1, arr .u64 (List.replicate 2 0), 24), (b2, #[.slice (some ⟨b1, 0, none⟩) 2 2, .int .i64 8], 58), (b5, #[.int .u64 40, .int .u64 255], 24), (b7, arr .u64 ((((List.replicate 2 0).set 0 (((List.replicate 2 0).getD 0 0 + 300) % pw 8)).set 1 ((((List.replicate 2 0).set 0 (((List.replicate 2 0).getD 0 0 + 300) % pw 8)).getD 1 0 + 256) % pw 8)) ++ List.replicate m7 0), 24), (b8, #[.int .u64 4, .int .u64 1], 24), (b9, #[.int .u64 44, .int .u64 0], 24), (b10, arr .u64 (List.replicate 2 0 ++ List.replicate m10 0), 24), (b11, #[.int .u64 0, .int .u64 0], 24)] ++ Sq6) wd17 := Inv.tail (A := [(b1, arr .u64 (List.replicate 2 0), 24), (b2, #[.slice (some ⟨b1, 0, none⟩) 2 2, .int .i64 8], 58), (b5, #[.int .u64 40, .int .u64 255], 24), (b7, arr .u64 ((((List.replicate 2 0).set 0 (((List.replicate 2 0).getD 0 0 + 300) % pw 8)).set 1 ((((List.replicate 2 0).set 0 (((List.replicate 2 0).getD 0 0 + 300) % pw 8)).getD 1 0 + 256) % pw 8)) ++ List.replicate m7 0), 24), (b8, #[.int .u64 4, .int .u64 1], 24), (b9, #[.int .u64 44, .int .u64 0], 24), (b10, arr .u64 (List.replicate 2 0 ++ List.replicate m10 0), 24)]) (T := Sq6) (N := [(b11, #[.int .u64 0, .int .u64 0], 24)]) hI21
  refine seq_one (op_pureW hf112 rfl rfl rfl rfl ca_15 (same_walk (xs := List.replicate 2 0) (ys := [0, 0]) rfl rfl (by decide) (Rd.blk (xs := List.replicate 2 0) (hI22.at 6 rfl) arr_take2) (Rd.blk (xs := [0, 0]) (hI22.at 7 rfl) rfl)) hI22 fun ac106 wd18 hI23 hf113 => ?_)
  refine seq_one (op_val (v := .bool ((List.replicate 2 0) == [0, 0])) hf113 rfl rfl rfl rfl rfl rfl (r_pickT rfl rfl) fun ac107 hf114 => ?_)
  refine seq_one (op_val (v := .bool ((List.replicate 2 0) == [0, 0])) hf114 rfl rfl rfl rfl rfl rfl (r_assign rfl) fun ac108 hf115 => ?_)
  refine seq_end ?_
  clear ac56 hf56 ac57 hf57 ac58 hf58 ac59 hf59 ac60 hf60 ac61 hf61 ac62 hf62 ac63 hf63 ac64 hf64 ac65 hf65 ac66 hf66 ac67 hf67 ac68 hf68 hf69 ac69 hf70 ac70 hf71 ac71 hf72 ac72 hf73 hf74 ac73 hf75 ac74 hf76 ac75 hf77 ac76 hf78 ac77 hf79 ac78 hf80 ac79 hf81 ac80 hf82 hf83 ac81 hf84 ac82 hf85 ac83 hf86 ac84 hf87 ac85 wd11 hI13 hf88 hI14 ac86 wd12 hI15 hf89 ac87 hf90 ac88 hf91 hf92 ac89 hf93 ac90 hf94 ac91 hf95 ac92 hf96 hf97 ac93 hf98 ac94 hf99 ac95 hf100 ac96 hf101 hf102 ac97 hf103 ac98 wd13 hI16 hf104 hI17 ac99 wd14 hI18 hf105 ac100 hf106 ac101 hf107 hf108 ac102 hf109 ac103 wd15 hf110 hI19 hwb10 hqb10 ac104 wd16 hI20 hf111 hI21 ac105 wd17 hI22 hf112 ac106 hf113 ac107 hf114
  refine then_normal ?_
  refine wp_ret ?_
  refine post1 rfl hf115 rfl ⟨?_, hI23.done (fk_app (fresh_keys (ks := [b1, b2, b5, b7, b8, b9, b10, b11]) rfl (fk_cons hb1 (fk_cons hb2 (fk_cons hb5 (fk_cons hb7 (fk_cons hb8 (fk_cons hb9 (fk_cons hb10 (fk_cons hb11 fk_nil))))))))) hyq6)⟩
  rfl
end Go.Proofs.Ytohkdjaobdgenaa
