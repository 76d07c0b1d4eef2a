/-
  The chapter's examples of chain, and chains that were played.
-/
import Derived.Test.YtjelaoblpchmmaaFns4
namespace Go.Proofs.Ytjelaoblpchmmaa
set_option linter.unusedVariables false
set_option linter.unusedSimpArgs false
set_option maxRecDepth 100000
open Go.RowKit
set_option maxHeartbeats 8000000 in
theorem awake5_pur : Pur Try.prog 33 [] (.bool true) := by
  intro w
  have hI1 := Inv.start w
  refine enter (n := 98) Try.func33 rfl rfl rfl ?_
  intro ac1 hf1
  refine code_seq ?_
  refine seq_start (l := [0]) rfl ?_
  refine seq_one (op_val (v := .bool false) hf1 rfl rfl rfl rfl rfl rfl (r_assign rfl) fun ac2 hf2 => ?_)
  refine seq_end ?_
  clear ac1 hf1
  refine then_normal ?_
  refine code_seq ?_
  refine seq_start (l := [0, 1, 2, 3, 4, 5]) rfl ?_
  refine seq_one (op_call (R := fun v w' => ∃ lb ob mb cb, Array.size (World.heap w) ≤ lb ∧ Array.size (World.heap w) ≤ ob ∧ Array.size (World.heap w) ≤ mb ∧ Array.size (World.heap w) ≤ cb ∧ v = .tuple #[.pointer (some ⟨cb, 0, none⟩), .int .i64 0] ∧ Inv w [(lb, arr .i64 c4_2.lk, 103), (ob, arr .i64 c4_2.of, 3), (mb, arr .i64 c4_2.mn, 3), (cb, #[.slice (some ⟨lb, 0, none⟩) (4 + 2) (4 + 2), .slice (some ⟨ob, 0, none⟩) 4 4, .slice (some ⟨mb, 0, none⟩) 2 2], 79)] w') hf2 rfl rfl rfl rfl ca_34 ((new_walk (N := 4) (K := 2) (by decide) (by decide) _).mono fun e w' ⟨lb, ob, mb, cb, h1, h2, h3, h4, h5, h6⟩ => ⟨_, h5, lb, ob, mb, cb, h1, h2, h3, h4, rfl, h6⟩) fun ac3 v wd1 hR hf3 => ?_)
  obtain ⟨b1, b2, b3, b4, hqb1, hqb2, hqb3, hqb4, rfl, hw4⟩ := hR
  have hb1 := Nat.le_trans hI1.size hqb1
  have hb2 := Nat.le_trans hI1.size hqb2
  have hb3 := Nat.le_trans hI1.size hqb3
  have hb4 := Nat.le_trans hI1.size hqb4
  have hI2 : Inv w [(b1, arr .i64 c4_2.lk, 103), (b2, arr .i64 c4_2.of, 3), (b3, arr .i64 c4_2.mn, 3), (b4, #[.slice (some ⟨b1, 0, none⟩) (4 + 2) (4 + 2), .slice (some ⟨b2, 0, none⟩) 4 4, .slice (some ⟨b3, 0, none⟩) 2 2], 79)] _ := hI1.callN hw4 (fk4 hqb1 hqb2 hqb3 hqb4)
  refine seq_one (op_val (v := .tuple #[.pointer (some ⟨b4, 0, none⟩), .int .i64 0]) hf3 rfl rfl rfl rfl rfl rfl (r_move rfl) fun ac4 hf4 => ?_)
  refine seq_one (op_val (v := .pointer (some ⟨b4, 0, none⟩)) hf4 rfl rfl rfl rfl rfl rfl (r_extract rfl rfl) fun ac5 hf5 => ?_)
  refine seq_one (op_val (v := .int .i64 0) hf5 rfl rfl rfl rfl rfl rfl (r_extract rfl rfl) fun ac6 hf6 => ?_)
  refine seq_one (op_val (v := .pointer (some ⟨b4, 0, none⟩)) hf6 rfl rfl rfl rfl rfl rfl (r_assign rfl) fun ac7 hf7 => ?_)
  refine seq_one (op_val (v := .int .i64 0) hf7 rfl rfl rfl rfl rfl rfl (r_assign rfl) fun ac8 hf8 => ?_)
  refine seq_end ?_
  clear ac2 hf2 hI1 hw4 hqb1 hqb2 hqb3 hqb4 ac3 hf3 ac4 hf4 ac5 hf5 ac6 hf6 ac7 hf7
  refine then_normal ?_
  refine code_seq ?_
  refine seq_start (l := [0, 1, 2, 3, 4, 5, 6, 7, 8]) rfl ?_
  refine seq_one (op_val (v := .pointer (some ⟨b4, 0, none⟩)) hf8 rfl rfl rfl rfl rfl rfl (r_move rfl) fun ac9 hf9 => ?_)
  refine seq_one (op_call (R := fun v w' => v = .int .i64 (c4_2.pushE 0 3) ∧ Inv _ [(b1, arr .i64 (c4_2.push 0 3).lk, 103), (b2, arr .i64 (c4_2.push 0 3).of, 3), (b3, arr .i64 (c4_2.push 0 3).mn, 3), (b4, #[.slice (some ⟨b1, 0, none⟩) (4 + 2) (4 + 2), .slice (some ⟨b2, 0, none⟩) 4 4, .slice (some ⟨b3, 0, none⟩) 2 2], 79)] w') hf9 rfl rfl rfl rfl ca_30 ((push_any (hI2.nd 0 rfl rfl rfl rfl) c4_2 (Has.cons (hI2.at 0 rfl) (Has.cons (hI2.at 1 rfl) (Has.cons (hI2.at 2 rfl) (Has.cons (hI2.at 3 rfl) Has.nil)))) 0 3).mono fun _ _ h => ⟨_, h.1, rfl, h.2⟩) fun ac10 v wd2 hR5 hf10 => ?_)
  obtain ⟨rfl, hR5⟩ := hR5
  have hI3 : Inv w [(b1, arr .i64 (c4_2.push 0 3).lk, 103), (b2, arr .i64 (c4_2.push 0 3).of, 3), (b3, arr .i64 (c4_2.push 0 3).mn, 3), (b4, #[.slice (some ⟨b1, 0, none⟩) (4 + 2) (4 + 2), .slice (some ⟨b2, 0, none⟩) 4 4, .slice (some ⟨b3, 0, none⟩) 2 2], 79)] _ := Inv.callS (A := []) (S := [(b1, arr .i64 c4_2.lk, 103), (b2, arr .i64 c4_2.of, 3), (b3, arr .i64 c4_2.mn, 3), (b4, #[.slice (some ⟨b1, 0, none⟩) (4 + 2) (4 + 2), .slice (some ⟨b2, 0, none⟩) 4 4, .slice (some ⟨b3, 0, none⟩) 2 2], 79)]) (S' := [(b1, arr .i64 (c4_2.push 0 3).lk, 103), (b2, arr .i64 (c4_2.push 0 3).of, 3), (b3, arr .i64 (c4_2.push 0 3).mn, 3), (b4, #[.slice (some ⟨b1, 0, none⟩) (4 + 2) (4 + 2), .slice (some ⟨b2, 0, none⟩) 4 4, .slice (some ⟨b3, 0, none⟩) 2 2], 79)]) (L := []) (N := []) hI2 hR5 rfl (fun _ h => by cases h)
  refine seq_one (op_val (v := .pointer (some ⟨b4, 0, none⟩)) hf10 rfl rfl rfl rfl rfl rfl (r_move rfl) fun ac11 hf11 => ?_)
  refine seq_one (op_call (R := fun v w' => v = .int .i64 ((c4_2.push 0 3).pushE 0 1) ∧ Inv _ [(b1, arr .i64 ((c4_2.push 0 3).push 0 1).lk, 103), (b2, arr .i64 ((c4_2.push 0 3).push 0 1).of, 3), (b3, arr .i64 ((c4_2.push 0 3).push 0 1).mn, 3), (b4, #[.slice (some ⟨b1, 0, none⟩) (4 + 2) (4 + 2), .slice (some ⟨b2, 0, none⟩) 4 4, .slice (some ⟨b3, 0, none⟩) 2 2], 79)] w') hf11 rfl rfl rfl rfl ca_30 ((push_any (hI3.nd 0 rfl rfl rfl rfl) (c4_2.push 0 3) (Has.cons (hI3.at 0 rfl) (Has.cons (hI3.at 1 rfl) (Has.cons (hI3.at 2 rfl) (Has.cons (hI3.at 3 rfl) Has.nil)))) 0 1).mono fun _ _ h => ⟨_, h.1, rfl, h.2⟩) fun ac12 v wd3 hR6 hf12 => ?_)
  obtain ⟨rfl, hR6⟩ := hR6
  have hI4 : Inv w [(b1, arr .i64 ((c4_2.push 0 3).push 0 1).lk, 103), (b2, arr .i64 ((c4_2.push 0 3).push 0 1).of, 3), (b3, arr .i64 ((c4_2.push 0 3).push 0 1).mn, 3), (b4, #[.slice (some ⟨b1, 0, none⟩) (4 + 2) (4 + 2), .slice (some ⟨b2, 0, none⟩) 4 4, .slice (some ⟨b3, 0, none⟩) 2 2], 79)] _ := Inv.callS (A := []) (S := [(b1, arr .i64 (c4_2.push 0 3).lk, 103), (b2, arr .i64 (c4_2.push 0 3).of, 3), (b3, arr .i64 (c4_2.push 0 3).mn, 3), (b4, #[.slice (some ⟨b1, 0, none⟩) (4 + 2) (4 + 2), .slice (some ⟨b2, 0, none⟩) 4 4, .slice (some ⟨b3, 0, none⟩) 2 2], 79)]) (S' := [(b1, arr .i64 ((c4_2.push 0 3).push 0 1).lk, 103), (b2, arr .i64 ((c4_2.push 0 3).push 0 1).of, 3), (b3, arr .i64 ((c4_2.push 0 3).push 0 1).mn, 3), (b4, #[.slice (some ⟨b1, 0, none⟩) (4 + 2) (4 + 2), .slice (some ⟨b2, 0, none⟩) 4 4, .slice (some ⟨b3, 0, none⟩) 2 2], 79)]) (L := []) (N := []) hI3 hR6 rfl (fun _ h => by cases h)
  refine seq_one (op_val (v := .pointer (some ⟨b4, 0, none⟩)) hf12 rfl rfl rfl rfl rfl rfl (r_move rfl) fun ac13 hf13 => ?_)
  refine seq_one (op_call (R := fun v w' => v = .int .i64 (((c4_2.push 0 3).push 0 1).pushE 1 3) ∧ Inv _ [(b1, arr .i64 (((c4_2.push 0 3).push 0 1).push 1 3).lk, 103), (b2, arr .i64 (((c4_2.push 0 3).push 0 1).push 1 3).of, 3), (b3, arr .i64 (((c4_2.push 0 3).push 0 1).push 1 3).mn, 3), (b4, #[.slice (some ⟨b1, 0, none⟩) (4 + 2) (4 + 2), .slice (some ⟨b2, 0, none⟩) 4 4, .slice (some ⟨b3, 0, none⟩) 2 2], 79)] w') hf13 rfl rfl rfl rfl ca_30 ((push_any (hI4.nd 0 rfl rfl rfl rfl) ((c4_2.push 0 3).push 0 1) (Has.cons (hI4.at 0 rfl) (Has.cons (hI4.at 1 rfl) (Has.cons (hI4.at 2 rfl) (Has.cons (hI4.at 3 rfl) Has.nil)))) 1 3).mono fun _ _ h => ⟨_, h.1, rfl, h.2⟩) fun ac14 v wd4 hR7 hf14 => ?_)
  obtain ⟨rfl, hR7⟩ := hR7
  have hI5 : Inv w [(b1, arr .i64 (((c4_2.push 0 3).push 0 1).push 1 3).lk, 103), (b2, arr .i64 (((c4_2.push 0 3).push 0 1).push 1 3).of, 3), (b3, arr .i64 (((c4_2.push 0 3).push 0 1).push 1 3).mn, 3), (b4, #[.slice (some ⟨b1, 0, none⟩) (4 + 2) (4 + 2), .slice (some ⟨b2, 0, none⟩) 4 4, .slice (some ⟨b3, 0, none⟩) 2 2], 79)] _ := Inv.callS (A := []) (S := [(b1, arr .i64 ((c4_2.push 0 3).push 0 1).lk, 103), (b2, arr .i64 ((c4_2.push 0 3).push 0 1).of, 3), (b3, arr .i64 ((c4_2.push 0 3).push 0 1).mn, 3), (b4, #[.slice (some ⟨b1, 0, none⟩) (4 + 2) (4 + 2), .slice (some ⟨b2, 0, none⟩) 4 4, .slice (some ⟨b3, 0, none⟩) 2 2], 79)]) (S' := [(b1, arr .i64 (((c4_2.push 0 3).push 0 1).push 1 3).lk, 103), (b2, arr .i64 (((c4_2.push 0 3).push 0 1).push 1 3).of, 3), (b3, arr .i64 (((c4_2.push 0 3).push 0 1).push 1 3).mn, 3), (b4, #[.slice (some ⟨b1, 0, none⟩) (4 + 2) (4 + 2), .slice (some ⟨b2, 0, none⟩) 4 4, .slice (some ⟨b3, 0, none⟩) 2 2], 79)]) (L := []) (N := []) hI4 hR7 rfl (fun _ h => by cases h)
  refine seq_one (op_val (v := .int .i64 (c4_2.pushE 0 3)) hf14 rfl rfl rfl rfl rfl rfl (r_assign rfl) fun ac15 hf15 => ?_)
  refine seq_one (op_val (v := .int .i64 ((c4_2.push 0 3).pushE 0 1)) hf15 rfl rfl rfl rfl rfl rfl (r_assign rfl) fun ac16 hf16 => ?_)
  refine seq_one (op_val (v := .int .i64 (((c4_2.push 0 3).push 0 1).pushE 1 3)) hf16 rfl rfl rfl rfl rfl rfl (r_assign rfl) fun ac17 hf17 => ?_)
  refine seq_end ?_
  clear ac8 hf8 ac9 wd1 hf9 hI2 hR5 ac10 hf10 ac11 wd2 hf11 hI3 hR6 ac12 hf12 ac13 wd3 hf13 hI4 hR7 ac14 hf14 ac15 hf15 ac16 hf16
  refine then_normal ?_
  refine code_seq ?_
  refine seq_start (l := [0, 1, 2]) rfl ?_
  refine seq_one (op_val (v := .pointer (some ⟨b4, 0, none⟩)) hf17 rfl rfl rfl rfl rfl rfl (r_move rfl) fun ac18 hf18 => ?_)
  refine seq_one (op_call (R := fun v w' => ∃ S p cap, v = .slice p ((((c4_2.push 0 3).push 0 1).push 1 3).lst 0).length cap ∧ Sl 3 .i64 S p cap ((((c4_2.push 0 3).push 0 1).push 1 3).lst 0) ∧ Inv _ S w' ∧ ∀ x ∈ S, Array.size (World.heap _) ≤ x.1) hf18 rfl rfl rfl rfl ca_28 ((list_any (hI5.nd 0 rfl rfl rfl rfl) (((c4_2.push 0 3).push 0 1).push 1 3) (Has.cons (hI5.at 0 rfl) (Has.cons (hI5.at 1 rfl) (Has.cons (hI5.at 2 rfl) (Has.cons (hI5.at 3 rfl) Has.nil)))) 0).mono fun _ _ ⟨S, p, cap, he, h1, h3, h4⟩ => ⟨_, he, S, p, cap, rfl, h1, h3, h4⟩) fun ac19 v wd5 hR hf19 => ?_)
  obtain ⟨Sq8, q8, capq8, rfl, hsq8, hwq8, hzq8⟩ := hR
  have hyq8 := fk_le hI5.size hzq8
  have hI6 : Inv w ([(b1, arr .i64 (((c4_2.push 0 3).push 0 1).push 1 3).lk, 103), (b2, arr .i64 (((c4_2.push 0 3).push 0 1).push 1 3).of, 3), (b3, arr .i64 (((c4_2.push 0 3).push 0 1).push 1 3).mn, 3), (b4, #[.slice (some ⟨b1, 0, none⟩) (4 + 2) (4 + 2), .slice (some ⟨b2, 0, none⟩) 4 4, .slice (some ⟨b3, 0, none⟩) 2 2], 79)] ++ Sq8) _ := hI5.callN hwq8 hzq8
  refine seq_one (op_val (v := .slice q8 (((((c4_2.push 0 3).push 0 1).push 1 3).lst 0).length) capq8) hf19 rfl rfl rfl rfl rfl rfl (r_assign rfl) fun ac20 hf20 => ?_)
  refine seq_end ?_
  clear ac17 hf17 ac18 wd4 hf18 hI5 hwq8 hzq8 ac19 hf19
  refine then_normal ?_
  refine code_seq ?_
  refine seq_start (l := [0, 1, 2]) rfl ?_
  refine seq_one (op_val (v := .pointer (some ⟨b4, 0, none⟩)) hf20 rfl rfl rfl rfl rfl rfl (r_move rfl) fun ac21 hf21 => ?_)
  refine seq_one (op_call (R := fun v w' => v = .bool ((((c4_2.push 0 3).push 0 1).push 1 3).inn 3) ∧ Inv _ [(b1, arr .i64 ((((c4_2.push 0 3).push 0 1).push 1 3).drop 3).lk, 103), (b2, arr .i64 ((((c4_2.push 0 3).push 0 1).push 1 3).drop 3).of, 3), (b3, arr .i64 ((((c4_2.push 0 3).push 0 1).push 1 3).drop 3).mn, 3), (b4, #[.slice (some ⟨b1, 0, none⟩) (4 + 2) (4 + 2), .slice (some ⟨b2, 0, none⟩) 4 4, .slice (some ⟨b3, 0, none⟩) 2 2], 79)] w') hf21 rfl rfl rfl rfl ca_32 ((drop_any (hI6.nd 0 rfl rfl rfl rfl) (((c4_2.push 0 3).push 0 1).push 1 3) (Has.cons (hI6.at 0 rfl) (Has.cons (hI6.at 1 rfl) (Has.cons (hI6.at 2 rfl) (Has.cons (hI6.at 3 rfl) Has.nil)))) 3).mono fun _ _ h => ⟨_, h.1, rfl, h.2⟩) fun ac22 v wd6 hR9 hf22 => ?_)
  obtain ⟨rfl, hR9⟩ := hR9
  have hI7 : Inv w ([(b1, arr .i64 ((((c4_2.push 0 3).push 0 1).push 1 3).drop 3).lk, 103), (b2, arr .i64 ((((c4_2.push 0 3).push 0 1).push 1 3).drop 3).of, 3), (b3, arr .i64 ((((c4_2.push 0 3).push 0 1).push 1 3).drop 3).mn, 3), (b4, #[.slice (some ⟨b1, 0, none⟩) (4 + 2) (4 + 2), .slice (some ⟨b2, 0, none⟩) 4 4, .slice (some ⟨b3, 0, none⟩) 2 2], 79)] ++ Sq8) _ := Inv.callST (A := []) (S := [(b1, arr .i64 (((c4_2.push 0 3).push 0 1).push 1 3).lk, 103), (b2, arr .i64 (((c4_2.push 0 3).push 0 1).push 1 3).of, 3), (b3, arr .i64 (((c4_2.push 0 3).push 0 1).push 1 3).mn, 3), (b4, #[.slice (some ⟨b1, 0, none⟩) (4 + 2) (4 + 2), .slice (some ⟨b2, 0, none⟩) 4 4, .slice (some ⟨b3, 0, none⟩) 2 2], 79)]) (S' := [(b1, arr .i64 ((((c4_2.push 0 3).push 0 1).push 1 3).drop 3).lk, 103), (b2, arr .i64 ((((c4_2.push 0 3).push 0 1).push 1 3).drop 3).of, 3), (b3, arr .i64 ((((c4_2.push 0 3).push 0 1).push 1 3).drop 3).mn, 3), (b4, #[.slice (some ⟨b1, 0, none⟩) (4 + 2) (4 + 2), .slice (some ⟨b2, 0, none⟩) 4 4, .slice (some ⟨b3, 0, none⟩) 2 2], 79)]) (L := []) (N := []) (T := Sq8) hI6 hR9 rfl (fun _ h => by cases h)
  refine seq_one (op_val (v := .bool ((((c4_2.push 0 3).push 0 1).push 1 3).inn 3)) hf22 rfl rfl rfl rfl rfl rfl (r_assign rfl) fun ac23 hf23 => ?_)
  refine seq_end ?_
  clear ac20 hf20 ac21 wd5 hf21 hI6 hR9 ac22 hf22
  refine then_normal ?_
  refine code_seq ?_
  refine seq_start (l := [0, 1, 2, 3, 4, 5, 6]) rfl ?_
  refine seq_one (op_val (v := .pointer (some ⟨b4, 0, none⟩)) hf23 rfl rfl rfl rfl rfl rfl (r_move rfl) fun ac24 hf24 => ?_)
  refine seq_one (op_pureW hf24 rfl rfl rfl rfl ca_40 (first_any (hI7.nd 0 rfl rfl rfl rfl) ((((c4_2.push 0 3).push 0 1).push 1 3).drop 3) (Has.cons (hI7.at 0 rfl) (Has.cons (hI7.at 1 rfl) (Has.cons (hI7.at 2 rfl) (Has.cons (hI7.at 3 rfl) Has.nil)))) 0) hI7 fun ac25 wd7 hI8 hf25 => ?_)
  refine seq_one (op_val (v := .tuple #[.int .i64 (((((c4_2.push 0 3).push 0 1).push 1 3).drop 3).fst 0), .bool (((((c4_2.push 0 3).push 0 1).push 1 3).drop 3).some_ 0)]) hf25 rfl rfl rfl rfl rfl rfl (r_move rfl) fun ac26 hf26 => ?_)
  refine seq_one (op_val (v := .int .i64 (((((c4_2.push 0 3).push 0 1).push 1 3).drop 3).fst 0)) hf26 rfl rfl rfl rfl rfl rfl (r_extract rfl rfl) fun ac27 hf27 => ?_)
  refine seq_one (op_val (v := .bool (((((c4_2.push 0 3).push 0 1).push 1 3).drop 3).some_ 0)) hf27 rfl rfl rfl rfl rfl rfl (r_extract rfl rfl) fun ac28 hf28 => ?_)
  refine seq_one (op_val (v := .int .i64 (((((c4_2.push 0 3).push 0 1).push 1 3).drop 3).fst 0)) hf28 rfl rfl rfl rfl rfl rfl (r_assign rfl) fun ac29 hf29 => ?_)
  refine seq_one (op_val (v := .bool (((((c4_2.push 0 3).push 0 1).push 1 3).drop 3).some_ 0)) hf29 rfl rfl rfl rfl rfl rfl (r_assign rfl) fun ac30 hf30 => ?_)
  refine seq_end ?_
  clear ac23 hf23 ac24 wd6 hI7 hf24 ac25 hf25 ac26 hf26 ac27 hf27 ac28 hf28 ac29 hf29
  refine then_normal ?_
  refine code_seq ?_
  refine seq_start (l := [0, 1, 2, 3, 4, 5, 6]) rfl ?_
  refine seq_one (op_val (v := .pointer (some ⟨b4, 0, none⟩)) hf30 rfl rfl rfl rfl rfl rfl (r_move rfl) fun ac31 hf31 => ?_)
  refine seq_one (op_call (R := fun v w' => v = .tuple #[.int .i64 (((((c4_2.push 0 3).push 0 1).push 1 3).drop 3).fst 0), .bool (((((c4_2.push 0 3).push 0 1).push 1 3).drop 3).some_ 0)] ∧ Inv _ [(b1, arr .i64 (((((c4_2.push 0 3).push 0 1).push 1 3).drop 3).pop 0).lk, 103), (b2, arr .i64 (((((c4_2.push 0 3).push 0 1).push 1 3).drop 3).pop 0).of, 3), (b3, arr .i64 (((((c4_2.push 0 3).push 0 1).push 1 3).drop 3).pop 0).mn, 3), (b4, #[.slice (some ⟨b1, 0, none⟩) (4 + 2) (4 + 2), .slice (some ⟨b2, 0, none⟩) 4 4, .slice (some ⟨b3, 0, none⟩) 2 2], 79)] w') hf31 rfl rfl rfl rfl ca_31 ((pop_any (hI8.nd 0 rfl rfl rfl rfl) ((((c4_2.push 0 3).push 0 1).push 1 3).drop 3) (Has.cons (hI8.at 0 rfl) (Has.cons (hI8.at 1 rfl) (Has.cons (hI8.at 2 rfl) (Has.cons (hI8.at 3 rfl) Has.nil)))) 0).mono fun _ _ h => ⟨_, h.1, rfl, h.2⟩) fun ac32 v wd8 hR10 hf32 => ?_)
  obtain ⟨rfl, hR10⟩ := hR10
  have hI9 : Inv w ([(b1, arr .i64 (((((c4_2.push 0 3).push 0 1).push 1 3).drop 3).pop 0).lk, 103), (b2, arr .i64 (((((c4_2.push 0 3).push 0 1).push 1 3).drop 3).pop 0).of, 3), (b3, arr .i64 (((((c4_2.push 0 3).push 0 1).push 1 3).drop 3).pop 0).mn, 3), (b4, #[.slice (some ⟨b1, 0, none⟩) (4 + 2) (4 + 2), .slice (some ⟨b2, 0, none⟩) 4 4, .slice (some ⟨b3, 0, none⟩) 2 2], 79)] ++ Sq8) _ := Inv.callST (A := []) (S := [(b1, arr .i64 ((((c4_2.push 0 3).push 0 1).push 1 3).drop 3).lk, 103), (b2, arr .i64 ((((c4_2.push 0 3).push 0 1).push 1 3).drop 3).of, 3), (b3, arr .i64 ((((c4_2.push 0 3).push 0 1).push 1 3).drop 3).mn, 3), (b4, #[.slice (some ⟨b1, 0, none⟩) (4 + 2) (4 + 2), .slice (some ⟨b2, 0, none⟩) 4 4, .slice (some ⟨b3, 0, none⟩) 2 2], 79)]) (S' := [(b1, arr .i64 (((((c4_2.push 0 3).push 0 1).push 1 3).drop 3).pop 0).lk, 103), (b2, arr .i64 (((((c4_2.push 0 3).push 0 1).push 1 3).drop 3).pop 0).of, 3), (b3, arr .i64 (((((c4_2.push 0 3).push 0 1).push 1 3).drop 3).pop 0).mn, 3), (b4, #[.slice (some ⟨b1, 0, none⟩) (4 + 2) (4 + 2), .slice (some ⟨b2, 0, none⟩) 4 4, .slice (some ⟨b3, 0, none⟩) 2 2], 79)]) (L := []) (N := []) (T := Sq8) hI8 hR10 rfl (fun _ h => by cases h)
  refine seq_one (op_val (v := .tuple #[.int .i64 (((((c4_2.push 0 3).push 0 1).push 1 3).drop 3).fst 0), .bool (((((c4_2.push 0 3).push 0 1).push 1 3).drop 3).some_ 0)]) hf32 rfl rfl rfl rfl rfl rfl (r_move rfl) fun ac33 hf33 => ?_)
  refine seq_one (op_val (v := .int .i64 (((((c4_2.push 0 3).push 0 1).push 1 3).drop 3).fst 0)) hf33 rfl rfl rfl rfl rfl rfl (r_extract rfl rfl) fun ac34 hf34 => ?_)
  refine seq_one (op_val (v := .bool (((((c4_2.push 0 3).push 0 1).push 1 3).drop 3).some_ 0)) hf34 rfl rfl rfl rfl rfl rfl (r_extract rfl rfl) fun ac35 hf35 => ?_)
  refine seq_one (op_val (v := .int .i64 (((((c4_2.push 0 3).push 0 1).push 1 3).drop 3).fst 0)) hf35 rfl rfl rfl rfl rfl rfl (r_assign rfl) fun ac36 hf36 => ?_)
  refine seq_one (op_val (v := .bool (((((c4_2.push 0 3).push 0 1).push 1 3).drop 3).some_ 0)) hf36 rfl rfl rfl rfl rfl rfl (r_assign rfl) fun ac37 hf37 => ?_)
  refine seq_end ?_
  clear ac30 hf30 ac31 wd7 hf31 hI8 hR10 ac32 hf32 ac33 hf33 ac34 hf34 ac35 hf35 ac36 hf36
  refine then_normal ?_
  refine code_seq ?_
  refine seq_start (l := [0, 1, 2, 3, 4, 5, 6]) rfl ?_
  refine seq_one (op_val (v := .pointer (some ⟨b4, 0, none⟩)) hf37 rfl rfl rfl rfl rfl rfl (r_move rfl) fun ac38 hf38 => ?_)
  refine seq_one (op_call (R := fun v w' => v = .tuple #[.int .i64 ((((((c4_2.push 0 3).push 0 1).push 1 3).drop 3).pop 0).fst 0), .bool ((((((c4_2.push 0 3).push 0 1).push 1 3).drop 3).pop 0).some_ 0)] ∧ Inv _ [(b1, arr .i64 ((((((c4_2.push 0 3).push 0 1).push 1 3).drop 3).pop 0).pop 0).lk, 103), (b2, arr .i64 ((((((c4_2.push 0 3).push 0 1).push 1 3).drop 3).pop 0).pop 0).of, 3), (b3, arr .i64 ((((((c4_2.push 0 3).push 0 1).push 1 3).drop 3).pop 0).pop 0).mn, 3), (b4, #[.slice (some ⟨b1, 0, none⟩) (4 + 2) (4 + 2), .slice (some ⟨b2, 0, none⟩) 4 4, .slice (some ⟨b3, 0, none⟩) 2 2], 79)] w') hf38 rfl rfl rfl rfl ca_31 ((pop_any (hI9.nd 0 rfl rfl rfl rfl) (((((c4_2.push 0 3).push 0 1).push 1 3).drop 3).pop 0) (Has.cons (hI9.at 0 rfl) (Has.cons (hI9.at 1 rfl) (Has.cons (hI9.at 2 rfl) (Has.cons (hI9.at 3 rfl) Has.nil)))) 0).mono fun _ _ h => ⟨_, h.1, rfl, h.2⟩) fun ac39 v wd9 hR11 hf39 => ?_)
  obtain ⟨rfl, hR11⟩ := hR11
  have hI10 : Inv w ([(b1, arr .i64 ((((((c4_2.push 0 3).push 0 1).push 1 3).drop 3).pop 0).pop 0).lk, 103), (b2, arr .i64 ((((((c4_2.push 0 3).push 0 1).push 1 3).drop 3).pop 0).pop 0).of, 3), (b3, arr .i64 ((((((c4_2.push 0 3).push 0 1).push 1 3).drop 3).pop 0).pop 0).mn, 3), (b4, #[.slice (some ⟨b1, 0, none⟩) (4 + 2) (4 + 2), .slice (some ⟨b2, 0, none⟩) 4 4, .slice (some ⟨b3, 0, none⟩) 2 2], 79)] ++ Sq8) _ := Inv.callST (A := []) (S := [(b1, arr .i64 (((((c4_2.push 0 3).push 0 1).push 1 3).drop 3).pop 0).lk, 103), (b2, arr .i64 (((((c4_2.push 0 3).push 0 1).push 1 3).drop 3).pop 0).of, 3), (b3, arr .i64 (((((c4_2.push 0 3).push 0 1).push 1 3).drop 3).pop 0).mn, 3), (b4, #[.slice (some ⟨b1, 0, none⟩) (4 + 2) (4 + 2), .slice (some ⟨b2, 0, none⟩) 4 4, .slice (some ⟨b3, 0, none⟩) 2 2], 79)]) (S' := [(b1, arr .i64 ((((((c4_2.push 0 3).push 0 1).push 1 3).drop 3).pop 0).pop 0).lk, 103), (b2, arr .i64 ((((((c4_2.push 0 3).push 0 1).push 1 3).drop 3).pop 0).pop 0).of, 3), (b3, arr .i64 ((((((c4_2.push 0 3).push 0 1).push 1 3).drop 3).pop 0).pop 0).mn, 3), (b4, #[.slice (some ⟨b1, 0, none⟩) (4 + 2) (4 + 2), .slice (some ⟨b2, 0, none⟩) 4 4, .slice (some ⟨b3, 0, none⟩) 2 2], 79)]) (L := []) (N := []) (T := Sq8) hI9 hR11 rfl (fun _ h => by cases h)
  refine seq_one (op_val (v := .tuple #[.int .i64 ((((((c4_2.push 0 3).push 0 1).push 1 3).drop 3).pop 0).fst 0), .bool ((((((c4_2.push 0 3).push 0 1).push 1 3).drop 3).pop 0).some_ 0)]) hf39 rfl rfl rfl rfl rfl rfl (r_move rfl) fun ac40 hf40 => ?_)
  refine seq_one (op_val (v := .int .i64 ((((((c4_2.push 0 3).push 0 1).push 1 3).drop 3).pop 0).fst 0)) hf40 rfl rfl rfl rfl rfl rfl (r_extract rfl rfl) fun ac41 hf41 => ?_)
  refine seq_one (op_val (v := .bool ((((((c4_2.push 0 3).push 0 1).push 1 3).drop 3).pop 0).some_ 0)) hf41 rfl rfl rfl rfl rfl rfl (r_extract rfl rfl) fun ac42 hf42 => ?_)
  refine seq_one (op_val (v := .int .i64 ((((((c4_2.push 0 3).push 0 1).push 1 3).drop 3).pop 0).fst 0)) hf42 rfl rfl rfl rfl rfl rfl (r_assign rfl) fun ac43 hf43 => ?_)
  refine seq_one (op_val (v := .bool ((((((c4_2.push 0 3).push 0 1).push 1 3).drop 3).pop 0).some_ 0)) hf43 rfl rfl rfl rfl rfl rfl (r_assign rfl) fun ac44 hf44 => ?_)
  refine seq_end ?_
  clear ac37 hf37 ac38 wd8 hf38 hI9 hR11 ac39 hf39 ac40 hf40 ac41 hf41 ac42 hf42 ac43 hf43
  refine then_normal ?_
  refine code_seq ?_
  refine seq_start (l := [0, 1, 2, 3, 4, 5]) rfl ?_
  refine seq_one (op_pure hf44 rfl rfl rfl rfl ca_34 (new_bad (by decide)) hI10 fun ac45 wd10 hI11 hf45 => ?_)
  refine seq_one (op_val (v := .tuple #[.pointer none, .int .i64 2]) hf45 rfl rfl rfl rfl rfl rfl (r_move rfl) fun ac46 hf46 => ?_)
  refine seq_one (op_val (v := .pointer none) hf46 rfl rfl rfl rfl rfl rfl (r_extract rfl rfl) fun ac47 hf47 => ?_)
  refine seq_one (op_val (v := .int .i64 2) hf47 rfl rfl rfl rfl rfl rfl (r_extract rfl rfl) fun ac48 hf48 => ?_)
  refine seq_one (op_val (v := .pointer none) hf48 rfl rfl rfl rfl rfl rfl (r_assign rfl) fun ac49 hf49 => ?_)
  refine seq_one (op_val (v := .int .i64 2) hf49 rfl rfl rfl rfl rfl rfl (r_assign rfl) fun ac50 hf50 => ?_)
  refine seq_end ?_
  clear ac44 wd9 hI10 hf44 ac45 hf45 ac46 hf46 ac47 hf47 ac48 hf48 ac49 hf49
  refine then_normal ?_
  refine code_seq ?_
  refine seq_start (l := [0, 1, 2, 3, 4, 5, 6, 7, 8, 9, 10, 11, 12, 13, 14, 15, 16, 17, 18, 19, 20, 21, 22, 23, 24, 25, 26, 27, 28, 29, 30, 31, 32, 33, 34, 35, 36, 37, 38, 39, 40, 41, 42, 43, 44, 45, 46, 47, 48, 49]) rfl ?_
  refine seq_one (op_val (v := .int .i64 0) hf50 rfl rfl rfl rfl rfl rfl (r_move rfl) fun ac51 hf51 => ?_)
  refine seq_one (op_val (v := .bool true) hf51 rfl rfl rfl rfl rfl rfl (r_eqlC rfl rfl (by decide)) fun ac52 hf52 => ?_)
  refine seq_one (op_val (v := .bool true) hf52 rfl rfl rfl rfl rfl rfl (r_move rfl) fun ac53 hf53 => ?_)
  refine seq_one (op_val (v := .int .i64 (c4_2.pushE 0 3)) hf53 rfl rfl rfl rfl rfl rfl (r_move rfl) fun ac54 hf54 => ?_)
  refine seq_one (op_val (v := .bool ((c4_2.pushE 0 3) == 0)) hf54 rfl rfl rfl rfl rfl rfl (r_eql rfl rfl) fun ac55 hf55 => ?_)
  refine seq_one (op_val (v := .bool ((c4_2.pushE 0 3) == 0)) hf55 rfl rfl rfl rfl rfl rfl (r_pickT rfl rfl) fun ac56 hf56 => ?_)
  refine seq_one (op_val (v := .bool ((c4_2.pushE 0 3) == 0)) hf56 rfl rfl rfl rfl rfl rfl (r_move rfl) fun ac57 hf57 => ?_)
  have hf58 := hf57.know 55 (u := .bool true) rfl (congrArg Value.bool (by decide +kernel))
  refine seq_one (op_val (v := .int .i64 ((c4_2.push 0 3).pushE 0 1)) hf58 rfl rfl rfl rfl rfl rfl (r_move rfl) fun ac58 hf59 => ?_)
  refine seq_one (op_val (v := .bool (((c4_2.push 0 3).pushE 0 1) == 0)) hf59 rfl rfl rfl rfl rfl rfl (r_eql rfl rfl) fun ac59 hf60 => ?_)
  refine seq_one (op_val (v := .bool (((c4_2.push 0 3).pushE 0 1) == 0)) hf60 rfl rfl rfl rfl rfl rfl (r_pickT rfl rfl) fun ac60 hf61 => ?_)
  refine seq_one (op_val (v := .bool (((c4_2.push 0 3).pushE 0 1) == 0)) hf61 rfl rfl rfl rfl rfl rfl (r_move rfl) fun ac61 hf62 => ?_)
  have hf63 := hf62.know 59 (u := .bool true) rfl (congrArg Value.bool (by decide +kernel))
  refine seq_one (op_val (v := .int .i64 (((c4_2.push 0 3).push 0 1).pushE 1 3)) hf63 rfl rfl rfl rfl rfl rfl (r_move rfl) fun ac62 hf64 => ?_)
  refine seq_one (op_val (v := .bool ((((c4_2.push 0 3).push 0 1).pushE 1 3) == 50)) hf64 rfl rfl rfl rfl rfl rfl (r_eql rfl rfl) fun ac63 hf65 => ?_)
  refine seq_one (op_val (v := .bool ((((c4_2.push 0 3).push 0 1).pushE 1 3) == 50)) hf65 rfl rfl rfl rfl rfl rfl (r_pickT rfl rfl) fun ac64 hf66 => ?_)
  refine seq_one (op_val (v := .bool ((((c4_2.push 0 3).push 0 1).pushE 1 3) == 50)) hf66 rfl rfl rfl rfl rfl rfl (r_move rfl) fun ac65 hf67 => ?_)
  have hf68 := hf67.know 63 (u := .bool true) rfl (congrArg Value.bool (by decide +kernel))
  refine seq_one (op_val (v := .slice q8 (((((c4_2.push 0 3).push 0 1).push 1 3).lst 0).length) capq8) hf68 rfl rfl rfl rfl rfl rfl (r_move rfl) fun ac66 hf69 => ?_)
  refine seq_one (op_bslice (s := 3) (cells := #[.int .i64 3, .int .i64 1]) hf69 rfl rfl rfl rfl rfl (fun _ => by kernel_rfl) hI11 fun ac67 b12 wd11 hb12 hI12 hf70 => ?_)
  have hI13 : Inv w ([(b1, arr .i64 ((((((c4_2.push 0 3).push 0 1).push 1 3).drop 3).pop 0).pop 0).lk, 103), (b2, arr .i64 ((((((c4_2.push 0 3).push 0 1).push 1 3).drop 3).pop 0).pop 0).of, 3), (b3, arr .i64 ((((((c4_2.push 0 3).push 0 1).push 1 3).drop 3).pop 0).pop 0).mn, 3), (b4, #[.slice (some ⟨b1, 0, none⟩) (4 + 2) (4 + 2), .slice (some ⟨b2, 0, none⟩) 4 4, .slice (some ⟨b3, 0, none⟩) 2 2], 79), (b12, #[.int .i64 3, .int .i64 1], 3)] ++ Sq8) wd11 := Inv.tail (A := [(b1, arr .i64 ((((((c4_2.push 0 3).push 0 1).push 1 3).drop 3).pop 0).pop 0).lk, 103), (b2, arr .i64 ((((((c4_2.push 0 3).push 0 1).push 1 3).drop 3).pop 0).pop 0).of, 3), (b3, arr .i64 ((((((c4_2.push 0 3).push 0 1).push 1 3).drop 3).pop 0).pop 0).mn, 3), (b4, #[.slice (some ⟨b1, 0, none⟩) (4 + 2) (4 + 2), .slice (some ⟨b2, 0, none⟩) 4 4, .slice (some ⟨b3, 0, none⟩) 2 2], 79)]) (T := Sq8) (N := [(b12, #[.int .i64 3, .int .i64 1], 3)]) hI12
  refine seq_one (op_pureW hf70 rfl rfl rfl rfl ca_19 (ints_walk (xs := ((((c4_2.push 0 3).push 0 1).push 1 3).lst 0)) (ys := [3, 1]) rfl rfl (Nat.le_trans (Ch.lst_le _ _) (by omega)) (hsq8.rd hI13 (fun x hx => List.mem_append_right _ hx)) (Rd.blk (xs := [3, 1]) (hI13.at 4 rfl) rfl)) hI13 fun ac68 wd12 hI14 hf71 => ?_)
  refine seq_one (op_val (v := .bool (((((c4_2.push 0 3).push 0 1).push 1 3).lst 0) == [3, 1])) hf71 rfl rfl rfl rfl rfl rfl (r_pickT rfl rfl) fun ac69 hf72 => ?_)
  refine seq_one (op_val (v := .bool (((((c4_2.push 0 3).push 0 1).push 1 3).lst 0) == [3, 1])) hf72 rfl rfl rfl rfl rfl rfl (r_move rfl) fun ac70 hf73 => ?_)
  have hf74 := hf73.know 68 (u := .bool true) rfl (congrArg Value.bool (by decide +kernel))
  refine seq_one (op_val (v := .bool ((((c4_2.push 0 3).push 0 1).push 1 3).inn 3)) hf74 rfl rfl rfl rfl rfl rfl (r_move rfl) fun ac71 hf75 => ?_)
  refine seq_one (op_val (v := .bool ((((c4_2.push 0 3).push 0 1).push 1 3).inn 3)) hf75 rfl rfl rfl rfl rfl rfl (r_pickT rfl rfl) fun ac72 hf76 => ?_)
  refine seq_one (op_val (v := .bool ((((c4_2.push 0 3).push 0 1).push 1 3).inn 3)) hf76 rfl rfl rfl rfl rfl rfl (r_move rfl) fun ac73 hf77 => ?_)
  have hf78 := hf77.know 71 (u := .bool true) rfl (congrArg Value.bool (by decide +kernel))
  refine seq_one (op_val (v := .int .i64 (((((c4_2.push 0 3).push 0 1).push 1 3).drop 3).fst 0)) hf78 rfl rfl rfl rfl rfl rfl (r_move rfl) fun ac74 hf79 => ?_)
  refine seq_one (op_val (v := .bool ((((((c4_2.push 0 3).push 0 1).push 1 3).drop 3).fst 0) == 1)) hf79 rfl rfl rfl rfl rfl rfl (r_eql rfl rfl) fun ac75 hf80 => ?_)
  refine seq_one (op_val (v := .bool ((((((c4_2.push 0 3).push 0 1).push 1 3).drop 3).fst 0) == 1)) hf80 rfl rfl rfl rfl rfl rfl (r_pickT rfl rfl) fun ac76 hf81 => ?_)
  refine seq_one (op_val (v := .bool ((((((c4_2.push 0 3).push 0 1).push 1 3).drop 3).fst 0) == 1)) hf81 rfl rfl rfl rfl rfl rfl (r_move rfl) fun ac77 hf82 => ?_)
  have hf83 := hf82.know 75 (u := .bool true) rfl (congrArg Value.bool (by decide +kernel))
  refine seq_one (op_val (v := .bool (((((c4_2.push 0 3).push 0 1).push 1 3).drop 3).some_ 0)) hf83 rfl rfl rfl rfl rfl rfl (r_move rfl) fun ac78 hf84 => ?_)
  refine seq_one (op_val (v := .bool (((((c4_2.push 0 3).push 0 1).push 1 3).drop 3).some_ 0)) hf84 rfl rfl rfl rfl rfl rfl (r_pickT rfl rfl) fun ac79 hf85 => ?_)
  refine seq_one (op_val (v := .bool (((((c4_2.push 0 3).push 0 1).push 1 3).drop 3).some_ 0)) hf85 rfl rfl rfl rfl rfl rfl (r_move rfl) fun ac80 hf86 => ?_)
  have hf87 := hf86.know 78 (u := .bool true) rfl (congrArg Value.bool (by decide +kernel))
  refine seq_one (op_val (v := .int .i64 (((((c4_2.push 0 3).push 0 1).push 1 3).drop 3).fst 0)) hf87 rfl rfl rfl rfl rfl rfl (r_move rfl) fun ac81 hf88 => ?_)
  refine seq_one (op_val (v := .bool ((((((c4_2.push 0 3).push 0 1).push 1 3).drop 3).fst 0) == 1)) hf88 rfl rfl rfl rfl rfl rfl (r_eql rfl rfl) fun ac82 hf89 => ?_)
  refine seq_one (op_val (v := .bool ((((((c4_2.push 0 3).push 0 1).push 1 3).drop 3).fst 0) == 1)) hf89 rfl rfl rfl rfl rfl rfl (r_pickT rfl rfl) fun ac83 hf90 => ?_)
  refine seq_one (op_val (v := .bool ((((((c4_2.push 0 3).push 0 1).push 1 3).drop 3).fst 0) == 1)) hf90 rfl rfl rfl rfl rfl rfl (r_move rfl) fun ac84 hf91 => ?_)
  have hf92 := hf91.know 82 (u := .bool true) rfl (congrArg Value.bool (by decide +kernel))
  refine seq_one (op_val (v := .bool (((((c4_2.push 0 3).push 0 1).push 1 3).drop 3).some_ 0)) hf92 rfl rfl rfl rfl rfl rfl (r_move rfl) fun ac85 hf93 => ?_)
  refine seq_one (op_val (v := .bool (((((c4_2.push 0 3).push 0 1).push 1 3).drop 3).some_ 0)) hf93 rfl rfl rfl rfl rfl rfl (r_pickT rfl rfl) fun ac86 hf94 => ?_)
  refine seq_one (op_val (v := .bool (((((c4_2.push 0 3).push 0 1).push 1 3).drop 3).some_ 0)) hf94 rfl rfl rfl rfl rfl rfl (r_move rfl) fun ac87 hf95 => ?_)
  have hf96 := hf95.know 85 (u := .bool true) rfl (congrArg Value.bool (by decide +kernel))
  refine seq_one (op_val (v := .bool ((((((c4_2.push 0 3).push 0 1).push 1 3).drop 3).pop 0).some_ 0)) hf96 rfl rfl rfl rfl rfl rfl (r_move rfl) fun ac88 hf97 => ?_)
  refine seq_one (op_val (v := .bool (!((((((c4_2.push 0 3).push 0 1).push 1 3).drop 3).pop 0).some_ 0))) hf97 rfl rfl rfl rfl rfl rfl (r_not rfl) fun ac89 hf98 => ?_)
  refine seq_one (op_val (v := .bool (!((((((c4_2.push 0 3).push 0 1).push 1 3).drop 3).pop 0).some_ 0))) hf98 rfl rfl rfl rfl rfl rfl (r_pickT rfl rfl) fun ac90 hf99 => ?_)
  refine seq_one (op_val (v := .bool (!((((((c4_2.push 0 3).push 0 1).push 1 3).drop 3).pop 0).some_ 0))) hf99 rfl rfl rfl rfl rfl rfl (r_move rfl) fun ac91 hf100 => ?_)
  have hf101 := hf100.know 89 (u := .bool true) rfl (congrArg Value.bool (by decide +kernel))
  refine seq_one (op_val (v := .int .i64 2) hf101 rfl rfl rfl rfl rfl rfl (r_move rfl) fun ac92 hf102 => ?_)
  refine seq_one (op_val (v := .bool true) hf102 rfl rfl rfl rfl rfl rfl (r_eqlC rfl rfl (by decide)) fun ac93 hf103 => ?_)
  refine seq_one (op_val (v := .bool true) hf103 rfl rfl rfl rfl rfl rfl (r_pickT rfl rfl) fun ac94 hf104 => ?_)
  refine seq_one (op_val (v := .bool true) hf104 rfl rfl rfl rfl rfl rfl (r_move rfl) fun ac95 hf105 => ?_)
  refine seq_one (op_val (v := .pointer (some ⟨b4, 0, none⟩)) hf105 rfl rfl rfl rfl rfl rfl (r_move rfl) fun ac96 hf106 => ?_)
  refine seq_one (op_call (R := fun v w' => v = .int .i64 (((((((c4_2.push 0 3).push 0 1).push 1 3).drop 3).pop 0).pop 0).pushE 2 0) ∧ Inv _ [(b1, arr .i64 (((((((c4_2.push 0 3).push 0 1).push 1 3).drop 3).pop 0).pop 0).push 2 0).lk, 103), (b2, arr .i64 (((((((c4_2.push 0 3).push 0 1).push 1 3).drop 3).pop 0).pop 0).push 2 0).of, 3), (b3, arr .i64 (((((((c4_2.push 0 3).push 0 1).push 1 3).drop 3).pop 0).pop 0).push 2 0).mn, 3), (b4, #[.slice (some ⟨b1, 0, none⟩) (4 + 2) (4 + 2), .slice (some ⟨b2, 0, none⟩) 4 4, .slice (some ⟨b3, 0, none⟩) 2 2], 79)] w') hf106 rfl rfl rfl rfl ca_30 ((push_any (hI14.nd 0 rfl rfl rfl rfl) ((((((c4_2.push 0 3).push 0 1).push 1 3).drop 3).pop 0).pop 0) (Has.cons (hI14.at 0 rfl) (Has.cons (hI14.at 1 rfl) (Has.cons (hI14.at 2 rfl) (Has.cons (hI14.at 3 rfl) Has.nil)))) 2 0).mono fun _ _ h => ⟨_, h.1, rfl, h.2⟩) fun ac97 v wd13 hR13 hf107 => ?_)
  obtain ⟨rfl, hR13⟩ := hR13
  have hI15 : Inv w ([(b1, arr .i64 (((((((c4_2.push 0 3).push 0 1).push 1 3).drop 3).pop 0).pop 0).push 2 0).lk, 103), (b2, arr .i64 (((((((c4_2.push 0 3).push 0 1).push 1 3).drop 3).pop 0).pop 0).push 2 0).of, 3), (b3, arr .i64 (((((((c4_2.push 0 3).push 0 1).push 1 3).drop 3).pop 0).pop 0).push 2 0).mn, 3), (b4, #[.slice (some ⟨b1, 0, none⟩) (4 + 2) (4 + 2), .slice (some ⟨b2, 0, none⟩) 4 4, .slice (some ⟨b3, 0, none⟩) 2 2], 79), (b12, #[.int .i64 3, .int .i64 1], 3)] ++ Sq8) _ := Inv.callST (A := []) (S := [(b1, arr .i64 ((((((c4_2.push 0 3).push 0 1).push 1 3).drop 3).pop 0).pop 0).lk, 103), (b2, arr .i64 ((((((c4_2.push 0 3).push 0 1).push 1 3).drop 3).pop 0).pop 0).of, 3), (b3, arr .i64 ((((((c4_2.push 0 3).push 0 1).push 1 3).drop 3).pop 0).pop 0).mn, 3), (b4, #[.slice (some ⟨b1, 0, none⟩) (4 + 2) (4 + 2), .slice (some ⟨b2, 0, none⟩) 4 4, .slice (some ⟨b3, 0, none⟩) 2 2], 79)]) (S' := [(b1, arr .i64 (((((((c4_2.push 0 3).push 0 1).push 1 3).drop 3).pop 0).pop 0).push 2 0).lk, 103), (b2, arr .i64 (((((((c4_2.push 0 3).push 0 1).push 1 3).drop 3).pop 0).pop 0).push 2 0).of, 3), (b3, arr .i64 (((((((c4_2.push 0 3).push 0 1).push 1 3).drop 3).pop 0).pop 0).push 2 0).mn, 3), (b4, #[.slice (some ⟨b1, 0, none⟩) (4 + 2) (4 + 2), .slice (some ⟨b2, 0, none⟩) 4 4, .slice (some ⟨b3, 0, none⟩) 2 2], 79)]) (L := [(b12, #[.int .i64 3, .int .i64 1], 3)]) (N := []) (T := Sq8) hI14 hR13 rfl (fun _ h => by cases h)
  refine seq_one (op_val (v := .bool ((((((((c4_2.push 0 3).push 0 1).push 1 3).drop 3).pop 0).pop 0).pushE 2 0) == 2)) hf107 rfl rfl rfl rfl rfl rfl (r_eql rfl rfl) fun ac98 hf108 => ?_)
  refine seq_one (op_val (v := .bool ((((((((c4_2.push 0 3).push 0 1).push 1 3).drop 3).pop 0).pop 0).pushE 2 0) == 2)) hf108 rfl rfl rfl rfl rfl rfl (r_pickT rfl rfl) fun ac99 hf109 => ?_)
  refine seq_one (op_val (v := .bool ((((((((c4_2.push 0 3).push 0 1).push 1 3).drop 3).pop 0).pop 0).pushE 2 0) == 2)) hf109 rfl rfl rfl rfl rfl rfl (r_assign rfl) fun ac100 hf110 => ?_)
  refine seq_end ?_
  clear ac50 hf50 ac51 hf51 ac52 hf52 ac53 hf53 ac54 hf54 ac55 hf55 ac56 hf56 hf57 ac57 hf58 ac58 hf59 ac59 hf60 ac60 hf61 hf62 ac61 hf63 ac62 hf64 ac63 hf65 ac64 hf66 hf67 ac65 hf68 ac66 wd10 hI11 hf69 hI12 ac67 wd11 hI13 hf70 ac68 hf71 ac69 hf72 hf73 ac70 hf74 ac71 hf75 ac72 hf76 hf77 ac73 hf78 ac74 hf79 ac75 hf80 ac76 hf81 hf82 ac77 hf83 ac78 hf84 ac79 hf85 hf86 ac80 hf87 ac81 hf88 ac82 hf89 ac83 hf90 hf91 ac84 hf92 ac85 hf93 ac86 hf94 hf95 ac87 hf96 ac88 hf97 ac89 hf98 ac90 hf99 hf100 ac91 hf101 ac92 hf102 ac93 hf103 ac94 hf104 ac95 hf105 ac96 wd12 hf106 hI14 hR13 ac97 hf107 ac98 hf108 ac99 hf109
  refine then_normal ?_
  refine wp_ret ?_
  refine post1 rfl hf110 rfl ⟨?_, hI15.done (fk_app (fresh_keys (ks := [b1, b2, b3, b4, b12]) rfl (fk_cons hb1 (fk_cons hb2 (fk_cons hb3 (fk_cons hb4 (fk_cons hb12 fk_nil)))))) hyq8)⟩
  exact congrArg (fun b => Ending.returned (Value.bool b)) (by decide +kernel)
set_option maxHeartbeats 8000000 in
theorem played_walk {p : Option Addr} {L cap : Nat} {rows : List (List Value)} (hl : rows.length = L) (hc : L ≤ cap) (ho : ∀ row ∈ rows, Oks opKinds row) {w : World} (hr : Rows_ w p 3 rows) : Calls Try.prog 27 [.slice p L cap].toArray w fun e w' => ∃ lb ob mb cb, w.heap.size ≤ lb ∧ w.heap.size ≤ ob ∧ w.heap.size ≤ mb ∧ w.heap.size ≤ cb ∧ ∃ c : Ch 20 4, e = .returned (.pointer (some ⟨cb, 0, none⟩)) ∧ Inv w [(lb, arr .i64 c.lk, 103), (ob, arr .i64 c.of, 3), (mb, arr .i64 c.mn, 3), (cb, #[.slice (some ⟨lb, 0, none⟩) (20 + 4) (20 + 4), .slice (some ⟨ob, 0, none⟩) 20 20, .slice (some ⟨mb, 0, none⟩) 4 4], 79)] w' := by
  have hI1 := Inv.start w
  refine enter (n := 45) Try.func27 rfl rfl rfl ?_
  intro ac1 hf1
  refine code_seq ?_
  refine seq_start (l := [0]) rfl ?_
  refine seq_one (op_val (v := .pointer none) hf1 rfl rfl rfl rfl rfl rfl (r_assign rfl) fun ac2 hf2 => ?_)
  refine seq_end ?_
  clear ac1 hf1
  refine then_normal ?_
  refine code_seq ?_
  refine seq_start (l := [0, 1, 2, 3, 4, 5]) rfl ?_
  refine seq_one (op_call (R := fun v w' => ∃ lb ob mb cb, Array.size (World.heap w) ≤ lb ∧ Array.size (World.heap w) ≤ ob ∧ Array.size (World.heap w) ≤ mb ∧ Array.size (World.heap w) ≤ cb ∧ v = .tuple #[.pointer (some ⟨cb, 0, none⟩), .int .i64 0] ∧ Inv w [(lb, arr .i64 c20_4.lk, 103), (ob, arr .i64 c20_4.of, 3), (mb, arr .i64 c20_4.mn, 3), (cb, #[.slice (some ⟨lb, 0, none⟩) (20 + 4) (20 + 4), .slice (some ⟨ob, 0, none⟩) 20 20, .slice (some ⟨mb, 0, none⟩) 4 4], 79)] w') hf2 rfl rfl rfl rfl ca_34 ((new_walk (N := 20) (K := 4) (by decide) (by decide) _).mono fun e w' ⟨lb, ob, mb, cb, h1, h2, h3, h4, h5, h6⟩ => ⟨_, h5, lb, ob, mb, cb, h1, h2, h3, h4, rfl, h6⟩) fun ac3 v wd1 hR hf3 => ?_)
  obtain ⟨b1, b2, b3, b4, hqb1, hqb2, hqb3, hqb4, rfl, hw4⟩ := hR
  have hb1 := Nat.le_trans hI1.size hqb1
  have hb2 := Nat.le_trans hI1.size hqb2
  have hb3 := Nat.le_trans hI1.size hqb3
  have hb4 := Nat.le_trans hI1.size hqb4
  have hI2 : Inv w [(b1, arr .i64 c20_4.lk, 103), (b2, arr .i64 c20_4.of, 3), (b3, arr .i64 c20_4.mn, 3), (b4, #[.slice (some ⟨b1, 0, none⟩) (20 + 4) (20 + 4), .slice (some ⟨b2, 0, none⟩) 20 20, .slice (some ⟨b3, 0, none⟩) 4 4], 79)] _ := hI1.callN hw4 (fk4 hqb1 hqb2 hqb3 hqb4)
  refine seq_one (op_val (v := .tuple #[.pointer (some ⟨b4, 0, none⟩), .int .i64 0]) hf3 rfl rfl rfl rfl rfl rfl (r_move rfl) fun ac4 hf4 => ?_)
  refine seq_one (op_val (v := .pointer (some ⟨b4, 0, none⟩)) hf4 rfl rfl rfl rfl rfl rfl (r_extract rfl rfl) fun ac5 hf5 => ?_)
  refine seq_one (op_val (v := .int .i64 0) hf5 rfl rfl rfl rfl rfl rfl (r_extract rfl rfl) fun ac6 hf6 => ?_)
  refine seq_one (op_val (v := .pointer (some ⟨b4, 0, none⟩)) hf6 rfl rfl rfl rfl rfl rfl (r_assign rfl) fun ac7 hf7 => ?_)
  refine seq_one (op_val (v := .int .i64 0) hf7 rfl rfl rfl rfl rfl rfl (r_assign rfl) fun ac8 hf8 => ?_)
  refine seq_end ?_
  clear ac2 hf2 hI1 hw4 hqb1 hqb2 hqb3 hqb4 ac3 hf3 ac4 hf4 ac5 hf5 ac6 hf6 ac7 hf7
  refine then_normal ?_
  refine code_seq ?_
  refine code_seq ?_
  refine seq_start (l := [0, 1, 2, 3, 4, 5, 6]) rfl ?_
  refine seq_one (op_val (v := .slice p L cap) hf8 rfl rfl rfl rfl rfl rfl (r_move rfl) fun ac9 hf9 => ?_)
  refine seq_one (op_val (v := .slice p L cap) hf9 rfl rfl rfl rfl rfl rfl (r_move rfl) fun ac10 hf10 => ?_)
  refine seq_one (op_val (v := .int .i64 (L : Int)) hf10 rfl rfl rfl rfl rfl rfl (r_len sl_51 rfl) fun ac11 hf11 => ?_)
  refine seq_one (op_val (v := .int .i64 ((min L 60 : Nat) : Int)) hf11 rfl rfl rfl rfl rfl rfl (r_minC (c := ((min L 60 : Nat) : Int)) rfl rfl (by split <;> omega)) fun ac12 hf12 => ?_)
  refine seq_one (op_val (v := .slice p (min L 60) cap) hf12 rfl rfl rfl rfl rfl rfl (r_sliceH (h := (min L 60)) sl_51 rfl rfl (by omega)) fun ac13 hf13 => ?_)
  refine seq_one (op_val (v := .int .i64 (((min L 60) : Nat) : Int)) hf13 rfl rfl rfl rfl rfl rfl (r_len sl_51 rfl) fun ac14 hf14 => ?_)
  refine seq_one (op_val (v := .int .i64 0) hf14 rfl rfl rfl rfl rfl rfl (r_move rfl) fun ac15 hf15 => ?_)
  refine seq_end ?_
  clear ac8 hf8 ac9 hf9 ac10 hf10 ac11 hf11 ac12 hf12 ac13 hf13 ac14 hf14
  refine then_normal ?_
  refine wp_block ?_
  refine code_loop (α := Nat × (Ch 20 4)) (fun (x : Nat × (Ch 20 4)) => match x with | (i, c) => [(0, .slice p L cap), (2, .pointer none), (3, .pointer (some ⟨b4, 0, none⟩)), (4, .int .i64 0), (7, .tuple #[.pointer (some ⟨b4, 0, none⟩), .int .i64 0]), (8, .tuple #[.pointer (some ⟨b4, 0, none⟩), .int .i64 0]), (9, .pointer (some ⟨b4, 0, none⟩)), (10, .int .i64 0), (11, .slice p L cap), (12, .slice p L cap), (13, .int .i64 (L : Int)), (14, .int .i64 ((min L 60 : Nat) : Int)), (15, .slice p (min L 60) cap), (16, .int .i64 (((min L 60) : Nat) : Int)), (17, .int .i64 (i : Int))]) (fun (x : Nat × (Ch 20 4)) => match x with | (i, c) => fun wL => Inv w [(b1, arr .i64 c.lk, 103), (b2, arr .i64 c.of, 3), (b3, arr .i64 c.mn, 3), (b4, #[.slice (some ⟨b1, 0, none⟩) (20 + 4) (20 + 4), .slice (some ⟨b2, 0, none⟩) 20 20, .slice (some ⟨b3, 0, none⟩) 4 4], 79)] wL ∧ (i ≤ min L 60)) (fun (x : Nat × (Ch 20 4)) => match x with | (i, c) => min L 60 - i) (0, c20_4) (hf15.cons 0 rfl (hf15.cons 2 rfl (hf15.cons 3 rfl (hf15.cons 4 rfl (hf15.cons 7 rfl (hf15.cons 8 rfl (hf15.cons 9 rfl (hf15.cons 10 rfl (hf15.cons 11 rfl (hf15.cons 12 rfl (hf15.cons 13 rfl (hf15.cons 14 rfl (hf15.cons 15 rfl (hf15.cons 16 rfl (hf15.cons 17 rfl hf15.nil))))))))))))))) ⟨hI2, Nat.zero_le _⟩ ?_
  intro ⟨i, c⟩ ac16 wd2 hf16 hL1
  obtain ⟨hI3, hx1⟩ := hL1
  dsimp only at hf16 hI3 hx1
  clear ac15 wd1 hf15 hI2
  refine code_seq ?_
  refine seq_start (l := [0]) rfl ?_
  refine seq_one (op_val (v := .bool (decide ((i : Int) < (((min L 60) : Nat) : Int)))) hf16 rfl rfl rfl rfl rfl rfl (r_lss rfl rfl) fun ac17 hf17 => ?_)
  refine seq_end ?_
  clear ac16 hf16
  refine then_normal ?_
  refine code_seq ?_
  refine code_if hf17 rfl (fun c18_1 => ?_) (fun c18_1 => ?_)
  · have hf18 := hf17.know 18 (u := .bool true) rfl (congrArg Value.bool c18_1)
    refine wp_skip ?_
    refine then_normal ?_
    refine code_seq ?_
    refine wp_block ?_
    refine code_seq ?_
    refine seq_start (l := [0, 1, 2, 3]) rfl ?_
    obtain ⟨kd5, ii5, nn5, hri5, hii5, hnn5⟩ := op_row (i := i) ho (by have := of_decide_eq_true c18_1; omega)
    refine seq_one (op_val (v := .pointer (slAt p (i * 3))) hf18 rfl rfl rfl rfl rfl rfl (r_indexAddrR (i := i) (sz := 3) sl_51 rfl rfl rfl (by have := of_decide_eq_true c18_1; omega) rfl ⟨_, ((hr.old hI3 (fresh_keys (ks := [b1, b2, b3, b4]) rfl (fk_cons hb1 (fk_cons hb2 (fk_cons hb3 (fk_cons hb4 fk_nil)))))) _ _ hri5).choose_spec.1⟩) fun ac18 hf19 => ?_)
    refine seq_one (op_val (v := .agg #[.int .u8 kd5, .int .i64 ii5, .int .i64 nn5]) hf19 rfl rfl rfl rfl rfl rfl (r_loadRow ag_56 sz_56 rfl (hr.old hI3 (fresh_keys (ks := [b1, b2, b3, b4]) rfl (fk_cons hb1 (fk_cons hb2 (fk_cons hb3 (fk_cons hb4 fk_nil)))))) hri5 rfl) fun ac19 hf20 => ?_)
    refine seq_one (op_alloc hf20 rfl rfl rfl ze_56 hI3 fun ac20 b6 wd3 hb6 hI4 hf21 => ?_)
    have hI5 : Inv w [(b1, arr .i64 c.lk, 103), (b2, arr .i64 c.of, 3), (b3, arr .i64 c.mn, 3), (b4, #[.slice (some ⟨b1, 0, none⟩) (20 + 4) (20 + 4), .slice (some ⟨b2, 0, none⟩) 20 20, .slice (some ⟨b3, 0, none⟩) 4 4], 79), (b6, #[.int .u8 0, .int .i64 0, .int .i64 0], 56)] wd3 := hI4
    refine seq_one (op_storeW (cells := #[.int .u8 kd5, .int .i64 ii5, .int .i64 nn5]) 4 hf21 rfl rfl rfl rfl rfl sz_56 rfl rfl hI5 rfl rfl fun wd4 hI6 => ?_)
    have hI7 : Inv w [(b1, arr .i64 c.lk, 103), (b2, arr .i64 c.of, 3), (b3, arr .i64 c.mn, 3), (b4, #[.slice (some ⟨b1, 0, none⟩) (20 + 4) (20 + 4), .slice (some ⟨b2, 0, none⟩) 20 20, .slice (some ⟨b3, 0, none⟩) 4 4], 79), (b6, #[.int .u8 kd5, .int .i64 ii5, .int .i64 nn5], 56)] wd4 := hI6
    refine seq_end ?_
    clear hf17 ac17 hf18 ac18 hf19 ac19 wd2 hI3 hf20 hI4 wd3 hI5 hI6
    refine then_normal ?_
    refine code_seq ?_
    refine seq_start (l := [0, 1]) rfl ?_
    refine seq_one (op_val (v := .pointer (some ⟨b6, 0, none⟩)) hf21 rfl rfl rfl rfl rfl rfl (r_fieldAddr fi_56_0 rfl rfl) fun ac21 hf22 => ?_)
    refine seq_one (op_val (v := .int .u8 kd5) hf22 rfl rfl rfl rfl rfl rfl (r_load ag_5 rfl (hI7.at 4 rfl) rfl) fun ac22 hf23 => ?_)
    refine seq_end ?_
    clear ac20 hf21 ac21 hf22
    refine then_normal ?_
    refine code_joinG 45 ((Ch 20 4)) (fun (d : Ch 20 4) => [(0, .slice p L cap), (2, .pointer none), (3, .pointer (some ⟨b4, 0, none⟩)), (4, .int .i64 0), (6, .pointer (some ⟨b6, 0, none⟩)), (7, .tuple #[.pointer (some ⟨b4, 0, none⟩), .int .i64 0]), (8, .tuple #[.pointer (some ⟨b4, 0, none⟩), .int .i64 0]), (9, .pointer (some ⟨b4, 0, none⟩)), (10, .int .i64 0), (11, .slice p L cap), (12, .slice p L cap), (13, .int .i64 (L : Int)), (14, .int .i64 ((min L 60 : Nat) : Int)), (15, .slice p (min L 60) cap), (16, .int .i64 (((min L 60) : Nat) : Int)), (17, .int .i64 (i : Int)), (18, .bool true), (19, .pointer (slAt p (i * 3))), (20, .agg #[.int .u8 kd5, .int .i64 ii5, .int .i64 nn5]), (21, .pointer (some ⟨b6, 0, none⟩)), (22, .int .u8 kd5)]) (fun (d : Ch 20 4) => fun w' => Inv w [(b1, arr .i64 d.lk, 103), (b2, arr .i64 d.of, 3), (b3, arr .i64 d.mn, 3), (b4, #[.slice (some ⟨b1, 0, none⟩) (20 + 4) (20 + 4), .slice (some ⟨b2, 0, none⟩) 20 20, .slice (some ⟨b3, 0, none⟩) 4 4], 79), (b6, #[.int .u8 kd5, .int .i64 ii5, .int .i64 nn5], 56)] w') ?_ ?_
    ·
      refine wp_block ?_
      refine code_seq ?_
      refine seq_start (l := [0, 1]) rfl ?_
      refine seq_one (op_val (v := .bool (kd5 == 1)) hf23 rfl rfl rfl rfl rfl rfl (r_eql rfl rfl) fun ac23 hf24 => ?_)
      refine seq_one (op_val (v := .bool (kd5 == 1)) hf24 rfl rfl rfl rfl rfl rfl (r_assign rfl) fun ac24 hf25 => ?_)
      refine seq_end ?_
      clear ac22 hf23 ac23 hf24
      refine then_normal ?_
      refine code_if hf25 rfl (fun c23_2 => ?_) (fun c23_2 => ?_)
      · have hf26 := hf25.know 23 (u := .bool true) rfl (congrArg Value.bool c23_2)
        refine seq_start (l := [0, 1, 2, 3, 4, 5]) rfl ?_
        refine seq_one (op_val (v := .pointer (some ⟨b4, 0, none⟩)) hf26 rfl rfl rfl rfl rfl rfl (r_move rfl) fun ac25 hf27 => ?_)
        refine seq_one (op_val (v := .pointer (some ⟨b6, 1, none⟩)) hf27 rfl rfl rfl rfl rfl rfl (r_fieldAddr fi_56_1 rfl rfl) fun ac26 hf28 => ?_)
        refine seq_one (op_val (v := .int .i64 ii5) hf28 rfl rfl rfl rfl rfl rfl (r_load ag_3 rfl (hI7.at 4 rfl) rfl) fun ac27 hf29 => ?_)
        refine seq_one (op_val (v := .pointer (some ⟨b6, 2, none⟩)) hf29 rfl rfl rfl rfl rfl rfl (r_fieldAddr fi_56_2 rfl rfl) fun ac28 hf30 => ?_)
        refine seq_one (op_val (v := .int .i64 nn5) hf30 rfl rfl rfl rfl rfl rfl (r_load ag_3 rfl (hI7.at 4 rfl) rfl) fun ac29 hf31 => ?_)
        refine seq_one (op_call (R := fun v w' => v = .int .i64 (c.pushE ii5 nn5) ∧ Inv _ [(b1, arr .i64 (c.push ii5 nn5).lk, 103), (b2, arr .i64 (c.push ii5 nn5).of, 3), (b3, arr .i64 (c.push ii5 nn5).mn, 3), (b4, #[.slice (some ⟨b1, 0, none⟩) (20 + 4) (20 + 4), .slice (some ⟨b2, 0, none⟩) 20 20, .slice (some ⟨b3, 0, none⟩) 4 4], 79)] w') hf31 rfl rfl rfl rfl ca_30 ((push_any (hI7.nd 0 rfl rfl rfl rfl) c (Has.cons (hI7.at 0 rfl) (Has.cons (hI7.at 1 rfl) (Has.cons (hI7.at 2 rfl) (Has.cons (hI7.at 3 rfl) Has.nil)))) ii5 nn5).mono fun _ _ h => ⟨_, h.1, rfl, h.2⟩) fun ac30 v wd5 hR7 hf32 => ?_)
        obtain ⟨rfl, hR7⟩ := hR7
        have hI8 : Inv w [(b1, arr .i64 (c.push ii5 nn5).lk, 103), (b2, arr .i64 (c.push ii5 nn5).of, 3), (b3, arr .i64 (c.push ii5 nn5).mn, 3), (b4, #[.slice (some ⟨b1, 0, none⟩) (20 + 4) (20 + 4), .slice (some ⟨b2, 0, none⟩) 20 20, .slice (some ⟨b3, 0, none⟩) 4 4], 79), (b6, #[.int .u8 kd5, .int .i64 ii5, .int .i64 nn5], 56)] _ := Inv.callS (A := []) (S := [(b1, arr .i64 c.lk, 103), (b2, arr .i64 c.of, 3), (b3, arr .i64 c.mn, 3), (b4, #[.slice (some ⟨b1, 0, none⟩) (20 + 4) (20 + 4), .slice (some ⟨b2, 0, none⟩) 20 20, .slice (some ⟨b3, 0, none⟩) 4 4], 79)]) (S' := [(b1, arr .i64 (c.push ii5 nn5).lk, 103), (b2, arr .i64 (c.push ii5 nn5).of, 3), (b3, arr .i64 (c.push ii5 nn5).mn, 3), (b4, #[.slice (some ⟨b1, 0, none⟩) (20 + 4) (20 + 4), .slice (some ⟨b2, 0, none⟩) 20 20, .slice (some ⟨b3, 0, none⟩) 4 4], 79)]) (L := [(b6, #[.int .u8 kd5, .int .i64 ii5, .int .i64 nn5], 56)]) (N := []) hI7 hR7 rfl (fun _ h => by cases h)
        refine seq_end ?_
        clear hf25 ac24 hf26 ac25 hf27 ac26 hf28 ac27 hf29 ac28 hf30 ac29 wd4 hf31 hI7 hR7
        refine block_normal ?_
        refine then_normal ?_
        exact ⟨((c.push ii5 nn5)), (hf32.cons 0 rfl (hf32.cons 2 rfl (hf32.cons 3 rfl (hf32.cons 4 rfl (hf32.cons 6 rfl (hf32.cons 7 rfl (hf32.cons 8 rfl (hf32.cons 9 rfl (hf32.cons 10 rfl (hf32.cons 11 rfl (hf32.cons 12 rfl (hf32.cons 13 rfl (hf32.cons 14 rfl (hf32.cons 15 rfl (hf32.cons 16 rfl (hf32.cons 17 rfl (hf32.cons 18 rfl (hf32.cons 19 rfl (hf32.cons 20 rfl (hf32.cons 21 rfl (hf32.cons 22 rfl hf32.nil))))))))))))))))))))), hI8⟩
      · have hf33 := hf25.know 23 (u := .bool false) rfl (congrArg Value.bool c23_2)
        refine code_seq ?_
        refine seq_start (l := [0, 1]) rfl ?_
        refine seq_one (op_val (v := .bool (kd5 == 2)) hf33 rfl rfl rfl rfl rfl rfl (r_eql rfl rfl) fun ac31 hf34 => ?_)
        refine seq_one (op_val (v := .bool (kd5 == 2)) hf34 rfl rfl rfl rfl rfl rfl (r_assign rfl) fun ac32 hf35 => ?_)
        refine seq_end ?_
        clear hf25 ac24 hf33 ac31 hf34
        refine then_normal ?_
        refine code_if hf35 rfl (fun c31_3 => ?_) (fun c31_3 => ?_)
        · have hf36 := hf35.know 31 (u := .bool true) rfl (congrArg Value.bool c31_3)
          refine seq_start (l := [0, 1, 2, 3]) rfl ?_
          refine seq_one (op_val (v := .pointer (some ⟨b4, 0, none⟩)) hf36 rfl rfl rfl rfl rfl rfl (r_move rfl) fun ac33 hf37 => ?_)
          refine seq_one (op_val (v := .pointer (some ⟨b6, 1, none⟩)) hf37 rfl rfl rfl rfl rfl rfl (r_fieldAddr fi_56_1 rfl rfl) fun ac34 hf38 => ?_)
          refine seq_one (op_val (v := .int .i64 ii5) hf38 rfl rfl rfl rfl rfl rfl (r_load ag_3 rfl (hI7.at 4 rfl) rfl) fun ac35 hf39 => ?_)
          refine seq_one (op_call (R := fun v w' => v = .tuple #[.int .i64 (c.fst ii5), .bool (c.some_ ii5)] ∧ Inv _ [(b1, arr .i64 (c.pop ii5).lk, 103), (b2, arr .i64 (c.pop ii5).of, 3), (b3, arr .i64 (c.pop ii5).mn, 3), (b4, #[.slice (some ⟨b1, 0, none⟩) (20 + 4) (20 + 4), .slice (some ⟨b2, 0, none⟩) 20 20, .slice (some ⟨b3, 0, none⟩) 4 4], 79)] w') hf39 rfl rfl rfl rfl ca_31 ((pop_any (hI7.nd 0 rfl rfl rfl rfl) c (Has.cons (hI7.at 0 rfl) (Has.cons (hI7.at 1 rfl) (Has.cons (hI7.at 2 rfl) (Has.cons (hI7.at 3 rfl) Has.nil)))) ii5).mono fun _ _ h => ⟨_, h.1, rfl, h.2⟩) fun ac36 v wd6 hR7 hf40 => ?_)
          obtain ⟨rfl, hR7⟩ := hR7
          have hI9 : Inv w [(b1, arr .i64 (c.pop ii5).lk, 103), (b2, arr .i64 (c.pop ii5).of, 3), (b3, arr .i64 (c.pop ii5).mn, 3), (b4, #[.slice (some ⟨b1, 0, none⟩) (20 + 4) (20 + 4), .slice (some ⟨b2, 0, none⟩) 20 20, .slice (some ⟨b3, 0, none⟩) 4 4], 79), (b6, #[.int .u8 kd5, .int .i64 ii5, .int .i64 nn5], 56)] _ := Inv.callS (A := []) (S := [(b1, arr .i64 c.lk, 103), (b2, arr .i64 c.of, 3), (b3, arr .i64 c.mn, 3), (b4, #[.slice (some ⟨b1, 0, none⟩) (20 + 4) (20 + 4), .slice (some ⟨b2, 0, none⟩) 20 20, .slice (some ⟨b3, 0, none⟩) 4 4], 79)]) (S' := [(b1, arr .i64 (c.pop ii5).lk, 103), (b2, arr .i64 (c.pop ii5).of, 3), (b3, arr .i64 (c.pop ii5).mn, 3), (b4, #[.slice (some ⟨b1, 0, none⟩) (20 + 4) (20 + 4), .slice (some ⟨b2, 0, none⟩) 20 20, .slice (some ⟨b3, 0, none⟩) 4 4], 79)]) (L := [(b6, #[.int .u8 kd5, .int .i64 ii5, .int .i64 nn5], 56)]) (N := []) hI7 hR7 rfl (fun _ h => by cases h)
          refine seq_end ?_
          clear hf35 ac32 hf36 ac33 hf37 ac34 hf38 ac35 wd4 hf39 hI7 hR7
          refine block_normal ?_
          refine then_normal ?_
          exact ⟨((c.pop ii5)), (hf40.cons 0 rfl (hf40.cons 2 rfl (hf40.cons 3 rfl (hf40.cons 4 rfl (hf40.cons 6 rfl (hf40.cons 7 rfl (hf40.cons 8 rfl (hf40.cons 9 rfl (hf40.cons 10 rfl (hf40.cons 11 rfl (hf40.cons 12 rfl (hf40.cons 13 rfl (hf40.cons 14 rfl (hf40.cons 15 rfl (hf40.cons 16 rfl (hf40.cons 17 rfl (hf40.cons 18 rfl (hf40.cons 19 rfl (hf40.cons 20 rfl (hf40.cons 21 rfl (hf40.cons 22 rfl hf40.nil))))))))))))))))))))), hI9⟩
        · have hf41 := hf35.know 31 (u := .bool false) rfl (congrArg Value.bool c31_3)
          refine code_seq ?_
          refine seq_start (l := [0, 1]) rfl ?_
          refine seq_one (op_val (v := .bool (kd5 == 3)) hf41 rfl rfl rfl rfl rfl rfl (r_eql rfl rfl) fun ac37 hf42 => ?_)
          refine seq_one (op_val (v := .bool (kd5 == 3)) hf42 rfl rfl rfl rfl rfl rfl (r_assign rfl) fun ac38 hf43 => ?_)
          refine seq_end ?_
          clear hf35 ac32 hf41 ac37 hf42
          refine then_normal ?_
          refine code_if hf43 rfl (fun c37_4 => ?_) (fun c37_4 => ?_)
          · have hf44 := hf43.know 37 (u := .bool true) rfl (congrArg Value.bool c37_4)
            refine seq_start (l := [0, 1, 2, 3]) rfl ?_
            refine seq_one (op_val (v := .pointer (some ⟨b4, 0, none⟩)) hf44 rfl rfl rfl rfl rfl rfl (r_move rfl) fun ac39 hf45 => ?_)
            refine seq_one (op_val (v := .pointer (some ⟨b6, 2, none⟩)) hf45 rfl rfl rfl rfl rfl rfl (r_fieldAddr fi_56_2 rfl rfl) fun ac40 hf46 => ?_)
            refine seq_one (op_val (v := .int .i64 nn5) hf46 rfl rfl rfl rfl rfl rfl (r_load ag_3 rfl (hI7.at 4 rfl) rfl) fun ac41 hf47 => ?_)
            refine seq_one (op_call (R := fun v w' => v = .bool (c.inn nn5) ∧ Inv _ [(b1, arr .i64 (c.drop nn5).lk, 103), (b2, arr .i64 (c.drop nn5).of, 3), (b3, arr .i64 (c.drop nn5).mn, 3), (b4, #[.slice (some ⟨b1, 0, none⟩) (20 + 4) (20 + 4), .slice (some ⟨b2, 0, none⟩) 20 20, .slice (some ⟨b3, 0, none⟩) 4 4], 79)] w') hf47 rfl rfl rfl rfl ca_32 ((drop_any (hI7.nd 0 rfl rfl rfl rfl) c (Has.cons (hI7.at 0 rfl) (Has.cons (hI7.at 1 rfl) (Has.cons (hI7.at 2 rfl) (Has.cons (hI7.at 3 rfl) Has.nil)))) nn5).mono fun _ _ h => ⟨_, h.1, rfl, h.2⟩) fun ac42 v wd7 hR7 hf48 => ?_)
            obtain ⟨rfl, hR7⟩ := hR7
            have hI10 : Inv w [(b1, arr .i64 (c.drop nn5).lk, 103), (b2, arr .i64 (c.drop nn5).of, 3), (b3, arr .i64 (c.drop nn5).mn, 3), (b4, #[.slice (some ⟨b1, 0, none⟩) (20 + 4) (20 + 4), .slice (some ⟨b2, 0, none⟩) 20 20, .slice (some ⟨b3, 0, none⟩) 4 4], 79), (b6, #[.int .u8 kd5, .int .i64 ii5, .int .i64 nn5], 56)] _ := Inv.callS (A := []) (S := [(b1, arr .i64 c.lk, 103), (b2, arr .i64 c.of, 3), (b3, arr .i64 c.mn, 3), (b4, #[.slice (some ⟨b1, 0, none⟩) (20 + 4) (20 + 4), .slice (some ⟨b2, 0, none⟩) 20 20, .slice (some ⟨b3, 0, none⟩) 4 4], 79)]) (S' := [(b1, arr .i64 (c.drop nn5).lk, 103), (b2, arr .i64 (c.drop nn5).of, 3), (b3, arr .i64 (c.drop nn5).mn, 3), (b4, #[.slice (some ⟨b1, 0, none⟩) (20 + 4) (20 + 4), .slice (some ⟨b2, 0, none⟩) 20 20, .slice (some ⟨b3, 0, none⟩) 4 4], 79)]) (L := [(b6, #[.int .u8 kd5, .int .i64 ii5, .int .i64 nn5], 56)]) (N := []) hI7 hR7 rfl (fun _ h => by cases h)
            refine seq_end ?_
            clear hf43 ac38 hf44 ac39 hf45 ac40 hf46 ac41 wd4 hf47 hI7 hR7
            refine block_normal ?_
            refine then_normal ?_
            exact ⟨((c.drop nn5)), (hf48.cons 0 rfl (hf48.cons 2 rfl (hf48.cons 3 rfl (hf48.cons 4 rfl (hf48.cons 6 rfl (hf48.cons 7 rfl (hf48.cons 8 rfl (hf48.cons 9 rfl (hf48.cons 10 rfl (hf48.cons 11 rfl (hf48.cons 12 rfl (hf48.cons 13 rfl (hf48.cons 14 rfl (hf48.cons 15 rfl (hf48.cons 16 rfl (hf48.cons 17 rfl (hf48.cons 18 rfl (hf48.cons 19 rfl (hf48.cons 20 rfl (hf48.cons 21 rfl (hf48.cons 22 rfl hf48.nil))))))))))))))))))))), hI10⟩
          · have hf49 := hf43.know 37 (u := .bool false) rfl (congrArg Value.bool c37_4)
            refine wp_skip ?_
            refine block_normal ?_
            refine then_normal ?_
            clear hf43
            exact ⟨(c), (hf49.cons 0 rfl (hf49.cons 2 rfl (hf49.cons 3 rfl (hf49.cons 4 rfl (hf49.cons 6 rfl (hf49.cons 7 rfl (hf49.cons 8 rfl (hf49.cons 9 rfl (hf49.cons 10 rfl (hf49.cons 11 rfl (hf49.cons 12 rfl (hf49.cons 13 rfl (hf49.cons 14 rfl (hf49.cons 15 rfl (hf49.cons 16 rfl (hf49.cons 17 rfl (hf49.cons 18 rfl (hf49.cons 19 rfl (hf49.cons 20 rfl (hf49.cons 21 rfl (hf49.cons 22 rfl hf49.nil))))))))))))))))))))), hI7⟩
    ·
      intro d ac43 wd8 hf50 hI11
      clear ac22 wd4 hf23 hI7
      refine block_normal ?_
      refine then_normal ?_
      refine seq_start (l := [0, 1]) rfl ?_
      refine seq_one (op_val (v := .int .i64 ((i + 1 : Nat) : Int)) hf50 rfl rfl rfl rfl rfl rfl (r_add (c := ((i + 1 : Nat) : Int)) rfl rfl (wrap_i64 (by omega) (by omega))) fun ac44 hf51 => ?_)
      refine seq_one (op_val (v := .int .i64 ((i + 1 : Nat) : Int)) hf51 rfl rfl rfl rfl rfl rfl (r_move rfl) fun ac45 hf52 => ?_)
      refine seq_end ?_
      clear ac43 hf50 ac44 hf51
      refine then_normal ?_
      exact ⟨(i + 1, d), (hf52.cons 0 rfl (hf52.cons 2 rfl (hf52.cons 3 rfl (hf52.cons 4 rfl (hf52.cons 7 rfl (hf52.cons 8 rfl (hf52.cons 9 rfl (hf52.cons 10 rfl (hf52.cons 11 rfl (hf52.cons 12 rfl (hf52.cons 13 rfl (hf52.cons 14 rfl (hf52.cons 15 rfl (hf52.cons 16 rfl (hf52.cons 17 rfl hf52.nil))))))))))))))), ⟨(Inv.drop (A := [(b1, arr .i64 d.lk, 103), (b2, arr .i64 d.of, 3), (b3, arr .i64 d.mn, 3), (b4, #[.slice (some ⟨b1, 0, none⟩) (20 + 4) (20 + 4), .slice (some ⟨b2, 0, none⟩) 20 20, .slice (some ⟨b3, 0, none⟩) 4 4], 79)]) (B := [(b6, #[.int .u8 kd5, .int .i64 ii5, .int .i64 nn5], 56)]) hI11 (fresh_keys (ks := [b6]) rfl (fk_cons hb6 fk_nil))), (by have := of_decide_eq_true c18_1; omega)⟩, (by have := of_decide_eq_true c18_1; show min L 60 - (i + 1) < min L 60 - i; omega)⟩
  · have hf53 := hf17.know 18 (u := .bool false) rfl (congrArg Value.bool c18_1)
    refine wp_exit ?_
    refine then_exit ?_
    refine then_exit ?_
    refine block_here ?_
    refine then_normal ?_
    refine code_seq ?_
    refine seq_start (l := [0, 1]) rfl ?_
    refine seq_one (op_val (v := .pointer (some ⟨b4, 0, none⟩)) hf53 rfl rfl rfl rfl rfl rfl (r_move rfl) fun ac46 hf54 => ?_)
    refine seq_one (op_val (v := .pointer (some ⟨b4, 0, none⟩)) hf54 rfl rfl rfl rfl rfl rfl (r_assign rfl) fun ac47 hf55 => ?_)
    refine seq_end ?_
    clear hf17 ac17 hf53 ac46 hf54
    refine then_normal ?_
    refine wp_ret ?_
    exact post1 rfl hf55 rfl ⟨b1, b2, b3, b4, hb1, hb2, hb3, hb4, c, rfl, hI3⟩
end Go.Proofs.Ytjelaoblpchmmaa
