/-
  Lists and New of a round, and rounds that are none: what each call comes to.
-/
import Derived.Test.YtjelaoblpchmmaaRns3
namespace Go.Proofs.Ytjelaoblpchmmaa
set_option linter.unusedVariables false
set_option linter.unusedSimpArgs false
set_option maxRecDepth 100000
open Go.RowKit
set_option maxHeartbeats 8000000 in
theorem lists_any {N : Nat} {lb ob mb cb rc rb : Nat} (hd : [lb, ob, mb, cb, rc, rb].Nodup) (r : Ro N) {w : World} (h0_ : Has [(lb, arr .i64 r.c.lk, 103), (ob, arr .i64 r.c.of, 3), (mb, arr .i64 r.c.mn, 3), (cb, #[.slice (some ⟨lb, 0, none⟩) (N + 2) (N + 2), .slice (some ⟨ob, 0, none⟩) N N, .slice (some ⟨mb, 0, none⟩) 2 2], 79), (rc, arr .i64 r.cr, 3), (rb, #[.pointer (some ⟨cb, 0, none⟩), .slice (some ⟨rc, 0, none⟩) N N, .int .i64 r.q], 45)] w) : Calls Try.prog 16 [.pointer (some ⟨rb, 0, none⟩)].toArray w fun e w' => ∃ S p cap T q caq, e = .returned (.tuple #[.slice p (r.c.lst 0).length cap, .slice q (r.c.lst 1).length caq]) ∧ Sl 3 .i64 S p cap (r.c.lst 0) ∧ Sl 3 .i64 T q caq (r.c.lst 1) ∧ Inv w (S ++ T) w' ∧ (∀ x ∈ S, w.heap.size ≤ x.1) ∧ ∀ x ∈ T, w.heap.size ≤ x.1 := by
  have hI1 := Inv.startS h0_ (pw_keys hd)
  have hN := r.hN
  have hq := r.hq
  refine enter (n := 18) Try.func16 rfl rfl rfl ?_
  intro ac1 hf1
  refine code_seq ?_
  refine seq_start (l := [0, 1]) rfl ?_
  refine seq_one (op_val (v := .slice none 0 0) hf1 rfl rfl rfl rfl rfl rfl (r_assign rfl) fun ac2 hf2 => ?_)
  refine seq_one (op_val (v := .slice none 0 0) hf2 rfl rfl rfl rfl rfl rfl (r_assign rfl) fun ac3 hf3 => ?_)
  refine seq_end ?_
  clear ac1 hf1 ac2 hf2
  refine then_normal ?_
  refine code_seq ?_
  refine code_seq ?_
  refine seq_start (l := [0, 1]) rfl ?_
  refine seq_one (op_val (v := .pointer (some ⟨rb, 0, none⟩)) hf3 rfl rfl rfl rfl rfl rfl (r_move rfl) fun ac4 hf4 => ?_)
  refine seq_one (op_pureW hf4 rfl rfl rfl rfl ca_51 (none_walk (hI1.nd6 0 rfl rfl rfl rfl rfl rfl) r (Has.cons (hI1.at 0 rfl) (Has.cons (hI1.at 1 rfl) (Has.cons (hI1.at 2 rfl) (Has.cons (hI1.at 3 rfl) (Has.cons (hI1.at 4 rfl) (Has.cons (hI1.at 5 rfl) Has.nil))))))) hI1 fun ac5 wd1 hI2 hf5 => ?_)
  refine seq_end ?_
  clear ac3 hf3 ac4 hI1 hf4
  refine then_normal ?_
  refine code_if_false hf5 rfl ?_
  refine wp_skip ?_
  refine then_normal ?_
  refine code_seq ?_
  refine any_start (fun w => Has [(rb, #[.pointer (some ⟨cb, 0, none⟩), .slice (some ⟨rc, 0, none⟩) N N, .int .i64 r.q], 45)] w) follows (Has.drew (Has.cons (hI2.at 5 rfl) Has.nil)) ?_
  have hS1 : Has [(rb, #[.pointer (some ⟨cb, 0, none⟩), .slice (some ⟨rc, 0, none⟩) N N, .int .i64 r.q], 45)] _ := Has.drew (Has.cons (hI2.at 5 rfl) Has.nil)
  have hI3 := hI2.drew
  refine any_val (i := 0) (v := .pointer (some ⟨rb, 0, none⟩)) hf5 rfl rfl rfl rfl rfl rfl (fun _ _ _ h => h) (by kernel_rfl) (by kernel_rfl) (by kernel_rfl) (fun wd1 hS1 => (r_move rfl)) hS1 fun ac6 hf6 => ?_
  refine any_val (i := 1) (v := .pointer (some ⟨rb, 0, none⟩)) hf6 rfl rfl rfl rfl rfl rfl (fun _ _ _ h => h) (by kernel_rfl) (by kernel_rfl) (by kernel_rfl) (fun wd1 hS1 => (r_nilCheck rfl)) hS1 fun ac7 hf7 => ?_
  refine any_val (i := 2) (v := .pointer (some ⟨rb, 0, none⟩)) hf7 rfl rfl rfl rfl rfl rfl (fun _ _ _ h => h) (by kernel_rfl) (by kernel_rfl) (by kernel_rfl) (fun wd1 hS1 => (r_fieldAddr fi_45_0 rfl rfl)) hS1 fun ac8 hf8 => ?_
  refine any_val (i := 3) (v := .pointer (some ⟨rb, 0, none⟩)) hf8 rfl rfl rfl rfl rfl rfl (fun _ _ _ h => h) (by kernel_rfl) (by kernel_rfl) (by kernel_rfl) (fun wd1 hS1 => (r_fieldAddr fi_43_0 rfl rfl)) hS1 fun ac9 hf9 => ?_
  refine any_val (i := 4) (v := .pointer (some ⟨cb, 0, none⟩)) hf9 rfl rfl rfl rfl rfl rfl (fun _ _ _ h => h) (by kernel_rfl) (by kernel_rfl) (by kernel_rfl) (fun wd1 hS1 => (r_load ag_41 rfl (hS1.at 0 rfl) rfl)) hS1 fun ac10 hf10 => ?_
  refine any_val (i := 6) (v := .pointer (some ⟨rb, 0, none⟩)) hf10 rfl rfl rfl rfl rfl rfl (fun _ _ _ h => h) (by kernel_rfl) (by kernel_rfl) (by kernel_rfl) (fun wd1 hS1 => (r_move rfl)) hS1 fun ac11 hf11 => ?_
  refine any_val (i := 7) (v := .pointer (some ⟨rb, 0, none⟩)) hf11 rfl rfl rfl rfl rfl rfl (fun _ _ _ h => h) (by kernel_rfl) (by kernel_rfl) (by kernel_rfl) (fun wd1 hS1 => (r_nilCheck rfl)) hS1 fun ac12 hf12 => ?_
  refine any_val (i := 8) (v := .pointer (some ⟨rb, 0, none⟩)) hf12 rfl rfl rfl rfl rfl rfl (fun _ _ _ h => h) (by kernel_rfl) (by kernel_rfl) (by kernel_rfl) (fun wd1 hS1 => (r_fieldAddr fi_45_0 rfl rfl)) hS1 fun ac13 hf13 => ?_
  refine any_val (i := 9) (v := .pointer (some ⟨rb, 0, none⟩)) hf13 rfl rfl rfl rfl rfl rfl (fun _ _ _ h => h) (by kernel_rfl) (by kernel_rfl) (by kernel_rfl) (fun wd1 hS1 => (r_fieldAddr fi_43_0 rfl rfl)) hS1 fun ac14 hf14 => ?_
  refine any_val (i := 10) (v := .pointer (some ⟨cb, 0, none⟩)) hf14 rfl rfl rfl rfl rfl rfl (fun _ _ _ h => h) (by kernel_rfl) (by kernel_rfl) (by kernel_rfl) (fun wd1 hS1 => (r_load ag_41 rfl (hS1.at 0 rfl) rfl)) hS1 fun ac15 hf15 => ?_
  refine any_one (i := 5) (by kernel_rfl) ?_
  refine (op_call (R := fun v w' => ∃ S p cap, v = .slice p (r.c.lst 0).length cap ∧ Sl 3 .i64 S p cap (r.c.lst 0) ∧ Inv _ S w' ∧ ∀ x ∈ S, Array.size (World.heap _) ≤ x.1) hf15 rfl rfl rfl rfl ca_28 ((list_any (hI3.nd 0 rfl rfl rfl rfl) r.c (Has.cons (hI3.at 0 rfl) (Has.cons (hI3.at 1 rfl) (Has.cons (hI3.at 2 rfl) (Has.cons (hI3.at 3 rfl) Has.nil)))) 0).mono fun _ _ ⟨S, p, cap, he, h1, h3, h4⟩ => ⟨_, he, S, p, cap, rfl, h1, h3, h4⟩) fun ac16 v wd2 hR hf16 => ?_)
  obtain ⟨Sq1, q1, capq1, rfl, hsq1, hwq1, hzq1⟩ := hR
  have hyq1 := fk_le hI3.size hzq1
  have hI4 : Inv w ([(lb, arr .i64 r.c.lk, 103), (ob, arr .i64 r.c.of, 3), (mb, arr .i64 r.c.mn, 3), (cb, #[.slice (some ⟨lb, 0, none⟩) (N + 2) (N + 2), .slice (some ⟨ob, 0, none⟩) N N, .slice (some ⟨mb, 0, none⟩) 2 2], 79), (rc, arr .i64 r.cr, 3), (rb, #[.pointer (some ⟨cb, 0, none⟩), .slice (some ⟨rc, 0, none⟩) N N, .int .i64 r.q], 45)] ++ Sq1) _ := hI3.callN hwq1 hzq1
  refine ⟨?_, ?_⟩
  · exact (Has.cons (hI4.at 5 rfl) Has.nil)
  have hS2 : Has [(rb, #[.pointer (some ⟨cb, 0, none⟩), .slice (some ⟨rc, 0, none⟩) N N, .int .i64 r.q], 45)] _ := (Has.cons (hI4.at 5 rfl) Has.nil)
  refine any_one (i := 11) (by kernel_rfl) ?_
  refine (op_call (R := fun v w' => ∃ S p cap, v = .slice p (r.c.lst 1).length cap ∧ Sl 3 .i64 S p cap (r.c.lst 1) ∧ Inv _ S w' ∧ ∀ x ∈ S, Array.size (World.heap _) ≤ x.1) hf16 rfl rfl rfl rfl ca_28 ((list_any (hI4.nd 0 rfl rfl rfl rfl) r.c (Has.cons (hI4.at 0 rfl) (Has.cons (hI4.at 1 rfl) (Has.cons (hI4.at 2 rfl) (Has.cons (hI4.at 3 rfl) Has.nil)))) 1).mono fun _ _ ⟨S, p, cap, he, h1, h3, h4⟩ => ⟨_, he, S, p, cap, rfl, h1, h3, h4⟩) fun ac17 v wd3 hR hf17 => ?_)
  obtain ⟨Sq2, q2, capq2, rfl, hsq2, hwq2, hzq2⟩ := hR
  have hyq2 := fk_le hI4.size hzq2
  have hI5 : Inv w ([(lb, arr .i64 r.c.lk, 103), (ob, arr .i64 r.c.of, 3), (mb, arr .i64 r.c.mn, 3), (cb, #[.slice (some ⟨lb, 0, none⟩) (N + 2) (N + 2), .slice (some ⟨ob, 0, none⟩) N N, .slice (some ⟨mb, 0, none⟩) 2 2], 79), (rc, arr .i64 r.cr, 3), (rb, #[.pointer (some ⟨cb, 0, none⟩), .slice (some ⟨rc, 0, none⟩) N N, .int .i64 r.q], 45)] ++ (Sq1 ++ Sq2)) _ := hI4.callN hwq2 hzq2
  refine ⟨?_, ?_⟩
  · exact (Has.cons (hI5.at 5 rfl) Has.nil)
  have hS3 : Has [(rb, #[.pointer (some ⟨cb, 0, none⟩), .slice (some ⟨rc, 0, none⟩) N N, .int .i64 r.q], 45)] _ := (Has.cons (hI5.at 5 rfl) Has.nil)
  refine any_val (i := 12) (v := .slice q1 ((r.c.lst 0).length) capq1) hf17 rfl rfl rfl rfl rfl rfl (fun _ _ _ h => h) (by kernel_rfl) (by kernel_rfl) (by kernel_rfl) (fun wd3 hS3 => (r_assign rfl)) hS3 fun ac18 hf18 => ?_
  refine any_val (i := 13) (v := .slice q2 ((r.c.lst 1).length) capq2) hf18 rfl rfl rfl rfl rfl rfl (fun _ _ _ h => h) (by kernel_rfl) (by kernel_rfl) (by kernel_rfl) (fun wd3 hS3 => (r_assign rfl)) hS3 fun ac19 hf19 => ?_
  refine any_end (by kernel_rfl) ?_
  clear hI2 ac5 hf5 ac6 hf6 ac7 hf7 ac8 hf8 ac9 hf9 ac10 hf10 ac11 hf11 ac12 hf12 ac13 hf13 ac14 hf14 ac15 wd1 hf15 hI3 hwq1 hzq1 hS1 ac16 wd2 hf16 hI4 hwq2 hzq2 hS2 ac17 hf17 ac18 hf18 hS3
  refine then_normal ?_
  refine wp_ret ?_
  exact post2 rfl hf19 rfl rfl ⟨Sq1, q1, capq1, Sq2, q2, capq2, rfl, hsq1, hsq2, Inv.unreadA2 (A := [(lb, arr .i64 r.c.lk, 103), (ob, arr .i64 r.c.of, 3), (mb, arr .i64 r.c.mn, 3), (cb, #[.slice (some ⟨lb, 0, none⟩) (N + 2) (N + 2), .slice (some ⟨ob, 0, none⟩) N N, .slice (some ⟨mb, 0, none⟩) 2 2], 79), (rc, arr .i64 r.cr, 3), (rb, #[.pointer (some ⟨cb, 0, none⟩), .slice (some ⟨rc, 0, none⟩) N N, .int .i64 r.q], 45)]) (S := Sq1) (T := Sq2) hI5 h0_, hyq1, hyq2⟩
set_option maxHeartbeats 8000000 in
theorem newr_walk {N : Nat} {q : Int} (h1 : 1 ≤ N) (hN : N ≤ 4096) (hq : 64 ≤ q ∧ q ≤ 1048576) (w : World) : Calls Try.prog 26 [.int .i64 (N : Int), .int .i64 q].toArray w fun e w' => ∃ lb ob mb cb rc rb, w.heap.size ≤ lb ∧ w.heap.size ≤ ob ∧ w.heap.size ≤ mb ∧ w.heap.size ≤ cb ∧ w.heap.size ≤ rc ∧ w.heap.size ≤ rb ∧ e = .returned (.tuple #[.pointer (some ⟨rb, 0, none⟩), .int .i64 0]) ∧ Inv w [(lb, arr .i64 ((Ro.new N q h1 hN hq).c).lk, 103), (ob, arr .i64 ((Ro.new N q h1 hN hq).c).of, 3), (mb, arr .i64 ((Ro.new N q h1 hN hq).c).mn, 3), (cb, #[.slice (some ⟨lb, 0, none⟩) (N + 2) (N + 2), .slice (some ⟨ob, 0, none⟩) N N, .slice (some ⟨mb, 0, none⟩) 2 2], 79), (rc, arr .i64 (Ro.new N q h1 hN hq).cr, 3), (rb, #[.pointer (some ⟨cb, 0, none⟩), .slice (some ⟨rc, 0, none⟩) N N, .int .i64 ((Ro.new N q h1 hN hq).q)], 45)] w' := by
  have hI1 := Inv.start w
  refine enter (n := 35) Try.func26 rfl rfl rfl ?_
  intro ac1 hf1
  refine code_seq ?_
  refine seq_start (l := [0, 1]) rfl ?_
  refine seq_one (op_val (v := .pointer none) hf1 rfl rfl rfl rfl rfl rfl (r_assign rfl) fun ac2 hf2 => ?_)
  refine seq_one (op_val (v := .int .i64 0) hf2 rfl rfl rfl rfl rfl rfl (r_assign rfl) fun ac3 hf3 => ?_)
  refine seq_end ?_
  clear ac1 hf1 ac2 hf2
  refine then_normal ?_
  refine code_seq ?_
  refine code_seq ?_
  refine seq_start (l := [0, 1, 2, 3, 4, 5, 6, 7, 8, 9, 10, 11, 12, 13]) rfl ?_
  refine seq_one (op_val (v := .int .i64 (N : Int)) hf3 rfl rfl rfl rfl rfl rfl (r_move rfl) fun ac4 hf4 => ?_)
  refine seq_one (op_val (v := .bool (decide ((N : Int) < 1))) hf4 rfl rfl rfl rfl rfl rfl (r_lss rfl rfl) fun ac5 hf5 => ?_)
  refine seq_one (op_val (v := .bool (decide ((N : Int) < 1))) hf5 rfl rfl rfl rfl rfl rfl (r_move rfl) fun ac6 hf6 => ?_)
  have hf7 := hf6.know 10 (u := .bool false) rfl (congrArg Value.bool (decide_eq_false (by omega)))
  refine seq_one (op_val (v := .int .i64 (N : Int)) hf7 rfl rfl rfl rfl rfl rfl (r_move rfl) fun ac7 hf8 => ?_)
  refine seq_one (op_val (v := .bool (decide ((N : Int) > 4096))) hf8 rfl rfl rfl rfl rfl rfl (r_gtr rfl rfl) fun ac8 hf9 => ?_)
  refine seq_one (op_val (v := .bool (decide ((N : Int) > 4096))) hf9 rfl rfl rfl rfl rfl rfl (r_pickF rfl rfl) fun ac9 hf10 => ?_)
  refine seq_one (op_val (v := .bool (decide ((N : Int) > 4096))) hf10 rfl rfl rfl rfl rfl rfl (r_move rfl) fun ac10 hf11 => ?_)
  have hf12 := hf11.know 14 (u := .bool false) rfl (congrArg Value.bool (decide_eq_false (by omega)))
  refine seq_one (op_val (v := .int .i64 q) hf12 rfl rfl rfl rfl rfl rfl (r_move rfl) fun ac11 hf13 => ?_)
  refine seq_one (op_val (v := .bool (decide (q < 64))) hf13 rfl rfl rfl rfl rfl rfl (r_lss rfl rfl) fun ac12 hf14 => ?_)
  refine seq_one (op_val (v := .bool (decide (q < 64))) hf14 rfl rfl rfl rfl rfl rfl (r_pickF rfl rfl) fun ac13 hf15 => ?_)
  refine seq_one (op_val (v := .bool (decide (q < 64))) hf15 rfl rfl rfl rfl rfl rfl (r_move rfl) fun ac14 hf16 => ?_)
  have hf17 := hf16.know 18 (u := .bool false) rfl (congrArg Value.bool (decide_eq_false (by omega)))
  refine seq_one (op_val (v := .int .i64 q) hf17 rfl rfl rfl rfl rfl rfl (r_move rfl) fun ac15 hf18 => ?_)
  refine seq_one (op_val (v := .bool (decide (q > 1048576))) hf18 rfl rfl rfl rfl rfl rfl (r_gtr rfl rfl) fun ac16 hf19 => ?_)
  refine seq_one (op_val (v := .bool (decide (q > 1048576))) hf19 rfl rfl rfl rfl rfl rfl (r_pickF rfl rfl) fun ac17 hf20 => ?_)
  refine seq_end ?_
  clear ac3 hf3 ac4 hf4 ac5 hf5 hf6 ac6 hf7 ac7 hf8 ac8 hf9 ac9 hf10 hf11 ac10 hf12 ac11 hf13 ac12 hf14 ac13 hf15 hf16 ac14 hf17 ac15 hf18 ac16 hf19
  refine then_normal ?_
  have hf21 := hf20.know 21 (u := .bool false) rfl (congrArg Value.bool (decide_eq_false (by omega)))
  refine code_if_false hf21 rfl ?_
  refine wp_skip ?_
  refine then_normal ?_
  refine code_seq ?_
  refine seq_start (l := [0, 1, 2, 3, 4, 5, 6]) rfl ?_
  refine seq_one (op_val (v := .int .i64 (N : Int)) hf21 rfl rfl rfl rfl rfl rfl (r_move rfl) fun ac18 hf22 => ?_)
  refine seq_one (op_call (R := fun v w' => ∃ lb ob mb cb, Array.size (World.heap w) ≤ lb ∧ Array.size (World.heap w) ≤ ob ∧ Array.size (World.heap w) ≤ mb ∧ Array.size (World.heap w) ≤ cb ∧ v = .tuple #[.pointer (some ⟨cb, 0, none⟩), .int .i64 0] ∧ Inv w [(lb, arr .i64 (Ch.new N 2 ⟨h1, by omega⟩ (by decide)).lk, 103), (ob, arr .i64 (Ch.new N 2 ⟨h1, by omega⟩ (by decide)).of, 3), (mb, arr .i64 (Ch.new N 2 ⟨h1, by omega⟩ (by decide)).mn, 3), (cb, #[.slice (some ⟨lb, 0, none⟩) (N + 2) (N + 2), .slice (some ⟨ob, 0, none⟩) N N, .slice (some ⟨mb, 0, none⟩) 2 2], 79)] w') hf22 rfl rfl rfl rfl ca_34 ((new_walk (N := N) (K := 2) ⟨h1, by omega⟩ (by decide) _).mono fun e w' ⟨lb, ob, mb, cb, h1, h2, h3, h4, h5, h6⟩ => ⟨_, h5, lb, ob, mb, cb, h1, h2, h3, h4, rfl, h6⟩) fun ac19 v wd1 hR hf23 => ?_)
  obtain ⟨b1, b2, b3, b4, hqb1, hqb2, hqb3, hqb4, rfl, hw4⟩ := hR
  have hb1 := Nat.le_trans hI1.size hqb1
  have hb2 := Nat.le_trans hI1.size hqb2
  have hb3 := Nat.le_trans hI1.size hqb3
  have hb4 := Nat.le_trans hI1.size hqb4
  have hI2 : Inv w [(b1, arr .i64 (Ch.new N 2 ⟨h1, by omega⟩ (by decide)).lk, 103), (b2, arr .i64 (Ch.new N 2 ⟨h1, by omega⟩ (by decide)).of, 3), (b3, arr .i64 (Ch.new N 2 ⟨h1, by omega⟩ (by decide)).mn, 3), (b4, #[.slice (some ⟨b1, 0, none⟩) (N + 2) (N + 2), .slice (some ⟨b2, 0, none⟩) N N, .slice (some ⟨b3, 0, none⟩) 2 2], 79)] _ := hI1.callN hw4 (fk4 hqb1 hqb2 hqb3 hqb4)
  refine seq_one (op_val (v := .tuple #[.pointer (some ⟨b4, 0, none⟩), .int .i64 0]) hf23 rfl rfl rfl rfl rfl rfl (r_move rfl) fun ac20 hf24 => ?_)
  refine seq_one (op_val (v := .pointer (some ⟨b4, 0, none⟩)) hf24 rfl rfl rfl rfl rfl rfl (r_extract rfl rfl) fun ac21 hf25 => ?_)
  refine seq_one (op_val (v := .int .i64 0) hf25 rfl rfl rfl rfl rfl rfl (r_extract rfl rfl) fun ac22 hf26 => ?_)
  refine seq_one (op_val (v := .pointer (some ⟨b4, 0, none⟩)) hf26 rfl rfl rfl rfl rfl rfl (r_assign rfl) fun ac23 hf27 => ?_)
  refine seq_one (op_val (v := .int .i64 0) hf27 rfl rfl rfl rfl rfl rfl (r_assign rfl) fun ac24 hf28 => ?_)
  refine seq_end ?_
  clear hf20 ac17 hf21 ac18 hf22 hI1 hw4 hqb1 hqb2 hqb3 hqb4 ac19 hf23 ac20 hf24 ac21 hf25 ac22 hf26 ac23 hf27
  refine then_normal ?_
  refine code_seq ?_
  refine seq_start (l := [0, 1, 2, 3, 4, 5, 6, 7, 8, 9]) rfl ?_
  refine seq_one (op_val (v := .pointer (some ⟨b4, 0, none⟩)) hf28 rfl rfl rfl rfl rfl rfl (r_move rfl) fun ac25 hf29 => ?_)
  refine seq_one (op_val (v := .agg #[.pointer (some ⟨b4, 0, none⟩)]) hf29 rfl rfl rfl rfl rfl rfl (r_build (v := .agg #[.pointer (some ⟨b4, 0, none⟩)]) rfl (fun _ => by kernel_rfl)) fun ac26 hf30 => ?_)
  refine seq_one (op_val (v := .int .i64 (N : Int)) hf30 rfl rfl rfl rfl rfl rfl (r_move rfl) fun ac27 hf31 => ?_)
  refine seq_one (op_make (m := N) hf31 rfl rfl rfl us_27 if_3 rfl rfl rfl (by omega) (by omega) hI2 fun ac28 b5 wd2 hb5 hI3 hf32 => ?_)
  rw [arr_rep] at hI3
  have hI4 : Inv w [(b1, arr .i64 (Ch.new N 2 ⟨h1, by omega⟩ (by decide)).lk, 103), (b2, arr .i64 (Ch.new N 2 ⟨h1, by omega⟩ (by decide)).of, 3), (b3, arr .i64 (Ch.new N 2 ⟨h1, by omega⟩ (by decide)).mn, 3), (b4, #[.slice (some ⟨b1, 0, none⟩) (N + 2) (N + 2), .slice (some ⟨b2, 0, none⟩) N N, .slice (some ⟨b3, 0, none⟩) 2 2], 79), (b5, arr .i64 (List.replicate N 0), 3)] wd2 := hI3
  refine seq_one (op_val (v := .int .i64 q) hf32 rfl rfl rfl rfl rfl rfl (r_move rfl) fun ac29 hf33 => ?_)
  refine seq_one (op_val (v := .agg #[.pointer (some ⟨b4, 0, none⟩), .slice (some ⟨b5, 0, none⟩) N N, .int .i64 q]) hf33 rfl rfl rfl rfl rfl rfl (r_build (v := .agg #[.pointer (some ⟨b4, 0, none⟩), .slice (some ⟨b5, 0, none⟩) N N, .int .i64 q]) rfl (fun _ => by kernel_rfl)) fun ac30 hf34 => ?_)
  refine seq_one (op_box hf34 rfl rfl rfl rfl hI4 fun ac31 b6 wd3 hb6 hI5 hf35 => ?_)
  have hI6 : Inv w [(b1, arr .i64 (Ch.new N 2 ⟨h1, by omega⟩ (by decide)).lk, 103), (b2, arr .i64 (Ch.new N 2 ⟨h1, by omega⟩ (by decide)).of, 3), (b3, arr .i64 (Ch.new N 2 ⟨h1, by omega⟩ (by decide)).mn, 3), (b4, #[.slice (some ⟨b1, 0, none⟩) (N + 2) (N + 2), .slice (some ⟨b2, 0, none⟩) N N, .slice (some ⟨b3, 0, none⟩) 2 2], 79), (b5, arr .i64 (List.replicate N 0), 3), (b6, #[.pointer (some ⟨b4, 0, none⟩), .slice (some ⟨b5, 0, none⟩) N N, .int .i64 q], 45)] wd3 := hI5
  refine seq_one (op_val (v := .int .i64 0) hf35 rfl rfl rfl rfl rfl rfl (r_move rfl) fun ac32 hf36 => ?_)
  refine seq_one (op_val (v := .pointer (some ⟨b6, 0, none⟩)) hf36 rfl rfl rfl rfl rfl rfl (r_assign rfl) fun ac33 hf37 => ?_)
  refine seq_one (op_val (v := .int .i64 0) hf37 rfl rfl rfl rfl rfl rfl (r_assign rfl) fun ac34 hf38 => ?_)
  refine seq_end ?_
  clear ac24 hf28 ac25 hf29 ac26 hf30 ac27 wd1 hI2 hf31 hI3 ac28 hf32 ac29 hf33 ac30 wd2 hI4 hf34 hI5 ac31 hf35 ac32 hf36 ac33 hf37
  refine then_normal ?_
  refine wp_ret ?_
  exact post2 rfl hf38 rfl rfl ⟨b1, b2, b3, b4, b5, b6, hb1, hb2, hb3, hb4, hb5, hb6, rfl, hI6⟩
set_option maxHeartbeats 8000000 in
theorem newr_bad {n q : Int} (h : n < 1 ∨ n > 4096 ∨ q < 64 ∨ q > 1048576) : Pur Try.prog 26 [.int .i64 n, .int .i64 q] (.tuple #[.pointer none, .int .i64 2]) := by
  intro w
  have hI1 := Inv.start w
  refine enter (n := 35) Try.func26 rfl rfl rfl ?_
  intro ac1 hf1
  refine code_seq ?_
  refine seq_start (l := [0, 1]) rfl ?_
  refine seq_one (op_val (v := .pointer none) hf1 rfl rfl rfl rfl rfl rfl (r_assign rfl) fun ac2 hf2 => ?_)
  refine seq_one (op_val (v := .int .i64 0) hf2 rfl rfl rfl rfl rfl rfl (r_assign rfl) fun ac3 hf3 => ?_)
  refine seq_end ?_
  clear ac1 hf1 ac2 hf2
  refine then_normal ?_
  refine code_seq ?_
  refine code_seq ?_
  refine seq_start (l := [0, 1, 2, 3, 4, 5, 6, 7, 8, 9, 10, 11, 12, 13]) rfl ?_
  refine seq_one (op_val (v := .int .i64 n) hf3 rfl rfl rfl rfl rfl rfl (r_move rfl) fun ac4 hf4 => ?_)
  refine seq_one (op_val (v := .bool (decide (n < 1))) hf4 rfl rfl rfl rfl rfl rfl (r_lss rfl rfl) fun ac5 hf5 => ?_)
  refine seq_one (op_val (v := .bool (decide (n < 1))) hf5 rfl rfl rfl rfl rfl rfl (r_move rfl) fun ac6 hf6 => ?_)
  rcases Bool.eq_false_or_eq_true (decide (n < 1) : Bool) with g10_1 | g10_1
  · have hf7 := hf6.know 10 (u := .bool true) rfl (congrArg Value.bool g10_1)
    refine seq_one (op_skip hf7 rfl rfl rfl rfl fun ac7 hf8 => ?_)
    refine seq_one (op_skip hf8 rfl rfl rfl rfl fun ac8 hf9 => ?_)
    refine seq_one (op_val (v := .bool true) hf9 rfl rfl rfl rfl rfl rfl (r_pickT rfl rfl) fun ac9 hf10 => ?_)
    refine seq_one (op_val (v := .bool true) hf10 rfl rfl rfl rfl rfl rfl (r_move rfl) fun ac10 hf11 => ?_)
    refine seq_one (op_skip hf11 rfl rfl rfl rfl fun ac11 hf12 => ?_)
    refine seq_one (op_skip hf12 rfl rfl rfl rfl fun ac12 hf13 => ?_)
    refine seq_one (op_val (v := .bool true) hf13 rfl rfl rfl rfl rfl rfl (r_pickT rfl rfl) fun ac13 hf14 => ?_)
    refine seq_one (op_val (v := .bool true) hf14 rfl rfl rfl rfl rfl rfl (r_move rfl) fun ac14 hf15 => ?_)
    refine seq_one (op_skip hf15 rfl rfl rfl rfl fun ac15 hf16 => ?_)
    refine seq_one (op_skip hf16 rfl rfl rfl rfl fun ac16 hf17 => ?_)
    refine seq_one (op_val (v := .bool true) hf17 rfl rfl rfl rfl rfl rfl (r_pickT rfl rfl) fun ac17 hf18 => ?_)
    refine seq_end ?_
    clear ac3 hf3 ac4 hf4 ac5 hf5 hf6 ac6 hf7 ac7 hf8 ac8 hf9 ac9 hf10 ac10 hf11 ac11 hf12 ac12 hf13 ac13 hf14 ac14 hf15 ac15 hf16 ac16 hf17
    refine then_normal ?_
    refine code_if_true hf18 rfl ?_
    refine code_seq ?_
    refine seq_start (l := [0, 1]) rfl ?_
    refine seq_one (op_val (v := .pointer none) hf18 rfl rfl rfl rfl rfl rfl (r_assign rfl) fun ac18 hf19 => ?_)
    refine seq_one (op_val (v := .int .i64 2) hf19 rfl rfl rfl rfl rfl rfl (r_assign rfl) fun ac19 hf20 => ?_)
    refine seq_end ?_
    clear ac17 hf18 ac18 hf19
    refine then_normal ?_
    refine wp_ret ?_
    refine then_ret ?_
    refine post2 rfl hf20 rfl rfl ⟨?_, hI1.done (fresh_keys (ks := []) rfl fk_nil)⟩
    rfl
  · have hf21 := hf6.know 10 (u := .bool false) rfl (congrArg Value.bool g10_1)
    refine seq_one (op_val (v := .int .i64 n) hf21 rfl rfl rfl rfl rfl rfl (r_move rfl) fun ac20 hf22 => ?_)
    refine seq_one (op_val (v := .bool (decide (n > 4096))) hf22 rfl rfl rfl rfl rfl rfl (r_gtr rfl rfl) fun ac21 hf23 => ?_)
    refine seq_one (op_val (v := .bool (decide (n > 4096))) hf23 rfl rfl rfl rfl rfl rfl (r_pickF rfl rfl) fun ac22 hf24 => ?_)
    refine seq_one (op_val (v := .bool (decide (n > 4096))) hf24 rfl rfl rfl rfl rfl rfl (r_move rfl) fun ac23 hf25 => ?_)
    rcases Bool.eq_false_or_eq_true (decide (n > 4096) : Bool) with g14_2 | g14_2
    · have hf26 := hf25.know 14 (u := .bool true) rfl (congrArg Value.bool g14_2)
      refine seq_one (op_skip hf26 rfl rfl rfl rfl fun ac24 hf27 => ?_)
      refine seq_one (op_skip hf27 rfl rfl rfl rfl fun ac25 hf28 => ?_)
      refine seq_one (op_val (v := .bool true) hf28 rfl rfl rfl rfl rfl rfl (r_pickT rfl rfl) fun ac26 hf29 => ?_)
      refine seq_one (op_val (v := .bool true) hf29 rfl rfl rfl rfl rfl rfl (r_move rfl) fun ac27 hf30 => ?_)
      refine seq_one (op_skip hf30 rfl rfl rfl rfl fun ac28 hf31 => ?_)
      refine seq_one (op_skip hf31 rfl rfl rfl rfl fun ac29 hf32 => ?_)
      refine seq_one (op_val (v := .bool true) hf32 rfl rfl rfl rfl rfl rfl (r_pickT rfl rfl) fun ac30 hf33 => ?_)
      refine seq_end ?_
      clear ac3 hf3 ac4 hf4 ac5 hf5 hf6 ac6 hf21 ac20 hf22 ac21 hf23 ac22 hf24 hf25 ac23 hf26 ac24 hf27 ac25 hf28 ac26 hf29 ac27 hf30 ac28 hf31 ac29 hf32
      refine then_normal ?_
      refine code_if_true hf33 rfl ?_
      refine code_seq ?_
      refine seq_start (l := [0, 1]) rfl ?_
      refine seq_one (op_val (v := .pointer none) hf33 rfl rfl rfl rfl rfl rfl (r_assign rfl) fun ac31 hf34 => ?_)
      refine seq_one (op_val (v := .int .i64 2) hf34 rfl rfl rfl rfl rfl rfl (r_assign rfl) fun ac32 hf35 => ?_)
      refine seq_end ?_
      clear ac30 hf33 ac31 hf34
      refine then_normal ?_
      refine wp_ret ?_
      refine then_ret ?_
      refine post2 rfl hf35 rfl rfl ⟨?_, hI1.done (fresh_keys (ks := []) rfl fk_nil)⟩
      rfl
    · have hf36 := hf25.know 14 (u := .bool false) rfl (congrArg Value.bool g14_2)
      refine seq_one (op_val (v := .int .i64 q) hf36 rfl rfl rfl rfl rfl rfl (r_move rfl) fun ac33 hf37 => ?_)
      refine seq_one (op_val (v := .bool (decide (q < 64))) hf37 rfl rfl rfl rfl rfl rfl (r_lss rfl rfl) fun ac34 hf38 => ?_)
      refine seq_one (op_val (v := .bool (decide (q < 64))) hf38 rfl rfl rfl rfl rfl rfl (r_pickF rfl rfl) fun ac35 hf39 => ?_)
      refine seq_one (op_val (v := .bool (decide (q < 64))) hf39 rfl rfl rfl rfl rfl rfl (r_move rfl) fun ac36 hf40 => ?_)
      rcases Bool.eq_false_or_eq_true (decide (q < 64) : Bool) with g18_3 | g18_3
      · have hf41 := hf40.know 18 (u := .bool true) rfl (congrArg Value.bool g18_3)
        refine seq_one (op_skip hf41 rfl rfl rfl rfl fun ac37 hf42 => ?_)
        refine seq_one (op_skip hf42 rfl rfl rfl rfl fun ac38 hf43 => ?_)
        refine seq_one (op_val (v := .bool true) hf43 rfl rfl rfl rfl rfl rfl (r_pickT rfl rfl) fun ac39 hf44 => ?_)
        refine seq_end ?_
        clear ac3 hf3 ac4 hf4 ac5 hf5 hf6 ac6 hf21 ac20 hf22 ac21 hf23 ac22 hf24 hf25 ac23 hf36 ac33 hf37 ac34 hf38 ac35 hf39 hf40 ac36 hf41 ac37 hf42 ac38 hf43
        refine then_normal ?_
        refine code_if_true hf44 rfl ?_
        refine code_seq ?_
        refine seq_start (l := [0, 1]) rfl ?_
        refine seq_one (op_val (v := .pointer none) hf44 rfl rfl rfl rfl rfl rfl (r_assign rfl) fun ac40 hf45 => ?_)
        refine seq_one (op_val (v := .int .i64 2) hf45 rfl rfl rfl rfl rfl rfl (r_assign rfl) fun ac41 hf46 => ?_)
        refine seq_end ?_
        clear ac39 hf44 ac40 hf45
        refine then_normal ?_
        refine wp_ret ?_
        refine then_ret ?_
        refine post2 rfl hf46 rfl rfl ⟨?_, hI1.done (fresh_keys (ks := []) rfl fk_nil)⟩
        rfl
      · have hf47 := hf40.know 18 (u := .bool false) rfl (congrArg Value.bool g18_3)
        refine seq_one (op_val (v := .int .i64 q) hf47 rfl rfl rfl rfl rfl rfl (r_move rfl) fun ac42 hf48 => ?_)
        refine seq_one (op_val (v := .bool (decide (q > 1048576))) hf48 rfl rfl rfl rfl rfl rfl (r_gtr rfl rfl) fun ac43 hf49 => ?_)
        refine seq_one (op_val (v := .bool (decide (q > 1048576))) hf49 rfl rfl rfl rfl rfl rfl (r_pickF rfl rfl) fun ac44 hf50 => ?_)
        refine seq_end ?_
        clear ac3 hf3 ac4 hf4 ac5 hf5 hf6 ac6 hf21 ac20 hf22 ac21 hf23 ac22 hf24 hf25 ac23 hf36 ac33 hf37 ac34 hf38 ac35 hf39 hf40 ac36 hf47 ac42 hf48 ac43 hf49
        refine then_normal ?_
        have hf51 := hf50.know 21 (u := .bool true) rfl (congrArg Value.bool (decide_eq_true (by simp only [decide_eq_true_eq, decide_eq_false_iff_not] at g10_1 g14_2 g18_3; omega)))
        refine code_if_true hf51 rfl ?_
        refine code_seq ?_
        refine seq_start (l := [0, 1]) rfl ?_
        refine seq_one (op_val (v := .pointer none) hf51 rfl rfl rfl rfl rfl rfl (r_assign rfl) fun ac45 hf52 => ?_)
        refine seq_one (op_val (v := .int .i64 2) hf52 rfl rfl rfl rfl rfl rfl (r_assign rfl) fun ac46 hf53 => ?_)
        refine seq_end ?_
        clear hf50 ac44 hf51 ac45 hf52
        refine then_normal ?_
        refine wp_ret ?_
        refine then_ret ?_
        refine post2 rfl hf53 rfl rfl ⟨?_, hI1.done (fresh_keys (ks := []) rfl fk_nil)⟩
        rfl
set_option maxHeartbeats 8000000 in
theorem rnone_nil  : Pur Try.prog 51 [.pointer none] (.bool true) := by
  intro w
  have hI1 := Inv.start w
  refine enter (n := 12) Try.func51 rfl rfl rfl ?_
  intro ac1 hf1
  refine code_seq ?_
  refine seq_start (l := [0]) rfl ?_
  refine seq_one (op_val (v := .bool false) hf1 rfl rfl rfl rfl rfl rfl (r_assign rfl) fun ac2 hf2 => ?_)
  refine seq_end ?_
  clear ac1 hf1
  refine then_normal ?_
  refine code_seq ?_
  refine seq_start (l := [0, 1, 2, 3, 4, 5, 6, 7, 8, 9]) rfl ?_
  refine seq_one (op_val (v := .pointer none) hf2 rfl rfl rfl rfl rfl rfl (r_move rfl) fun ac3 hf3 => ?_)
  refine seq_one (op_val (v := .bool true) hf3 rfl rfl rfl rfl rfl rfl (r_eqNil up_24 rfl rfl rfl) fun ac4 hf4 => ?_)
  refine seq_one (op_val (v := .bool true) hf4 rfl rfl rfl rfl rfl rfl (r_move rfl) fun ac5 hf5 => ?_)
  refine seq_one (op_skip hf5 rfl rfl rfl rfl fun ac6 hf6 => ?_)
  refine seq_one (op_skip hf6 rfl rfl rfl rfl fun ac7 hf7 => ?_)
  refine seq_one (op_skip hf7 rfl rfl rfl rfl fun ac8 hf8 => ?_)
  refine seq_one (op_skip hf8 rfl rfl rfl rfl fun ac9 hf9 => ?_)
  refine seq_one (op_skip hf9 rfl rfl rfl rfl fun ac10 hf10 => ?_)
  refine seq_one (op_val (v := .bool true) hf10 rfl rfl rfl rfl rfl rfl (r_pickT rfl rfl) fun ac11 hf11 => ?_)
  refine seq_one (op_val (v := .bool true) hf11 rfl rfl rfl rfl rfl rfl (r_assign rfl) fun ac12 hf12 => ?_)
  refine seq_end ?_
  clear ac2 hf2 ac3 hf3 ac4 hf4 ac5 hf5 ac6 hf6 ac7 hf7 ac8 hf8 ac9 hf9 ac10 hf10 ac11 hf11
  refine then_normal ?_
  refine wp_ret ?_
  refine post1 rfl hf12 rfl ⟨?_, hI1.done (fresh_keys (ks := []) rfl fk_nil)⟩
  rfl
set_option maxHeartbeats 8000000 in
theorem rnone_zero  (zb : Nat) (w : World) (h0_ : Has [(zb, #[.pointer none, .slice none 0 0, .int .i64 0], 45)] w) : Calls Try.prog 51 [.pointer (some ⟨zb, 0, none⟩)].toArray w fun e w' => e = .returned (.bool true) ∧ Inv w [] w' := by
  have hI1 := Inv.startS h0_ (List.pairwise_singleton _ _)
  refine enter (n := 12) Try.func51 rfl rfl rfl ?_
  intro ac1 hf1
  refine code_seq ?_
  refine seq_start (l := [0]) rfl ?_
  refine seq_one (op_val (v := .bool false) hf1 rfl rfl rfl rfl rfl rfl (r_assign rfl) fun ac2 hf2 => ?_)
  refine seq_end ?_
  clear ac1 hf1
  refine then_normal ?_
  refine code_seq ?_
  refine seq_start (l := [0, 1, 2, 3, 4, 5, 6, 7, 8, 9]) rfl ?_
  refine seq_one (op_val (v := .pointer (some ⟨zb, 0, none⟩)) hf2 rfl rfl rfl rfl rfl rfl (r_move rfl) fun ac3 hf3 => ?_)
  refine seq_one (op_val (v := .bool false) hf3 rfl rfl rfl rfl rfl rfl (r_eqNil up_24 rfl rfl rfl) fun ac4 hf4 => ?_)
  refine seq_one (op_val (v := .bool false) hf4 rfl rfl rfl rfl rfl rfl (r_move rfl) fun ac5 hf5 => ?_)
  refine seq_one (op_val (v := .pointer (some ⟨zb, 0, none⟩)) hf5 rfl rfl rfl rfl rfl rfl (r_move rfl) fun ac6 hf6 => ?_)
  refine seq_one (op_val (v := .pointer (some ⟨zb, 0, none⟩)) hf6 rfl rfl rfl rfl rfl rfl (r_nilCheck rfl) fun ac7 hf7 => ?_)
  refine seq_one (op_val (v := .pointer (some ⟨zb, 1, none⟩)) hf7 rfl rfl rfl rfl rfl rfl (r_fieldAddr fi_45_1 rfl rfl) fun ac8 hf8 => ?_)
  refine seq_one (op_val (v := .slice none 0 0) hf8 rfl rfl rfl rfl rfl rfl (r_load ag_27 rfl (hI1.at 0 rfl) rfl) fun ac9 hf9 => ?_)
  refine seq_one (op_val (v := .bool true) hf9 rfl rfl rfl rfl rfl rfl (r_eqSl us_27 rfl rfl rfl) fun ac10 hf10 => ?_)
  refine seq_one (op_val (v := .bool true) hf10 rfl rfl rfl rfl rfl rfl (r_pickF rfl rfl) fun ac11 hf11 => ?_)
  refine seq_one (op_val (v := .bool true) hf11 rfl rfl rfl rfl rfl rfl (r_assign rfl) fun ac12 hf12 => ?_)
  refine seq_end ?_
  clear ac2 hf2 ac3 hf3 ac4 hf4 ac5 hf5 ac6 hf6 ac7 hf7 ac8 hf8 ac9 hf9 ac10 hf10 ac11 hf11
  refine then_normal ?_
  refine wp_ret ?_
  exact post1 rfl hf12 rfl ⟨rfl, (hI1).unread h0_⟩
set_option maxHeartbeats 8000000 in
theorem renter_nil (l f x : Int) : Pur Try.prog 55 [.pointer none, .int .i64 l, .int .i64 f, .int .i64 x] (.int .i64 1) := by
  intro w
  have hI1 := Inv.start w
  refine enter (n := 35) Try.func55 rfl rfl rfl ?_
  intro ac1 hf1
  refine code_seq ?_
  refine seq_start (l := [0]) rfl ?_
  refine seq_one (op_val (v := .int .i64 0) hf1 rfl rfl rfl rfl rfl rfl (r_assign rfl) fun ac2 hf2 => ?_)
  refine seq_end ?_
  clear ac1 hf1
  refine then_normal ?_
  refine code_seq ?_
  refine wp_block ?_
  refine code_seq ?_
  refine seq_start (l := [0, 1, 2]) rfl ?_
  refine seq_one (op_val (v := .pointer none) hf2 rfl rfl rfl rfl rfl rfl (r_move rfl) fun ac3 hf3 => ?_)
  refine seq_one (op_pure hf3 rfl rfl rfl rfl ca_51 (rnone_nil) hI1 fun ac4 wd1 hI2 hf4 => ?_)
  refine seq_one (op_val (v := .bool true) hf4 rfl rfl rfl rfl rfl rfl (r_assign rfl) fun ac5 hf5 => ?_)
  refine seq_end ?_
  clear ac2 hf2 ac3 hI1 hf3 ac4 hf4
  refine then_normal ?_
  refine code_if_true hf5 rfl ?_
  refine code_seq ?_
  refine seq_start (l := [0]) rfl ?_
  refine seq_one (op_val (v := .int .i64 1) hf5 rfl rfl rfl rfl rfl rfl (r_assign rfl) fun ac6 hf6 => ?_)
  refine seq_end ?_
  clear ac5 hf5
  refine then_normal ?_
  refine wp_ret ?_
  refine block_ret ?_
  refine then_ret ?_
  refine post1 rfl hf6 rfl ⟨?_, hI2.done (fresh_keys (ks := []) rfl fk_nil)⟩
  rfl
set_option maxHeartbeats 8000000 in
theorem renter_zero (l f x : Int) (zb : Nat) (w : World) (h0_ : Has [(zb, #[.pointer none, .slice none 0 0, .int .i64 0], 45)] w) : Calls Try.prog 55 [.pointer (some ⟨zb, 0, none⟩), .int .i64 l, .int .i64 f, .int .i64 x].toArray w fun e w' => e = .returned (.int .i64 1) ∧ Inv w [] w' := by
  have hI1 := Inv.startS h0_ (List.pairwise_singleton _ _)
  refine enter (n := 35) Try.func55 rfl rfl rfl ?_
  intro ac1 hf1
  refine code_seq ?_
  refine seq_start (l := [0]) rfl ?_
  refine seq_one (op_val (v := .int .i64 0) hf1 rfl rfl rfl rfl rfl rfl (r_assign rfl) fun ac2 hf2 => ?_)
  refine seq_end ?_
  clear ac1 hf1
  refine then_normal ?_
  refine code_seq ?_
  refine wp_block ?_
  refine code_seq ?_
  refine seq_start (l := [0, 1, 2]) rfl ?_
  refine seq_one (op_val (v := .pointer (some ⟨zb, 0, none⟩)) hf2 rfl rfl rfl rfl rfl rfl (r_move rfl) fun ac3 hf3 => ?_)
  refine seq_one (op_pureW hf3 rfl rfl rfl rfl ca_51 (rnone_zero zb _ (Has.cons (hI1.at 0 rfl) Has.nil)) hI1 fun ac4 wd1 hI2 hf4 => ?_)
  refine seq_one (op_val (v := .bool true) hf4 rfl rfl rfl rfl rfl rfl (r_assign rfl) fun ac5 hf5 => ?_)
  refine seq_end ?_
  clear ac2 hf2 ac3 hI1 hf3 ac4 hf4
  refine then_normal ?_
  refine code_if_true hf5 rfl ?_
  refine code_seq ?_
  refine seq_start (l := [0]) rfl ?_
  refine seq_one (op_val (v := .int .i64 1) hf5 rfl rfl rfl rfl rfl rfl (r_assign rfl) fun ac6 hf6 => ?_)
  refine seq_end ?_
  clear ac5 hf5
  refine then_normal ?_
  refine wp_ret ?_
  refine block_ret ?_
  refine then_ret ?_
  exact post1 rfl hf6 rfl ⟨rfl, (hI2).unread h0_⟩
set_option maxHeartbeats 8000000 in
theorem rjoin_nil (f x : Int) : Pur Try.prog 24 [.pointer none, .int .i64 f, .int .i64 x] (.int .i64 1) := by
  intro w
  have hI1 := Inv.start w
  refine enter (n := 11) Try.func24 rfl rfl rfl ?_
  intro ac1 hf1
  refine code_seq ?_
  refine seq_start (l := [0]) rfl ?_
  refine seq_one (op_val (v := .int .i64 0) hf1 rfl rfl rfl rfl rfl rfl (r_assign rfl) fun ac2 hf2 => ?_)
  refine seq_end ?_
  clear ac1 hf1
  refine then_normal ?_
  refine code_seq ?_
  refine seq_start (l := [0, 1, 2, 3, 4]) rfl ?_
  refine seq_one (op_val (v := .pointer none) hf2 rfl rfl rfl rfl rfl rfl (r_move rfl) fun ac3 hf3 => ?_)
  refine seq_one (op_val (v := .int .i64 f) hf3 rfl rfl rfl rfl rfl rfl (r_move rfl) fun ac4 hf4 => ?_)
  refine seq_one (op_val (v := .int .i64 x) hf4 rfl rfl rfl rfl rfl rfl (r_move rfl) fun ac5 hf5 => ?_)
  refine seq_one (op_pure hf5 rfl rfl rfl rfl ca_55 (renter_nil 0 f x) hI1 fun ac6 wd1 hI2 hf6 => ?_)
  refine seq_one (op_val (v := .int .i64 1) hf6 rfl rfl rfl rfl rfl rfl (r_assign rfl) fun ac7 hf7 => ?_)
  refine seq_end ?_
  clear ac2 hf2 ac3 hf3 ac4 hf4 ac5 hI1 hf5 ac6 hf6
  refine then_normal ?_
  refine wp_ret ?_
  refine post1 rfl hf7 rfl ⟨?_, hI2.done (fresh_keys (ks := []) rfl fk_nil)⟩
  rfl
set_option maxHeartbeats 8000000 in
theorem rjoin_zero (f x : Int) (zb : Nat) (w : World) (h0_ : Has [(zb, #[.pointer none, .slice none 0 0, .int .i64 0], 45)] w) : Calls Try.prog 24 [.pointer (some ⟨zb, 0, none⟩), .int .i64 f, .int .i64 x].toArray w fun e w' => e = .returned (.int .i64 1) ∧ Inv w [] w' := by
  have hI1 := Inv.startS h0_ (List.pairwise_singleton _ _)
  refine enter (n := 11) Try.func24 rfl rfl rfl ?_
  intro ac1 hf1
  refine code_seq ?_
  refine seq_start (l := [0]) rfl ?_
  refine seq_one (op_val (v := .int .i64 0) hf1 rfl rfl rfl rfl rfl rfl (r_assign rfl) fun ac2 hf2 => ?_)
  refine seq_end ?_
  clear ac1 hf1
  refine then_normal ?_
  refine code_seq ?_
  refine seq_start (l := [0, 1, 2, 3, 4]) rfl ?_
  refine seq_one (op_val (v := .pointer (some ⟨zb, 0, none⟩)) hf2 rfl rfl rfl rfl rfl rfl (r_move rfl) fun ac3 hf3 => ?_)
  refine seq_one (op_val (v := .int .i64 f) hf3 rfl rfl rfl rfl rfl rfl (r_move rfl) fun ac4 hf4 => ?_)
  refine seq_one (op_val (v := .int .i64 x) hf4 rfl rfl rfl rfl rfl rfl (r_move rfl) fun ac5 hf5 => ?_)
  refine seq_one (op_pureW hf5 rfl rfl rfl rfl ca_55 (renter_zero 0 f x zb _ (Has.cons (hI1.at 0 rfl) Has.nil)) hI1 fun ac6 wd1 hI2 hf6 => ?_)
  refine seq_one (op_val (v := .int .i64 1) hf6 rfl rfl rfl rfl rfl rfl (r_assign rfl) fun ac7 hf7 => ?_)
  refine seq_end ?_
  clear ac2 hf2 ac3 hf3 ac4 hf4 ac5 hI1 hf5 ac6 hf6
  refine then_normal ?_
  refine wp_ret ?_
  exact post1 rfl hf7 rfl ⟨rfl, (hI2).unread h0_⟩
set_option maxHeartbeats 8000000 in
theorem rback_nil (f x : Int) : Pur Try.prog 25 [.pointer none, .int .i64 f, .int .i64 x] (.int .i64 1) := by
  intro w
  have hI1 := Inv.start w
  refine enter (n := 11) Try.func25 rfl rfl rfl ?_
  intro ac1 hf1
  refine code_seq ?_
  refine seq_start (l := [0]) rfl ?_
  refine seq_one (op_val (v := .int .i64 0) hf1 rfl rfl rfl rfl rfl rfl (r_assign rfl) fun ac2 hf2 => ?_)
  refine seq_end ?_
  clear ac1 hf1
  refine then_normal ?_
  refine code_seq ?_
  refine seq_start (l := [0, 1, 2, 3, 4]) rfl ?_
  refine seq_one (op_val (v := .pointer none) hf2 rfl rfl rfl rfl rfl rfl (r_move rfl) fun ac3 hf3 => ?_)
  refine seq_one (op_val (v := .int .i64 f) hf3 rfl rfl rfl rfl rfl rfl (r_move rfl) fun ac4 hf4 => ?_)
  refine seq_one (op_val (v := .int .i64 x) hf4 rfl rfl rfl rfl rfl rfl (r_move rfl) fun ac5 hf5 => ?_)
  refine seq_one (op_pure hf5 rfl rfl rfl rfl ca_55 (renter_nil 1 f x) hI1 fun ac6 wd1 hI2 hf6 => ?_)
  refine seq_one (op_val (v := .int .i64 1) hf6 rfl rfl rfl rfl rfl rfl (r_assign rfl) fun ac7 hf7 => ?_)
  refine seq_end ?_
  clear ac2 hf2 ac3 hf3 ac4 hf4 ac5 hI1 hf5 ac6 hf6
  refine then_normal ?_
  refine wp_ret ?_
  refine post1 rfl hf7 rfl ⟨?_, hI2.done (fresh_keys (ks := []) rfl fk_nil)⟩
  rfl
set_option maxHeartbeats 8000000 in
theorem rback_zero (f x : Int) (zb : Nat) (w : World) (h0_ : Has [(zb, #[.pointer none, .slice none 0 0, .int .i64 0], 45)] w) : Calls Try.prog 25 [.pointer (some ⟨zb, 0, none⟩), .int .i64 f, .int .i64 x].toArray w fun e w' => e = .returned (.int .i64 1) ∧ Inv w [] w' := by
  have hI1 := Inv.startS h0_ (List.pairwise_singleton _ _)
  refine enter (n := 11) Try.func25 rfl rfl rfl ?_
  intro ac1 hf1
  refine code_seq ?_
  refine seq_start (l := [0]) rfl ?_
  refine seq_one (op_val (v := .int .i64 0) hf1 rfl rfl rfl rfl rfl rfl (r_assign rfl) fun ac2 hf2 => ?_)
  refine seq_end ?_
  clear ac1 hf1
  refine then_normal ?_
  refine code_seq ?_
  refine seq_start (l := [0, 1, 2, 3, 4]) rfl ?_
  refine seq_one (op_val (v := .pointer (some ⟨zb, 0, none⟩)) hf2 rfl rfl rfl rfl rfl rfl (r_move rfl) fun ac3 hf3 => ?_)
  refine seq_one (op_val (v := .int .i64 f) hf3 rfl rfl rfl rfl rfl rfl (r_move rfl) fun ac4 hf4 => ?_)
  refine seq_one (op_val (v := .int .i64 x) hf4 rfl rfl rfl rfl rfl rfl (r_move rfl) fun ac5 hf5 => ?_)
  refine seq_one (op_pureW hf5 rfl rfl rfl rfl ca_55 (renter_zero 1 f x zb _ (Has.cons (hI1.at 0 rfl) Has.nil)) hI1 fun ac6 wd1 hI2 hf6 => ?_)
  refine seq_one (op_val (v := .int .i64 1) hf6 rfl rfl rfl rfl rfl rfl (r_assign rfl) fun ac7 hf7 => ?_)
  refine seq_end ?_
  clear ac2 hf2 ac3 hf3 ac4 hf4 ac5 hI1 hf5 ac6 hf6
  refine then_normal ?_
  refine wp_ret ?_
  exact post1 rfl hf7 rfl ⟨rfl, (hI2).unread h0_⟩
set_option maxHeartbeats 8000000 in
theorem rhead_nil  : Pur Try.prog 20 [.pointer none] (.tuple #[.int .i64 0, .int .i64 0, .bool false]) := by
  intro w
  have hI1 := Inv.start w
  refine enter (n := 65) Try.func20 rfl rfl rfl ?_
  intro ac1 hf1
  refine code_seq ?_
  refine seq_start (l := [0, 1, 2]) rfl ?_
  refine seq_one (op_val (v := .int .i64 0) hf1 rfl rfl rfl rfl rfl rfl (r_assign rfl) fun ac2 hf2 => ?_)
  refine seq_one (op_val (v := .int .i64 0) hf2 rfl rfl rfl rfl rfl rfl (r_assign rfl) fun ac3 hf3 => ?_)
  refine seq_one (op_val (v := .bool false) hf3 rfl rfl rfl rfl rfl rfl (r_assign rfl) fun ac4 hf4 => ?_)
  refine seq_end ?_
  clear ac1 hf1 ac2 hf2 ac3 hf3
  refine then_normal ?_
  refine code_seq ?_
  refine code_seq ?_
  refine seq_start (l := [0, 1]) rfl ?_
  refine seq_one (op_val (v := .pointer none) hf4 rfl rfl rfl rfl rfl rfl (r_move rfl) fun ac5 hf5 => ?_)
  refine seq_one (op_pure hf5 rfl rfl rfl rfl ca_51 (rnone_nil) hI1 fun ac6 wd1 hI2 hf6 => ?_)
  refine seq_end ?_
  clear ac4 hf4 ac5 hI1 hf5
  refine then_normal ?_
  refine code_if_true hf6 rfl ?_
  refine code_seq ?_
  refine seq_start (l := [0, 1, 2]) rfl ?_
  refine seq_one (op_val (v := .int .i64 0) hf6 rfl rfl rfl rfl rfl rfl (r_assign rfl) fun ac7 hf7 => ?_)
  refine seq_one (op_val (v := .int .i64 0) hf7 rfl rfl rfl rfl rfl rfl (r_assign rfl) fun ac8 hf8 => ?_)
  refine seq_one (op_val (v := .bool false) hf8 rfl rfl rfl rfl rfl rfl (r_assign rfl) fun ac9 hf9 => ?_)
  refine seq_end ?_
  clear ac6 hf6 ac7 hf7 ac8 hf8
  refine then_normal ?_
  refine wp_ret ?_
  refine then_ret ?_
  refine post3 rfl hf9 rfl rfl rfl ⟨?_, hI2.done (fresh_keys (ks := []) rfl fk_nil)⟩
  rfl
set_option maxHeartbeats 8000000 in
theorem rhead_zero  (zb : Nat) (w : World) (h0_ : Has [(zb, #[.pointer none, .slice none 0 0, .int .i64 0], 45)] w) : Calls Try.prog 20 [.pointer (some ⟨zb, 0, none⟩)].toArray w fun e w' => e = .returned (.tuple #[.int .i64 0, .int .i64 0, .bool false]) ∧ Inv w [] w' := by
  have hI1 := Inv.startS h0_ (List.pairwise_singleton _ _)
  refine enter (n := 65) Try.func20 rfl rfl rfl ?_
  intro ac1 hf1
  refine code_seq ?_
  refine seq_start (l := [0, 1, 2]) rfl ?_
  refine seq_one (op_val (v := .int .i64 0) hf1 rfl rfl rfl rfl rfl rfl (r_assign rfl) fun ac2 hf2 => ?_)
  refine seq_one (op_val (v := .int .i64 0) hf2 rfl rfl rfl rfl rfl rfl (r_assign rfl) fun ac3 hf3 => ?_)
  refine seq_one (op_val (v := .bool false) hf3 rfl rfl rfl rfl rfl rfl (r_assign rfl) fun ac4 hf4 => ?_)
  refine seq_end ?_
  clear ac1 hf1 ac2 hf2 ac3 hf3
  refine then_normal ?_
  refine code_seq ?_
  refine code_seq ?_
  refine seq_start (l := [0, 1]) rfl ?_
  refine seq_one (op_val (v := .pointer (some ⟨zb, 0, none⟩)) hf4 rfl rfl rfl rfl rfl rfl (r_move rfl) fun ac5 hf5 => ?_)
  refine seq_one (op_pureW hf5 rfl rfl rfl rfl ca_51 (rnone_zero zb _ (Has.cons (hI1.at 0 rfl) Has.nil)) hI1 fun ac6 wd1 hI2 hf6 => ?_)
  refine seq_end ?_
  clear ac4 hf4 ac5 hI1 hf5
  refine then_normal ?_
  refine code_if_true hf6 rfl ?_
  refine code_seq ?_
  refine seq_start (l := [0, 1, 2]) rfl ?_
  refine seq_one (op_val (v := .int .i64 0) hf6 rfl rfl rfl rfl rfl rfl (r_assign rfl) fun ac7 hf7 => ?_)
  refine seq_one (op_val (v := .int .i64 0) hf7 rfl rfl rfl rfl rfl rfl (r_assign rfl) fun ac8 hf8 => ?_)
  refine seq_one (op_val (v := .bool false) hf8 rfl rfl rfl rfl rfl rfl (r_assign rfl) fun ac9 hf9 => ?_)
  refine seq_end ?_
  clear ac6 hf6 ac7 hf7 ac8 hf8
  refine then_normal ?_
  refine wp_ret ?_
  refine then_ret ?_
  exact post3 rfl hf9 rfl rfl rfl ⟨rfl, (hI2).unread h0_⟩
set_option maxHeartbeats 8000000 in
theorem rset_nil (x : Int) : Pur Try.prog 22 [.pointer none, .int .i64 x] (.int .i64 1) := by
  intro w
  have hI1 := Inv.start w
  refine enter (n := 33) Try.func22 rfl rfl rfl ?_
  intro ac1 hf1
  refine code_seq ?_
  refine seq_start (l := [0]) rfl ?_
  refine seq_one (op_val (v := .int .i64 0) hf1 rfl rfl rfl rfl rfl rfl (r_assign rfl) fun ac2 hf2 => ?_)
  refine seq_end ?_
  clear ac1 hf1
  refine then_normal ?_
  refine code_seq ?_
  refine code_seq ?_
  refine seq_start (l := [0, 1]) rfl ?_
  refine seq_one (op_val (v := .pointer none) hf2 rfl rfl rfl rfl rfl rfl (r_move rfl) fun ac3 hf3 => ?_)
  refine seq_one (op_pure hf3 rfl rfl rfl rfl ca_51 (rnone_nil) hI1 fun ac4 wd1 hI2 hf4 => ?_)
  refine seq_end ?_
  clear ac2 hf2 ac3 hI1 hf3
  refine then_normal ?_
  refine code_if_true hf4 rfl ?_
  refine code_seq ?_
  refine seq_start (l := [0]) rfl ?_
  refine seq_one (op_val (v := .int .i64 1) hf4 rfl rfl rfl rfl rfl rfl (r_assign rfl) fun ac5 hf5 => ?_)
  refine seq_end ?_
  clear ac4 hf4
  refine then_normal ?_
  refine wp_ret ?_
  refine then_ret ?_
  refine post1 rfl hf5 rfl ⟨?_, hI2.done (fresh_keys (ks := []) rfl fk_nil)⟩
  rfl
set_option maxHeartbeats 8000000 in
theorem rset_zero (x : Int) (zb : Nat) (w : World) (h0_ : Has [(zb, #[.pointer none, .slice none 0 0, .int .i64 0], 45)] w) : Calls Try.prog 22 [.pointer (some ⟨zb, 0, none⟩), .int .i64 x].toArray w fun e w' => e = .returned (.int .i64 1) ∧ Inv w [] w' := by
  have hI1 := Inv.startS h0_ (List.pairwise_singleton _ _)
  refine enter (n := 33) Try.func22 rfl rfl rfl ?_
  intro ac1 hf1
  refine code_seq ?_
  refine seq_start (l := [0]) rfl ?_
  refine seq_one (op_val (v := .int .i64 0) hf1 rfl rfl rfl rfl rfl rfl (r_assign rfl) fun ac2 hf2 => ?_)
  refine seq_end ?_
  clear ac1 hf1
  refine then_normal ?_
  refine code_seq ?_
  refine code_seq ?_
  refine seq_start (l := [0, 1]) rfl ?_
  refine seq_one (op_val (v := .pointer (some ⟨zb, 0, none⟩)) hf2 rfl rfl rfl rfl rfl rfl (r_move rfl) fun ac3 hf3 => ?_)
  refine seq_one (op_pureW hf3 rfl rfl rfl rfl ca_51 (rnone_zero zb _ (Has.cons (hI1.at 0 rfl) Has.nil)) hI1 fun ac4 wd1 hI2 hf4 => ?_)
  refine seq_end ?_
  clear ac2 hf2 ac3 hI1 hf3
  refine then_normal ?_
  refine code_if_true hf4 rfl ?_
  refine code_seq ?_
  refine seq_start (l := [0]) rfl ?_
  refine seq_one (op_val (v := .int .i64 1) hf4 rfl rfl rfl rfl rfl rfl (r_assign rfl) fun ac5 hf5 => ?_)
  refine seq_end ?_
  clear ac4 hf4
  refine then_normal ?_
  refine wp_ret ?_
  refine then_ret ?_
  exact post1 rfl hf5 rfl ⟨rfl, (hI2).unread h0_⟩
set_option maxHeartbeats 8000000 in
theorem rleave_nil  : Pur Try.prog 18 [.pointer none] (.tuple #[.int .i64 0, .int .i64 0, .bool false]) := by
  intro w
  have hI1 := Inv.start w
  refine enter (n := 39) Try.func18 rfl rfl rfl ?_
  intro ac1 hf1
  refine code_seq ?_
  refine seq_start (l := [0, 1, 2]) rfl ?_
  refine seq_one (op_val (v := .int .i64 0) hf1 rfl rfl rfl rfl rfl rfl (r_assign rfl) fun ac2 hf2 => ?_)
  refine seq_one (op_val (v := .int .i64 0) hf2 rfl rfl rfl rfl rfl rfl (r_assign rfl) fun ac3 hf3 => ?_)
  refine seq_one (op_val (v := .bool false) hf3 rfl rfl rfl rfl rfl rfl (r_assign rfl) fun ac4 hf4 => ?_)
  refine seq_end ?_
  clear ac1 hf1 ac2 hf2 ac3 hf3
  refine then_normal ?_
  refine code_seq ?_
  refine code_seq ?_
  refine seq_start (l := [0, 1]) rfl ?_
  refine seq_one (op_val (v := .pointer none) hf4 rfl rfl rfl rfl rfl rfl (r_move rfl) fun ac5 hf5 => ?_)
  refine seq_one (op_pure hf5 rfl rfl rfl rfl ca_51 (rnone_nil) hI1 fun ac6 wd1 hI2 hf6 => ?_)
  refine seq_end ?_
  clear ac4 hf4 ac5 hI1 hf5
  refine then_normal ?_
  refine code_if_true hf6 rfl ?_
  refine code_seq ?_
  refine seq_start (l := [0, 1, 2]) rfl ?_
  refine seq_one (op_val (v := .int .i64 0) hf6 rfl rfl rfl rfl rfl rfl (r_assign rfl) fun ac7 hf7 => ?_)
  refine seq_one (op_val (v := .int .i64 0) hf7 rfl rfl rfl rfl rfl rfl (r_assign rfl) fun ac8 hf8 => ?_)
  refine seq_one (op_val (v := .bool false) hf8 rfl rfl rfl rfl rfl rfl (r_assign rfl) fun ac9 hf9 => ?_)
  refine seq_end ?_
  clear ac6 hf6 ac7 hf7 ac8 hf8
  refine then_normal ?_
  refine wp_ret ?_
  refine then_ret ?_
  refine post3 rfl hf9 rfl rfl rfl ⟨?_, hI2.done (fresh_keys (ks := []) rfl fk_nil)⟩
  rfl
set_option maxHeartbeats 8000000 in
theorem rleave_zero  (zb : Nat) (w : World) (h0_ : Has [(zb, #[.pointer none, .slice none 0 0, .int .i64 0], 45)] w) : Calls Try.prog 18 [.pointer (some ⟨zb, 0, none⟩)].toArray w fun e w' => e = .returned (.tuple #[.int .i64 0, .int .i64 0, .bool false]) ∧ Inv w [] w' := by
  have hI1 := Inv.startS h0_ (List.pairwise_singleton _ _)
  refine enter (n := 39) Try.func18 rfl rfl rfl ?_
  intro ac1 hf1
  refine code_seq ?_
  refine seq_start (l := [0, 1, 2]) rfl ?_
  refine seq_one (op_val (v := .int .i64 0) hf1 rfl rfl rfl rfl rfl rfl (r_assign rfl) fun ac2 hf2 => ?_)
  refine seq_one (op_val (v := .int .i64 0) hf2 rfl rfl rfl rfl rfl rfl (r_assign rfl) fun ac3 hf3 => ?_)
  refine seq_one (op_val (v := .bool false) hf3 rfl rfl rfl rfl rfl rfl (r_assign rfl) fun ac4 hf4 => ?_)
  refine seq_end ?_
  clear ac1 hf1 ac2 hf2 ac3 hf3
  refine then_normal ?_
  refine code_seq ?_
  refine code_seq ?_
  refine seq_start (l := [0, 1]) rfl ?_
  refine seq_one (op_val (v := .pointer (some ⟨zb, 0, none⟩)) hf4 rfl rfl rfl rfl rfl rfl (r_move rfl) fun ac5 hf5 => ?_)
  refine seq_one (op_pureW hf5 rfl rfl rfl rfl ca_51 (rnone_zero zb _ (Has.cons (hI1.at 0 rfl) Has.nil)) hI1 fun ac6 wd1 hI2 hf6 => ?_)
  refine seq_end ?_
  clear ac4 hf4 ac5 hI1 hf5
  refine then_normal ?_
  refine code_if_true hf6 rfl ?_
  refine code_seq ?_
  refine seq_start (l := [0, 1, 2]) rfl ?_
  refine seq_one (op_val (v := .int .i64 0) hf6 rfl rfl rfl rfl rfl rfl (r_assign rfl) fun ac7 hf7 => ?_)
  refine seq_one (op_val (v := .int .i64 0) hf7 rfl rfl rfl rfl rfl rfl (r_assign rfl) fun ac8 hf8 => ?_)
  refine seq_one (op_val (v := .bool false) hf8 rfl rfl rfl rfl rfl rfl (r_assign rfl) fun ac9 hf9 => ?_)
  refine seq_end ?_
  clear ac6 hf6 ac7 hf7 ac8 hf8
  refine then_normal ?_
  refine wp_ret ?_
  refine then_ret ?_
  exact post3 rfl hf9 rfl rfl rfl ⟨rfl, (hI2).unread h0_⟩
set_option maxHeartbeats 8000000 in
theorem ridle_nil  : Pur Try.prog 21 [.pointer none] (.tuple #[.int .i64 0, .bool false, .bool false]) := by
  intro w
  have hI1 := Inv.start w
  refine enter (n := 37) Try.func21 rfl rfl rfl ?_
  intro ac1 hf1
  refine code_seq ?_
  refine seq_start (l := [0, 1, 2]) rfl ?_
  refine seq_one (op_val (v := .int .i64 0) hf1 rfl rfl rfl rfl rfl rfl (r_assign rfl) fun ac2 hf2 => ?_)
  refine seq_one (op_val (v := .bool false) hf2 rfl rfl rfl rfl rfl rfl (r_assign rfl) fun ac3 hf3 => ?_)
  refine seq_one (op_val (v := .bool false) hf3 rfl rfl rfl rfl rfl rfl (r_assign rfl) fun ac4 hf4 => ?_)
  refine seq_end ?_
  clear ac1 hf1 ac2 hf2 ac3 hf3
  refine then_normal ?_
  refine code_seq ?_
  refine code_seq ?_
  refine seq_start (l := [0, 1]) rfl ?_
  refine seq_one (op_val (v := .pointer none) hf4 rfl rfl rfl rfl rfl rfl (r_move rfl) fun ac5 hf5 => ?_)
  refine seq_one (op_pure hf5 rfl rfl rfl rfl ca_51 (rnone_nil) hI1 fun ac6 wd1 hI2 hf6 => ?_)
  refine seq_end ?_
  clear ac4 hf4 ac5 hI1 hf5
  refine then_normal ?_
  refine code_if_true hf6 rfl ?_
  refine code_seq ?_
  refine seq_start (l := [0, 1, 2]) rfl ?_
  refine seq_one (op_val (v := .int .i64 0) hf6 rfl rfl rfl rfl rfl rfl (r_assign rfl) fun ac7 hf7 => ?_)
  refine seq_one (op_val (v := .bool false) hf7 rfl rfl rfl rfl rfl rfl (r_assign rfl) fun ac8 hf8 => ?_)
  refine seq_one (op_val (v := .bool false) hf8 rfl rfl rfl rfl rfl rfl (r_assign rfl) fun ac9 hf9 => ?_)
  refine seq_end ?_
  clear ac6 hf6 ac7 hf7 ac8 hf8
  refine then_normal ?_
  refine wp_ret ?_
  refine then_ret ?_
  refine post3 rfl hf9 rfl rfl rfl ⟨?_, hI2.done (fresh_keys (ks := []) rfl fk_nil)⟩
  rfl
set_option maxHeartbeats 8000000 in
theorem ridle_zero  (zb : Nat) (w : World) (h0_ : Has [(zb, #[.pointer none, .slice none 0 0, .int .i64 0], 45)] w) : Calls Try.prog 21 [.pointer (some ⟨zb, 0, none⟩)].toArray w fun e w' => e = .returned (.tuple #[.int .i64 0, .bool false, .bool false]) ∧ Inv w [] w' := by
  have hI1 := Inv.startS h0_ (List.pairwise_singleton _ _)
  refine enter (n := 37) Try.func21 rfl rfl rfl ?_
  intro ac1 hf1
  refine code_seq ?_
  refine seq_start (l := [0, 1, 2]) rfl ?_
  refine seq_one (op_val (v := .int .i64 0) hf1 rfl rfl rfl rfl rfl rfl (r_assign rfl) fun ac2 hf2 => ?_)
  refine seq_one (op_val (v := .bool false) hf2 rfl rfl rfl rfl rfl rfl (r_assign rfl) fun ac3 hf3 => ?_)
  refine seq_one (op_val (v := .bool false) hf3 rfl rfl rfl rfl rfl rfl (r_assign rfl) fun ac4 hf4 => ?_)
  refine seq_end ?_
  clear ac1 hf1 ac2 hf2 ac3 hf3
  refine then_normal ?_
  refine code_seq ?_
  refine code_seq ?_
  refine seq_start (l := [0, 1]) rfl ?_
  refine seq_one (op_val (v := .pointer (some ⟨zb, 0, none⟩)) hf4 rfl rfl rfl rfl rfl rfl (r_move rfl) fun ac5 hf5 => ?_)
  refine seq_one (op_pureW hf5 rfl rfl rfl rfl ca_51 (rnone_zero zb _ (Has.cons (hI1.at 0 rfl) Has.nil)) hI1 fun ac6 wd1 hI2 hf6 => ?_)
  refine seq_end ?_
  clear ac4 hf4 ac5 hI1 hf5
  refine then_normal ?_
  refine code_if_true hf6 rfl ?_
  refine code_seq ?_
  refine seq_start (l := [0, 1, 2]) rfl ?_
  refine seq_one (op_val (v := .int .i64 0) hf6 rfl rfl rfl rfl rfl rfl (r_assign rfl) fun ac7 hf7 => ?_)
  refine seq_one (op_val (v := .bool false) hf7 rfl rfl rfl rfl rfl rfl (r_assign rfl) fun ac8 hf8 => ?_)
  refine seq_one (op_val (v := .bool false) hf8 rfl rfl rfl rfl rfl rfl (r_assign rfl) fun ac9 hf9 => ?_)
  refine seq_end ?_
  clear ac6 hf6 ac7 hf7 ac8 hf8
  refine then_normal ?_
  refine wp_ret ?_
  refine then_ret ?_
  exact post3 rfl hf9 rfl rfl rfl ⟨rfl, (hI2).unread h0_⟩
set_option maxHeartbeats 8000000 in
theorem rcredit_nil (f : Int) : Pur Try.prog 17 [.pointer none, .int .i64 f] (.tuple #[.int .i64 0, .bool false]) := by
  intro w
  have hI1 := Inv.start w
  refine enter (n := 29) Try.func17 rfl rfl rfl ?_
  intro ac1 hf1
  refine code_seq ?_
  refine seq_start (l := [0, 1]) rfl ?_
  refine seq_one (op_val (v := .int .i64 0) hf1 rfl rfl rfl rfl rfl rfl (r_assign rfl) fun ac2 hf2 => ?_)
  refine seq_one (op_val (v := .bool false) hf2 rfl rfl rfl rfl rfl rfl (r_assign rfl) fun ac3 hf3 => ?_)
  refine seq_end ?_
  clear ac1 hf1 ac2 hf2
  refine then_normal ?_
  refine code_seq ?_
  refine code_seq ?_
  refine seq_start (l := [0, 1]) rfl ?_
  refine seq_one (op_val (v := .pointer none) hf3 rfl rfl rfl rfl rfl rfl (r_move rfl) fun ac4 hf4 => ?_)
  refine seq_one (op_pure hf4 rfl rfl rfl rfl ca_51 (rnone_nil) hI1 fun ac5 wd1 hI2 hf5 => ?_)
  refine seq_end ?_
  clear ac3 hf3 ac4 hI1 hf4
  refine then_normal ?_
  refine code_if_true hf5 rfl ?_
  refine code_seq ?_
  refine seq_start (l := [0, 1]) rfl ?_
  refine seq_one (op_val (v := .int .i64 0) hf5 rfl rfl rfl rfl rfl rfl (r_assign rfl) fun ac6 hf6 => ?_)
  refine seq_one (op_val (v := .bool false) hf6 rfl rfl rfl rfl rfl rfl (r_assign rfl) fun ac7 hf7 => ?_)
  refine seq_end ?_
  clear ac5 hf5 ac6 hf6
  refine then_normal ?_
  refine wp_ret ?_
  refine then_ret ?_
  refine post2 rfl hf7 rfl rfl ⟨?_, hI2.done (fresh_keys (ks := []) rfl fk_nil)⟩
  rfl
set_option maxHeartbeats 8000000 in
theorem rcredit_zero (f : Int) (zb : Nat) (w : World) (h0_ : Has [(zb, #[.pointer none, .slice none 0 0, .int .i64 0], 45)] w) : Calls Try.prog 17 [.pointer (some ⟨zb, 0, none⟩), .int .i64 f].toArray w fun e w' => e = .returned (.tuple #[.int .i64 0, .bool false]) ∧ Inv w [] w' := by
  have hI1 := Inv.startS h0_ (List.pairwise_singleton _ _)
  refine enter (n := 29) Try.func17 rfl rfl rfl ?_
  intro ac1 hf1
  refine code_seq ?_
  refine seq_start (l := [0, 1]) rfl ?_
  refine seq_one (op_val (v := .int .i64 0) hf1 rfl rfl rfl rfl rfl rfl (r_assign rfl) fun ac2 hf2 => ?_)
  refine seq_one (op_val (v := .bool false) hf2 rfl rfl rfl rfl rfl rfl (r_assign rfl) fun ac3 hf3 => ?_)
  refine seq_end ?_
  clear ac1 hf1 ac2 hf2
  refine then_normal ?_
  refine code_seq ?_
  refine code_seq ?_
  refine seq_start (l := [0, 1]) rfl ?_
  refine seq_one (op_val (v := .pointer (some ⟨zb, 0, none⟩)) hf3 rfl rfl rfl rfl rfl rfl (r_move rfl) fun ac4 hf4 => ?_)
  refine seq_one (op_pureW hf4 rfl rfl rfl rfl ca_51 (rnone_zero zb _ (Has.cons (hI1.at 0 rfl) Has.nil)) hI1 fun ac5 wd1 hI2 hf5 => ?_)
  refine seq_end ?_
  clear ac3 hf3 ac4 hI1 hf4
  refine then_normal ?_
  refine code_if_true hf5 rfl ?_
  refine code_seq ?_
  refine seq_start (l := [0, 1]) rfl ?_
  refine seq_one (op_val (v := .int .i64 0) hf5 rfl rfl rfl rfl rfl rfl (r_assign rfl) fun ac6 hf6 => ?_)
  refine seq_one (op_val (v := .bool false) hf6 rfl rfl rfl rfl rfl rfl (r_assign rfl) fun ac7 hf7 => ?_)
  refine seq_end ?_
  clear ac5 hf5 ac6 hf6
  refine then_normal ?_
  refine wp_ret ?_
  refine then_ret ?_
  exact post2 rfl hf7 rfl rfl ⟨rfl, (hI2).unread h0_⟩
set_option maxHeartbeats 8000000 in
theorem rlists_nil  : Pur Try.prog 16 [.pointer none] (.tuple #[.slice none 0 0, .slice none 0 0]) := by
  intro w
  have hI1 := Inv.start w
  refine enter (n := 18) Try.func16 rfl rfl rfl ?_
  intro ac1 hf1
  refine code_seq ?_
  refine seq_start (l := [0, 1]) rfl ?_
  refine seq_one (op_val (v := .slice none 0 0) hf1 rfl rfl rfl rfl rfl rfl (r_assign rfl) fun ac2 hf2 => ?_)
  refine seq_one (op_val (v := .slice none 0 0) hf2 rfl rfl rfl rfl rfl rfl (r_assign rfl) fun ac3 hf3 => ?_)
  refine seq_end ?_
  clear ac1 hf1 ac2 hf2
  refine then_normal ?_
  refine code_seq ?_
  refine code_seq ?_
  refine seq_start (l := [0, 1]) rfl ?_
  refine seq_one (op_val (v := .pointer none) hf3 rfl rfl rfl rfl rfl rfl (r_move rfl) fun ac4 hf4 => ?_)
  refine seq_one (op_pure hf4 rfl rfl rfl rfl ca_51 (rnone_nil) hI1 fun ac5 wd1 hI2 hf5 => ?_)
  refine seq_end ?_
  clear ac3 hf3 ac4 hI1 hf4
  refine then_normal ?_
  refine code_if_true hf5 rfl ?_
  refine code_seq ?_
  refine seq_start (l := [0, 1]) rfl ?_
  refine seq_one (op_val (v := .slice none 0 0) hf5 rfl rfl rfl rfl rfl rfl (r_assign rfl) fun ac6 hf6 => ?_)
  refine seq_one (op_val (v := .slice none 0 0) hf6 rfl rfl rfl rfl rfl rfl (r_assign rfl) fun ac7 hf7 => ?_)
  refine seq_end ?_
  clear ac5 hf5 ac6 hf6
  refine then_normal ?_
  refine wp_ret ?_
  refine then_ret ?_
  refine post2 rfl hf7 rfl rfl ⟨?_, hI2.done (fresh_keys (ks := []) rfl fk_nil)⟩
  rfl
set_option maxHeartbeats 8000000 in
theorem rlists_zero  (zb : Nat) (w : World) (h0_ : Has [(zb, #[.pointer none, .slice none 0 0, .int .i64 0], 45)] w) : Calls Try.prog 16 [.pointer (some ⟨zb, 0, none⟩)].toArray w fun e w' => e = .returned (.tuple #[.slice none 0 0, .slice none 0 0]) ∧ Inv w [] w' := by
  have hI1 := Inv.startS h0_ (List.pairwise_singleton _ _)
  refine enter (n := 18) Try.func16 rfl rfl rfl ?_
  intro ac1 hf1
  refine code_seq ?_
  refine seq_start (l := [0, 1]) rfl ?_
  refine seq_one (op_val (v := .slice none 0 0) hf1 rfl rfl rfl rfl rfl rfl (r_assign rfl) fun ac2 hf2 => ?_)
  refine seq_one (op_val (v := .slice none 0 0) hf2 rfl rfl rfl rfl rfl rfl (r_assign rfl) fun ac3 hf3 => ?_)
  refine seq_end ?_
  clear ac1 hf1 ac2 hf2
  refine then_normal ?_
  refine code_seq ?_
  refine code_seq ?_
  refine seq_start (l := [0, 1]) rfl ?_
  refine seq_one (op_val (v := .pointer (some ⟨zb, 0, none⟩)) hf3 rfl rfl rfl rfl rfl rfl (r_move rfl) fun ac4 hf4 => ?_)
  refine seq_one (op_pureW hf4 rfl rfl rfl rfl ca_51 (rnone_zero zb _ (Has.cons (hI1.at 0 rfl) Has.nil)) hI1 fun ac5 wd1 hI2 hf5 => ?_)
  refine seq_end ?_
  clear ac3 hf3 ac4 hI1 hf4
  refine then_normal ?_
  refine code_if_true hf5 rfl ?_
  refine code_seq ?_
  refine seq_start (l := [0, 1]) rfl ?_
  refine seq_one (op_val (v := .slice none 0 0) hf5 rfl rfl rfl rfl rfl rfl (r_assign rfl) fun ac6 hf6 => ?_)
  refine seq_one (op_val (v := .slice none 0 0) hf6 rfl rfl rfl rfl rfl rfl (r_assign rfl) fun ac7 hf7 => ?_)
  refine seq_end ?_
  clear ac5 hf5 ac6 hf6
  refine then_normal ?_
  refine wp_ret ?_
  refine then_ret ?_
  exact post2 rfl hf7 rfl rfl ⟨rfl, (hI2).unread h0_⟩
end Go.Proofs.Ytjelaoblpchmmaa
