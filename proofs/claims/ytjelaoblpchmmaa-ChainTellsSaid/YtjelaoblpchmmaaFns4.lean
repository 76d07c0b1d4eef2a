/-
  New of chain, and chains that are none: what each call comes to.
-/
import Derived.Test.YtjelaoblpchmmaaFns3
namespace Go.Proofs.Ytjelaoblpchmmaa
set_option linter.unusedVariables false
set_option linter.unusedSimpArgs false
set_option maxRecDepth 100000
open Go.RowKit
set_option maxHeartbeats 8000000 in
theorem new_walk {N K : Nat} (hN : 1 ≤ N ∧ N ≤ 65536) (hK : 1 ≤ K ∧ K ≤ 64) (w : World) : Calls Try.prog 34 [.int .i64 (K : Int), .int .i64 (N : Int)].toArray w fun e w' => ∃ lb ob mb cb, w.heap.size ≤ lb ∧ w.heap.size ≤ ob ∧ w.heap.size ≤ mb ∧ w.heap.size ≤ cb ∧ e = .returned (.tuple #[.pointer (some ⟨cb, 0, none⟩), .int .i64 0]) ∧ Inv w [(lb, arr .i64 (Ch.new N K hN hK).lk, 103), (ob, arr .i64 (Ch.new N K hN hK).of, 3), (mb, arr .i64 (Ch.new N K hN hK).mn, 3), (cb, #[.slice (some ⟨lb, 0, none⟩) (N + K) (N + K), .slice (some ⟨ob, 0, none⟩) N N, .slice (some ⟨mb, 0, none⟩) K K], 79)] w' := by
  have hI1 := Inv.start w
  refine enter (n := 51) Try.func34 rfl rfl rfl ?_
  intro ac1 hf1
  refine code_seq ?_
  refine seq_start (l := [0, 1]) rfl ?_
  refine seq_one (op_val (v := .pointer none) hf1 rfl rfl rfl rfl rfl rfl (r_assign rfl) fun ac2 hf2 => ?_)
  refine seq_one (op_val (v := .int .i64 0) hf2 rfl rfl rfl rfl rfl rfl (r_assign rfl) fun ac3 hf3 => ?_)
  refine seq_end ?_
  clear ac1 hf1 ac2 hf2
  refine then_normal ?_
  refine code_seq ?_
  refine code_seq ?_
  refine seq_start (l := [0, 1, 2, 3, 4, 5, 6, 7, 8, 9, 10, 11, 12, 13]) rfl ?_
  refine seq_one (op_val (v := .int .i64 (K : Int)) hf3 rfl rfl rfl rfl rfl rfl (r_move rfl) fun ac4 hf4 => ?_)
  refine seq_one (op_val (v := .bool (decide ((K : Int) < 1))) hf4 rfl rfl rfl rfl rfl rfl (r_lss rfl rfl) fun ac5 hf5 => ?_)
  refine seq_one (op_val (v := .bool (decide ((K : Int) < 1))) hf5 rfl rfl rfl rfl rfl rfl (r_move rfl) fun ac6 hf6 => ?_)
  have hf7 := hf6.know 10 (u := .bool false) rfl (congrArg Value.bool (decide_eq_false (by omega)))
  refine seq_one (op_val (v := .int .i64 (K : Int)) hf7 rfl rfl rfl rfl rfl rfl (r_move rfl) fun ac7 hf8 => ?_)
  refine seq_one (op_val (v := .bool (decide ((K : Int) > 64))) hf8 rfl rfl rfl rfl rfl rfl (r_gtr rfl rfl) fun ac8 hf9 => ?_)
  refine seq_one (op_val (v := .bool (decide ((K : Int) > 64))) hf9 rfl rfl rfl rfl rfl rfl (r_pickF rfl rfl) fun ac9 hf10 => ?_)
  refine seq_one (op_val (v := .bool (decide ((K : Int) > 64))) hf10 rfl rfl rfl rfl rfl rfl (r_move rfl) fun ac10 hf11 => ?_)
  have hf12 := hf11.know 14 (u := .bool false) rfl (congrArg Value.bool (decide_eq_false (by omega)))
  refine seq_one (op_val (v := .int .i64 (N : Int)) hf12 rfl rfl rfl rfl rfl rfl (r_move rfl) fun ac11 hf13 => ?_)
  refine seq_one (op_val (v := .bool (decide ((N : Int) < 1))) hf13 rfl rfl rfl rfl rfl rfl (r_lss rfl rfl) fun ac12 hf14 => ?_)
  refine seq_one (op_val (v := .bool (decide ((N : Int) < 1))) hf14 rfl rfl rfl rfl rfl rfl (r_pickF rfl rfl) fun ac13 hf15 => ?_)
  refine seq_one (op_val (v := .bool (decide ((N : Int) < 1))) hf15 rfl rfl rfl rfl rfl rfl (r_move rfl) fun ac14 hf16 => ?_)
  have hf17 := hf16.know 18 (u := .bool false) rfl (congrArg Value.bool (decide_eq_false (by omega)))
  refine seq_one (op_val (v := .int .i64 (N : Int)) hf17 rfl rfl rfl rfl rfl rfl (r_move rfl) fun ac15 hf18 => ?_)
  refine seq_one (op_val (v := .bool (decide ((N : Int) > 65536))) hf18 rfl rfl rfl rfl rfl rfl (r_gtr rfl rfl) fun ac16 hf19 => ?_)
  refine seq_one (op_val (v := .bool (decide ((N : Int) > 65536))) hf19 rfl rfl rfl rfl rfl rfl (r_pickF rfl rfl) fun ac17 hf20 => ?_)
  refine seq_end ?_
  clear ac3 hf3 ac4 hf4 ac5 hf5 hf6 ac6 hf7 ac7 hf8 ac8 hf9 ac9 hf10 hf11 ac10 hf12 ac11 hf13 ac12 hf14 ac13 hf15 hf16 ac14 hf17 ac15 hf18 ac16 hf19
  refine then_normal ?_
  have hf21 := hf20.know 21 (u := .bool false) rfl (congrArg Value.bool (decide_eq_false (by omega)))
  refine code_if_false hf21 rfl ?_
  refine wp_skip ?_
  refine then_normal ?_
  refine code_seq ?_
  refine code_joinG 51 ((Nat) × (Nat) × (Nat) × (Nat)) (fun (x : (Nat) × (Nat) × (Nat) × (Nat)) => match x with | (lb, ob, mb, cb) => [(0, .int .i64 (K : Int)), (1, .int .i64 (N : Int)), (4, .pointer none), (5, .int .i64 0), (8, .int .i64 (K : Int)), (9, .bool (decide ((K : Int) < 1))), (10, .bool false), (11, .int .i64 (K : Int)), (12, .bool (decide ((K : Int) > 64))), (13, .bool (decide ((K : Int) > 64))), (14, .bool false), (15, .int .i64 (N : Int)), (16, .bool (decide ((N : Int) < 1))), (17, .bool (decide ((N : Int) < 1))), (18, .bool false), (19, .int .i64 (N : Int)), (20, .bool (decide ((N : Int) > 65536))), (21, .bool false), (6, .pointer (some ⟨cb, 0, none⟩))]) (fun (x : (Nat) × (Nat) × (Nat) × (Nat)) => match x with | (lb, ob, mb, cb) => fun w' => Inv w [(lb, arr .i64 (List.replicate (2 * (N + K)) 0), 103), (ob, arr .i64 (List.replicate N 0), 3), (mb, arr .i64 (List.replicate K 0), 3), (cb, #[.slice (some ⟨lb, 0, none⟩) (N + K) (N + K), .slice (some ⟨ob, 0, none⟩) N N, .slice (some ⟨mb, 0, none⟩) K K], 79)] w' ∧ (w.heap.size ≤ lb) ∧ (w.heap.size ≤ ob) ∧ (w.heap.size ≤ mb) ∧ (w.heap.size ≤ cb)) ?_ ?_
  ·
    refine any_start (fun w => Has [] w) follows (Has.drew Has.nil) ?_
    have hS1 : ∀ {w : World}, Has [] w := Has.nil
    have hI2 := hI1.drew
    refine any_val (i := 0) (v := .int .i64 (N : Int)) hf21 rfl rfl rfl rfl rfl rfl (fun _ _ _ h => h) (by kernel_rfl) (by kernel_rfl) (by kernel_rfl) (fun w hS1 => (r_move rfl)) hS1 fun ac18 hf22 => ?_
    refine any_val (i := 1) (v := .int .i64 (K : Int)) hf22 rfl rfl rfl rfl rfl rfl (fun _ _ _ h => h) (by kernel_rfl) (by kernel_rfl) (by kernel_rfl) (fun w hS1 => (r_move rfl)) hS1 fun ac19 hf23 => ?_
    refine any_val (i := 2) (v := .int .i64 ((N + K : Nat) : Int)) hf23 rfl rfl rfl rfl rfl rfl (fun _ _ _ h => h) (by kernel_rfl) (by kernel_rfl) (by kernel_rfl) (fun w hS1 => (r_add (c := ((N + K : Nat) : Int)) rfl rfl (wrap_i64 (by omega) (by omega)))) hS1 fun ac20 hf24 => ?_
    refine any_val (i := 4) (v := .int .i64 (N : Int)) hf24 rfl rfl rfl rfl rfl rfl (fun _ _ _ h => h) (by kernel_rfl) (by kernel_rfl) (by kernel_rfl) (fun w hS1 => (r_move rfl)) hS1 fun ac21 hf25 => ?_
    refine any_val (i := 6) (v := .int .i64 (K : Int)) hf25 rfl rfl rfl rfl rfl rfl (fun _ _ _ h => h) (by kernel_rfl) (by kernel_rfl) (by kernel_rfl) (fun w hS1 => (r_move rfl)) hS1 fun ac22 hf26 => ?_
    refine any_three (i := 3) (j := 5) (l := 7) (by kernel_rfl) ?_ ?_ ?_
    ·
      refine (op_make2 (m := N + K) hf26 rfl rfl rfl us_77 if2_103 rfl rfl (by omega) (by omega) hI2 fun ac23 b1 wd1 hb1 hI3 hf27 => ⟨?_, ?_⟩)
      · exact Has.nil
      have hI4 : Inv w [(b1, arr .i64 (List.replicate (2 * (N + K)) 0), 103)] wd1 := hI3
      have hS2 : ∀ {w : World}, Has [] w := Has.nil
      refine any_two (i := 5) (j := 7) (by kernel_rfl) ?_ ?_
      ·
        refine (op_make (m := N) hf27 rfl rfl rfl us_27 if_3 rfl rfl rfl (by omega) (by omega) hI4 fun ac24 b2 wd2 hb2 hI5 hf28 => ?_)
        rw [arr_rep] at hI5
        refine ⟨?_, ?_⟩
        · exact Has.nil
        have hI6 : Inv w [(b1, arr .i64 (List.replicate (2 * (N + K)) 0), 103), (b2, arr .i64 (List.replicate N 0), 3)] wd2 := hI5
        have hS3 : ∀ {w : World}, Has [] w := Has.nil
        refine any_one (i := 7) (by kernel_rfl) ?_
        refine (op_make (m := K) hf28 rfl rfl rfl us_27 if_3 rfl rfl rfl (by omega) (by omega) hI6 fun ac25 b3 wd3 hb3 hI7 hf29 => ?_)
        rw [arr_rep] at hI7
        refine ⟨?_, ?_⟩
        · exact Has.nil
        have hI8 : Inv w [(b1, arr .i64 (List.replicate (2 * (N + K)) 0), 103), (b2, arr .i64 (List.replicate N 0), 3), (b3, arr .i64 (List.replicate K 0), 3)] wd3 := hI7
        have hS4 : ∀ {w : World}, Has [] w := Has.nil
        refine any_val (i := 8) (v := .agg #[.slice (some ⟨b1, 0, none⟩) (N + K) (N + K), .slice (some ⟨b2, 0, none⟩) N N, .slice (some ⟨b3, 0, none⟩) K K]) hf29 rfl rfl rfl rfl rfl rfl (fun _ _ _ h => h) (by kernel_rfl) (by kernel_rfl) (by kernel_rfl) (fun wd3 hS4 => (r_build (v := .agg #[.slice (some ⟨b1, 0, none⟩) (N + K) (N + K), .slice (some ⟨b2, 0, none⟩) N N, .slice (some ⟨b3, 0, none⟩) K K]) rfl (fun _ => by kernel_rfl))) hS4 fun ac26 hf30 => ?_
        refine any_one (i := 9) (by kernel_rfl) ?_
        refine (op_box hf30 rfl rfl rfl rfl hI8 fun ac27 b4 wd4 hb4 hI9 hf31 => ⟨?_, ?_⟩)
        · exact Has.nil
        have hI10 : Inv w [(b1, arr .i64 (List.replicate (2 * (N + K)) 0), 103), (b2, arr .i64 (List.replicate N 0), 3), (b3, arr .i64 (List.replicate K 0), 3), (b4, #[.slice (some ⟨b1, 0, none⟩) (N + K) (N + K), .slice (some ⟨b2, 0, none⟩) N N, .slice (some ⟨b3, 0, none⟩) K K], 79)] wd4 := hI9
        have hS5 : ∀ {w : World}, Has [] w := Has.nil
        refine any_val (i := 10) (v := .pointer (some ⟨b4, 0, none⟩)) hf31 rfl rfl rfl rfl rfl rfl (fun _ _ _ h => h) (by kernel_rfl) (by kernel_rfl) (by kernel_rfl) (fun wd4 hS5 => (r_assign rfl)) hS5 fun ac28 hf32 => ?_
        refine any_end (by kernel_rfl) ?_
        clear hf20 hI1 ac17 hf21 ac18 hf22 ac19 hf23 ac20 hf24 ac21 hf25 ac22 hI2 hf26 hI3 hS1 ac23 wd1 hI4 hf27 hI5 hS2 ac24 wd2 hI6 hf28 hI7 hS3 ac25 hf29 ac26 wd3 hI8 hf30 hI9 hS4 ac27 hf31 hS5
        refine then_normal ?_
        exact ⟨(b1, b2, b3, b4), (hf32.cons 0 rfl (hf32.cons 1 rfl (hf32.cons 4 rfl (hf32.cons 5 rfl (hf32.cons 8 rfl (hf32.cons 9 rfl (hf32.cons 10 rfl (hf32.cons 11 rfl (hf32.cons 12 rfl (hf32.cons 13 rfl (hf32.cons 14 rfl (hf32.cons 15 rfl (hf32.cons 16 rfl (hf32.cons 17 rfl (hf32.cons 18 rfl (hf32.cons 19 rfl (hf32.cons 20 rfl (hf32.cons 21 rfl (hf32.cons 6 rfl hf32.nil))))))))))))))))))), ⟨hI10, hb1, hb2, hb3, hb4⟩⟩
      ·
        refine (op_make (m := K) hf27 rfl rfl rfl us_27 if_3 rfl rfl rfl (by omega) (by omega) hI4 fun ac29 b2 wd5 hb2 hI11 hf33 => ?_)
        rw [arr_rep] at hI11
        refine ⟨?_, ?_⟩
        · exact Has.nil
        have hI12 : Inv w [(b1, arr .i64 (List.replicate (2 * (N + K)) 0), 103), (b2, arr .i64 (List.replicate K 0), 3)] wd5 := hI11
        have hS6 : ∀ {w : World}, Has [] w := Has.nil
        refine any_one (i := 5) (by kernel_rfl) ?_
        refine (op_make (m := N) hf33 rfl rfl rfl us_27 if_3 rfl rfl rfl (by omega) (by omega) hI12 fun ac30 b3 wd6 hb3 hI13 hf34 => ?_)
        rw [arr_rep] at hI13
        refine ⟨?_, ?_⟩
        · exact Has.nil
        have hI14 : Inv w [(b1, arr .i64 (List.replicate (2 * (N + K)) 0), 103), (b2, arr .i64 (List.replicate K 0), 3), (b3, arr .i64 (List.replicate N 0), 3)] wd6 := hI13
        have hS7 : ∀ {w : World}, Has [] w := Has.nil
        refine any_val (i := 8) (v := .agg #[.slice (some ⟨b1, 0, none⟩) (N + K) (N + K), .slice (some ⟨b3, 0, none⟩) N N, .slice (some ⟨b2, 0, none⟩) K K]) hf34 rfl rfl rfl rfl rfl rfl (fun _ _ _ h => h) (by kernel_rfl) (by kernel_rfl) (by kernel_rfl) (fun wd6 hS7 => (r_build (v := .agg #[.slice (some ⟨b1, 0, none⟩) (N + K) (N + K), .slice (some ⟨b3, 0, none⟩) N N, .slice (some ⟨b2, 0, none⟩) K K]) rfl (fun _ => by kernel_rfl))) hS7 fun ac31 hf35 => ?_
        refine any_one (i := 9) (by kernel_rfl) ?_
        refine (op_box hf35 rfl rfl rfl rfl hI14 fun ac32 b4 wd7 hb4 hI15 hf36 => ⟨?_, ?_⟩)
        · exact Has.nil
        have hI16 : Inv w [(b1, arr .i64 (List.replicate (2 * (N + K)) 0), 103), (b2, arr .i64 (List.replicate K 0), 3), (b3, arr .i64 (List.replicate N 0), 3), (b4, #[.slice (some ⟨b1, 0, none⟩) (N + K) (N + K), .slice (some ⟨b3, 0, none⟩) N N, .slice (some ⟨b2, 0, none⟩) K K], 79)] wd7 := hI15
        have hS8 : ∀ {w : World}, Has [] w := Has.nil
        refine any_val (i := 10) (v := .pointer (some ⟨b4, 0, none⟩)) hf36 rfl rfl rfl rfl rfl rfl (fun _ _ _ h => h) (by kernel_rfl) (by kernel_rfl) (by kernel_rfl) (fun wd7 hS8 => (r_assign rfl)) hS8 fun ac33 hf37 => ?_
        refine any_end (by kernel_rfl) ?_
        clear hf20 hI1 ac17 hf21 ac18 hf22 ac19 hf23 ac20 hf24 ac21 hf25 ac22 hI2 hf26 hI3 hS1 ac23 wd1 hI4 hf27 hI11 hS2 ac29 wd5 hI12 hf33 hI13 hS6 ac30 hf34 ac31 wd6 hI14 hf35 hI15 hS7 ac32 hf36 hS8
        refine then_normal ?_
        have hI17 : Inv w [(b1, arr .i64 (List.replicate (2 * (N + K)) 0), 103), (b3, arr .i64 (List.replicate N 0), 3), (b2, arr .i64 (List.replicate K 0), 3), (b4, #[.slice (some ⟨b1, 0, none⟩) (N + K) (N + K), .slice (some ⟨b3, 0, none⟩) N N, .slice (some ⟨b2, 0, none⟩) K K], 79)] _ := hI16.perm (List.Perm.cons _ (List.Perm.swap _ _ _))
        clear hI16
        exact ⟨(b1, b3, b2, b4), (hf37.cons 0 rfl (hf37.cons 1 rfl (hf37.cons 4 rfl (hf37.cons 5 rfl (hf37.cons 8 rfl (hf37.cons 9 rfl (hf37.cons 10 rfl (hf37.cons 11 rfl (hf37.cons 12 rfl (hf37.cons 13 rfl (hf37.cons 14 rfl (hf37.cons 15 rfl (hf37.cons 16 rfl (hf37.cons 17 rfl (hf37.cons 18 rfl (hf37.cons 19 rfl (hf37.cons 20 rfl (hf37.cons 21 rfl (hf37.cons 6 rfl hf37.nil))))))))))))))))))), ⟨hI17, hb1, hb3, hb2, hb4⟩⟩
    ·
      refine (op_make (m := N) hf26 rfl rfl rfl us_27 if_3 rfl rfl rfl (by omega) (by omega) hI2 fun ac34 b1 wd8 hb1 hI18 hf38 => ?_)
      rw [arr_rep] at hI18
      refine ⟨?_, ?_⟩
      · exact Has.nil
      have hI19 : Inv w [(b1, arr .i64 (List.replicate N 0), 3)] wd8 := hI18
      have hS9 : ∀ {w : World}, Has [] w := Has.nil
      refine any_two (i := 3) (j := 7) (by kernel_rfl) ?_ ?_
      ·
        refine (op_make2 (m := N + K) hf38 rfl rfl rfl us_77 if2_103 rfl rfl (by omega) (by omega) hI19 fun ac35 b2 wd9 hb2 hI20 hf39 => ⟨?_, ?_⟩)
        · exact Has.nil
        have hI21 : Inv w [(b1, arr .i64 (List.replicate N 0), 3), (b2, arr .i64 (List.replicate (2 * (N + K)) 0), 103)] wd9 := hI20
        have hS10 : ∀ {w : World}, Has [] w := Has.nil
        refine any_one (i := 7) (by kernel_rfl) ?_
        refine (op_make (m := K) hf39 rfl rfl rfl us_27 if_3 rfl rfl rfl (by omega) (by omega) hI21 fun ac36 b3 wd10 hb3 hI22 hf40 => ?_)
        rw [arr_rep] at hI22
        refine ⟨?_, ?_⟩
        · exact Has.nil
        have hI23 : Inv w [(b1, arr .i64 (List.replicate N 0), 3), (b2, arr .i64 (List.replicate (2 * (N + K)) 0), 103), (b3, arr .i64 (List.replicate K 0), 3)] wd10 := hI22
        have hS11 : ∀ {w : World}, Has [] w := Has.nil
        refine any_val (i := 8) (v := .agg #[.slice (some ⟨b2, 0, none⟩) (N + K) (N + K), .slice (some ⟨b1, 0, none⟩) N N, .slice (some ⟨b3, 0, none⟩) K K]) hf40 rfl rfl rfl rfl rfl rfl (fun _ _ _ h => h) (by kernel_rfl) (by kernel_rfl) (by kernel_rfl) (fun wd10 hS11 => (r_build (v := .agg #[.slice (some ⟨b2, 0, none⟩) (N + K) (N + K), .slice (some ⟨b1, 0, none⟩) N N, .slice (some ⟨b3, 0, none⟩) K K]) rfl (fun _ => by kernel_rfl))) hS11 fun ac37 hf41 => ?_
        refine any_one (i := 9) (by kernel_rfl) ?_
        refine (op_box hf41 rfl rfl rfl rfl hI23 fun ac38 b4 wd11 hb4 hI24 hf42 => ⟨?_, ?_⟩)
        · exact Has.nil
        have hI25 : Inv w [(b1, arr .i64 (List.replicate N 0), 3), (b2, arr .i64 (List.replicate (2 * (N + K)) 0), 103), (b3, arr .i64 (List.replicate K 0), 3), (b4, #[.slice (some ⟨b2, 0, none⟩) (N + K) (N + K), .slice (some ⟨b1, 0, none⟩) N N, .slice (some ⟨b3, 0, none⟩) K K], 79)] wd11 := hI24
        have hS12 : ∀ {w : World}, Has [] w := Has.nil
        refine any_val (i := 10) (v := .pointer (some ⟨b4, 0, none⟩)) hf42 rfl rfl rfl rfl rfl rfl (fun _ _ _ h => h) (by kernel_rfl) (by kernel_rfl) (by kernel_rfl) (fun wd11 hS12 => (r_assign rfl)) hS12 fun ac39 hf43 => ?_
        refine any_end (by kernel_rfl) ?_
        clear hf20 hI1 ac17 hf21 ac18 hf22 ac19 hf23 ac20 hf24 ac21 hf25 ac22 hI2 hf26 hI18 hS1 ac34 wd8 hI19 hf38 hI20 hS9 ac35 wd9 hI21 hf39 hI22 hS10 ac36 hf40 ac37 wd10 hI23 hf41 hI24 hS11 ac38 hf42 hS12
        refine then_normal ?_
        have hI26 : Inv w [(b2, arr .i64 (List.replicate (2 * (N + K)) 0), 103), (b1, arr .i64 (List.replicate N 0), 3), (b3, arr .i64 (List.replicate K 0), 3), (b4, #[.slice (some ⟨b2, 0, none⟩) (N + K) (N + K), .slice (some ⟨b1, 0, none⟩) N N, .slice (some ⟨b3, 0, none⟩) K K], 79)] _ := hI25.perm (List.Perm.swap _ _ _)
        clear hI25
        exact ⟨(b2, b1, b3, b4), (hf43.cons 0 rfl (hf43.cons 1 rfl (hf43.cons 4 rfl (hf43.cons 5 rfl (hf43.cons 8 rfl (hf43.cons 9 rfl (hf43.cons 10 rfl (hf43.cons 11 rfl (hf43.cons 12 rfl (hf43.cons 13 rfl (hf43.cons 14 rfl (hf43.cons 15 rfl (hf43.cons 16 rfl (hf43.cons 17 rfl (hf43.cons 18 rfl (hf43.cons 19 rfl (hf43.cons 20 rfl (hf43.cons 21 rfl (hf43.cons 6 rfl hf43.nil))))))))))))))))))), ⟨hI26, hb2, hb1, hb3, hb4⟩⟩
      ·
        refine (op_make (m := K) hf38 rfl rfl rfl us_27 if_3 rfl rfl rfl (by omega) (by omega) hI19 fun ac40 b2 wd12 hb2 hI27 hf44 => ?_)
        rw [arr_rep] at hI27
        refine ⟨?_, ?_⟩
        · exact Has.nil
        have hI28 : Inv w [(b1, arr .i64 (List.replicate N 0), 3), (b2, arr .i64 (List.replicate K 0), 3)] wd12 := hI27
        have hS13 : ∀ {w : World}, Has [] w := Has.nil
        refine any_one (i := 3) (by kernel_rfl) ?_
        refine (op_make2 (m := N + K) hf44 rfl rfl rfl us_77 if2_103 rfl rfl (by omega) (by omega) hI28 fun ac41 b3 wd13 hb3 hI29 hf45 => ⟨?_, ?_⟩)
        · exact Has.nil
        have hI30 : Inv w [(b1, arr .i64 (List.replicate N 0), 3), (b2, arr .i64 (List.replicate K 0), 3), (b3, arr .i64 (List.replicate (2 * (N + K)) 0), 103)] wd13 := hI29
        have hS14 : ∀ {w : World}, Has [] w := Has.nil
        refine any_val (i := 8) (v := .agg #[.slice (some ⟨b3, 0, none⟩) (N + K) (N + K), .slice (some ⟨b1, 0, none⟩) N N, .slice (some ⟨b2, 0, none⟩) K K]) hf45 rfl rfl rfl rfl rfl rfl (fun _ _ _ h => h) (by kernel_rfl) (by kernel_rfl) (by kernel_rfl) (fun wd13 hS14 => (r_build (v := .agg #[.slice (some ⟨b3, 0, none⟩) (N + K) (N + K), .slice (some ⟨b1, 0, none⟩) N N, .slice (some ⟨b2, 0, none⟩) K K]) rfl (fun _ => by kernel_rfl))) hS14 fun ac42 hf46 => ?_
        refine any_one (i := 9) (by kernel_rfl) ?_
        refine (op_box hf46 rfl rfl rfl rfl hI30 fun ac43 b4 wd14 hb4 hI31 hf47 => ⟨?_, ?_⟩)
        · exact Has.nil
        have hI32 : Inv w [(b1, arr .i64 (List.replicate N 0), 3), (b2, arr .i64 (List.replicate K 0), 3), (b3, arr .i64 (List.replicate (2 * (N + K)) 0), 103), (b4, #[.slice (some ⟨b3, 0, none⟩) (N + K) (N + K), .slice (some ⟨b1, 0, none⟩) N N, .slice (some ⟨b2, 0, none⟩) K K], 79)] wd14 := hI31
        have hS15 : ∀ {w : World}, Has [] w := Has.nil
        refine any_val (i := 10) (v := .pointer (some ⟨b4, 0, none⟩)) hf47 rfl rfl rfl rfl rfl rfl (fun _ _ _ h => h) (by kernel_rfl) (by kernel_rfl) (by kernel_rfl) (fun wd14 hS15 => (r_assign rfl)) hS15 fun ac44 hf48 => ?_
        refine any_end (by kernel_rfl) ?_
        clear hf20 hI1 ac17 hf21 ac18 hf22 ac19 hf23 ac20 hf24 ac21 hf25 ac22 hI2 hf26 hI18 hS1 ac34 wd8 hI19 hf38 hI27 hS9 ac40 wd12 hI28 hf44 hI29 hS13 ac41 hf45 ac42 wd13 hI30 hf46 hI31 hS14 ac43 hf47 hS15
        refine then_normal ?_
        have hI33 : Inv w [(b1, arr .i64 (List.replicate N 0), 3), (b3, arr .i64 (List.replicate (2 * (N + K)) 0), 103), (b2, arr .i64 (List.replicate K 0), 3), (b4, #[.slice (some ⟨b3, 0, none⟩) (N + K) (N + K), .slice (some ⟨b1, 0, none⟩) N N, .slice (some ⟨b2, 0, none⟩) K K], 79)] _ := hI32.perm (List.Perm.cons _ (List.Perm.swap _ _ _))
        have hI34 : Inv w [(b3, arr .i64 (List.replicate (2 * (N + K)) 0), 103), (b1, arr .i64 (List.replicate N 0), 3), (b2, arr .i64 (List.replicate K 0), 3), (b4, #[.slice (some ⟨b3, 0, none⟩) (N + K) (N + K), .slice (some ⟨b1, 0, none⟩) N N, .slice (some ⟨b2, 0, none⟩) K K], 79)] _ := hI33.perm (List.Perm.swap _ _ _)
        clear hI32 hI33
        exact ⟨(b3, b1, b2, b4), (hf48.cons 0 rfl (hf48.cons 1 rfl (hf48.cons 4 rfl (hf48.cons 5 rfl (hf48.cons 8 rfl (hf48.cons 9 rfl (hf48.cons 10 rfl (hf48.cons 11 rfl (hf48.cons 12 rfl (hf48.cons 13 rfl (hf48.cons 14 rfl (hf48.cons 15 rfl (hf48.cons 16 rfl (hf48.cons 17 rfl (hf48.cons 18 rfl (hf48.cons 19 rfl (hf48.cons 20 rfl (hf48.cons 21 rfl (hf48.cons 6 rfl hf48.nil))))))))))))))))))), ⟨hI34, hb3, hb1, hb2, hb4⟩⟩
    ·
      refine (op_make (m := K) hf26 rfl rfl rfl us_27 if_3 rfl rfl rfl (by omega) (by omega) hI2 fun ac45 b1 wd15 hb1 hI35 hf49 => ?_)
      rw [arr_rep] at hI35
      refine ⟨?_, ?_⟩
      · exact Has.nil
      have hI36 : Inv w [(b1, arr .i64 (List.replicate K 0), 3)] wd15 := hI35
      have hS16 : ∀ {w : World}, Has [] w := Has.nil
      refine any_two (i := 3) (j := 5) (by kernel_rfl) ?_ ?_
      ·
        refine (op_make2 (m := N + K) hf49 rfl rfl rfl us_77 if2_103 rfl rfl (by omega) (by omega) hI36 fun ac46 b2 wd16 hb2 hI37 hf50 => ⟨?_, ?_⟩)
        · exact Has.nil
        have hI38 : Inv w [(b1, arr .i64 (List.replicate K 0), 3), (b2, arr .i64 (List.replicate (2 * (N + K)) 0), 103)] wd16 := hI37
        have hS17 : ∀ {w : World}, Has [] w := Has.nil
        refine any_one (i := 5) (by kernel_rfl) ?_
        refine (op_make (m := N) hf50 rfl rfl rfl us_27 if_3 rfl rfl rfl (by omega) (by omega) hI38 fun ac47 b3 wd17 hb3 hI39 hf51 => ?_)
        rw [arr_rep] at hI39
        refine ⟨?_, ?_⟩
        · exact Has.nil
        have hI40 : Inv w [(b1, arr .i64 (List.replicate K 0), 3), (b2, arr .i64 (List.replicate (2 * (N + K)) 0), 103), (b3, arr .i64 (List.replicate N 0), 3)] wd17 := hI39
        have hS18 : ∀ {w : World}, Has [] w := Has.nil
        refine any_val (i := 8) (v := .agg #[.slice (some ⟨b2, 0, none⟩) (N + K) (N + K), .slice (some ⟨b3, 0, none⟩) N N, .slice (some ⟨b1, 0, none⟩) K K]) hf51 rfl rfl rfl rfl rfl rfl (fun _ _ _ h => h) (by kernel_rfl) (by kernel_rfl) (by kernel_rfl) (fun wd17 hS18 => (r_build (v := .agg #[.slice (some ⟨b2, 0, none⟩) (N + K) (N + K), .slice (some ⟨b3, 0, none⟩) N N, .slice (some ⟨b1, 0, none⟩) K K]) rfl (fun _ => by kernel_rfl))) hS18 fun ac48 hf52 => ?_
        refine any_one (i := 9) (by kernel_rfl) ?_
        refine (op_box hf52 rfl rfl rfl rfl hI40 fun ac49 b4 wd18 hb4 hI41 hf53 => ⟨?_, ?_⟩)
        · exact Has.nil
        have hI42 : Inv w [(b1, arr .i64 (List.replicate K 0), 3), (b2, arr .i64 (List.replicate (2 * (N + K)) 0), 103), (b3, arr .i64 (List.replicate N 0), 3), (b4, #[.slice (some ⟨b2, 0, none⟩) (N + K) (N + K), .slice (some ⟨b3, 0, none⟩) N N, .slice (some ⟨b1, 0, none⟩) K K], 79)] wd18 := hI41
        have hS19 : ∀ {w : World}, Has [] w := Has.nil
        refine any_val (i := 10) (v := .pointer (some ⟨b4, 0, none⟩)) hf53 rfl rfl rfl rfl rfl rfl (fun _ _ _ h => h) (by kernel_rfl) (by kernel_rfl) (by kernel_rfl) (fun wd18 hS19 => (r_assign rfl)) hS19 fun ac50 hf54 => ?_
        refine any_end (by kernel_rfl) ?_
        clear hf20 hI1 ac17 hf21 ac18 hf22 ac19 hf23 ac20 hf24 ac21 hf25 ac22 hI2 hf26 hI35 hS1 ac45 wd15 hI36 hf49 hI37 hS16 ac46 wd16 hI38 hf50 hI39 hS17 ac47 hf51 ac48 wd17 hI40 hf52 hI41 hS18 ac49 hf53 hS19
        refine then_normal ?_
        have hI43 : Inv w [(b2, arr .i64 (List.replicate (2 * (N + K)) 0), 103), (b1, arr .i64 (List.replicate K 0), 3), (b3, arr .i64 (List.replicate N 0), 3), (b4, #[.slice (some ⟨b2, 0, none⟩) (N + K) (N + K), .slice (some ⟨b3, 0, none⟩) N N, .slice (some ⟨b1, 0, none⟩) K K], 79)] _ := hI42.perm (List.Perm.swap _ _ _)
        have hI44 : Inv w [(b2, arr .i64 (List.replicate (2 * (N + K)) 0), 103), (b3, arr .i64 (List.replicate N 0), 3), (b1, arr .i64 (List.replicate K 0), 3), (b4, #[.slice (some ⟨b2, 0, none⟩) (N + K) (N + K), .slice (some ⟨b3, 0, none⟩) N N, .slice (some ⟨b1, 0, none⟩) K K], 79)] _ := hI43.perm (List.Perm.cons _ (List.Perm.swap _ _ _))
        clear hI42 hI43
        exact ⟨(b2, b3, b1, b4), (hf54.cons 0 rfl (hf54.cons 1 rfl (hf54.cons 4 rfl (hf54.cons 5 rfl (hf54.cons 8 rfl (hf54.cons 9 rfl (hf54.cons 10 rfl (hf54.cons 11 rfl (hf54.cons 12 rfl (hf54.cons 13 rfl (hf54.cons 14 rfl (hf54.cons 15 rfl (hf54.cons 16 rfl (hf54.cons 17 rfl (hf54.cons 18 rfl (hf54.cons 19 rfl (hf54.cons 20 rfl (hf54.cons 21 rfl (hf54.cons 6 rfl hf54.nil))))))))))))))))))), ⟨hI44, hb2, hb3, hb1, hb4⟩⟩
      ·
        refine (op_make (m := N) hf49 rfl rfl rfl us_27 if_3 rfl rfl rfl (by omega) (by omega) hI36 fun ac51 b2 wd19 hb2 hI45 hf55 => ?_)
        rw [arr_rep] at hI45
        refine ⟨?_, ?_⟩
        · exact Has.nil
        have hI46 : Inv w [(b1, arr .i64 (List.replicate K 0), 3), (b2, arr .i64 (List.replicate N 0), 3)] wd19 := hI45
        have hS20 : ∀ {w : World}, Has [] w := Has.nil
        refine any_one (i := 3) (by kernel_rfl) ?_
        refine (op_make2 (m := N + K) hf55 rfl rfl rfl us_77 if2_103 rfl rfl (by omega) (by omega) hI46 fun ac52 b3 wd20 hb3 hI47 hf56 => ⟨?_, ?_⟩)
        · exact Has.nil
        have hI48 : Inv w [(b1, arr .i64 (List.replicate K 0), 3), (b2, arr .i64 (List.replicate N 0), 3), (b3, arr .i64 (List.replicate (2 * (N + K)) 0), 103)] wd20 := hI47
        have hS21 : ∀ {w : World}, Has [] w := Has.nil
        refine any_val (i := 8) (v := .agg #[.slice (some ⟨b3, 0, none⟩) (N + K) (N + K), .slice (some ⟨b2, 0, none⟩) N N, .slice (some ⟨b1, 0, none⟩) K K]) hf56 rfl rfl rfl rfl rfl rfl (fun _ _ _ h => h) (by kernel_rfl) (by kernel_rfl) (by kernel_rfl) (fun wd20 hS21 => (r_build (v := .agg #[.slice (some ⟨b3, 0, none⟩) (N + K) (N + K), .slice (some ⟨b2, 0, none⟩) N N, .slice (some ⟨b1, 0, none⟩) K K]) rfl (fun _ => by kernel_rfl))) hS21 fun ac53 hf57 => ?_
        refine any_one (i := 9) (by kernel_rfl) ?_
        refine (op_box hf57 rfl rfl rfl rfl hI48 fun ac54 b4 wd21 hb4 hI49 hf58 => ⟨?_, ?_⟩)
        · exact Has.nil
        have hI50 : Inv w [(b1, arr .i64 (List.replicate K 0), 3), (b2, arr .i64 (List.replicate N 0), 3), (b3, arr .i64 (List.replicate (2 * (N + K)) 0), 103), (b4, #[.slice (some ⟨b3, 0, none⟩) (N + K) (N + K), .slice (some ⟨b2, 0, none⟩) N N, .slice (some ⟨b1, 0, none⟩) K K], 79)] wd21 := hI49
        have hS22 : ∀ {w : World}, Has [] w := Has.nil
        refine any_val (i := 10) (v := .pointer (some ⟨b4, 0, none⟩)) hf58 rfl rfl rfl rfl rfl rfl (fun _ _ _ h => h) (by kernel_rfl) (by kernel_rfl) (by kernel_rfl) (fun wd21 hS22 => (r_assign rfl)) hS22 fun ac55 hf59 => ?_
        refine any_end (by kernel_rfl) ?_
        clear hf20 hI1 ac17 hf21 ac18 hf22 ac19 hf23 ac20 hf24 ac21 hf25 ac22 hI2 hf26 hI35 hS1 ac45 wd15 hI36 hf49 hI45 hS16 ac51 wd19 hI46 hf55 hI47 hS20 ac52 hf56 ac53 wd20 hI48 hf57 hI49 hS21 ac54 hf58 hS22
        refine then_normal ?_
        have hI51 : Inv w [(b1, arr .i64 (List.replicate K 0), 3), (b3, arr .i64 (List.replicate (2 * (N + K)) 0), 103), (b2, arr .i64 (List.replicate N 0), 3), (b4, #[.slice (some ⟨b3, 0, none⟩) (N + K) (N + K), .slice (some ⟨b2, 0, none⟩) N N, .slice (some ⟨b1, 0, none⟩) K K], 79)] _ := hI50.perm (List.Perm.cons _ (List.Perm.swap _ _ _))
        have hI52 : Inv w [(b3, arr .i64 (List.replicate (2 * (N + K)) 0), 103), (b1, arr .i64 (List.replicate K 0), 3), (b2, arr .i64 (List.replicate N 0), 3), (b4, #[.slice (some ⟨b3, 0, none⟩) (N + K) (N + K), .slice (some ⟨b2, 0, none⟩) N N, .slice (some ⟨b1, 0, none⟩) K K], 79)] _ := hI51.perm (List.Perm.swap _ _ _)
        have hI53 : Inv w [(b3, arr .i64 (List.replicate (2 * (N + K)) 0), 103), (b2, arr .i64 (List.replicate N 0), 3), (b1, arr .i64 (List.replicate K 0), 3), (b4, #[.slice (some ⟨b3, 0, none⟩) (N + K) (N + K), .slice (some ⟨b2, 0, none⟩) N N, .slice (some ⟨b1, 0, none⟩) K K], 79)] _ := hI52.perm (List.Perm.cons _ (List.Perm.swap _ _ _))
        clear hI50 hI51 hI52
        exact ⟨(b3, b2, b1, b4), (hf59.cons 0 rfl (hf59.cons 1 rfl (hf59.cons 4 rfl (hf59.cons 5 rfl (hf59.cons 8 rfl (hf59.cons 9 rfl (hf59.cons 10 rfl (hf59.cons 11 rfl (hf59.cons 12 rfl (hf59.cons 13 rfl (hf59.cons 14 rfl (hf59.cons 15 rfl (hf59.cons 16 rfl (hf59.cons 17 rfl (hf59.cons 18 rfl (hf59.cons 19 rfl (hf59.cons 20 rfl (hf59.cons 21 rfl (hf59.cons 6 rfl hf59.nil))))))))))))))))))), ⟨hI53, hb3, hb2, hb1, hb4⟩⟩
  ·
    intro ⟨lb, ob, mb, cb⟩ ac56 wd22 hf60 ⟨hI54, hlb, hob, hmb, hcb⟩
    clear hf20 ac17 hf21 hI1
    refine then_normal ?_
    refine code_seq ?_
    refine code_seq ?_
    refine seq_start (l := [0, 1, 2, 3, 4, 5]) rfl ?_
    refine seq_one (op_val (v := .pointer (some ⟨cb, 0, none⟩)) hf60 rfl rfl rfl rfl rfl rfl (r_move rfl) fun ac57 hf61 => ?_)
    refine seq_one (op_val (v := .pointer (some ⟨cb, 0, none⟩)) hf61 rfl rfl rfl rfl rfl rfl (r_nilCheck rfl) fun ac58 hf62 => ?_)
    refine seq_one (op_val (v := .pointer (some ⟨cb, 0, none⟩)) hf62 rfl rfl rfl rfl rfl rfl (r_fieldAddr fi_79_0 rfl rfl) fun ac59 hf63 => ?_)
    refine seq_one (op_val (v := .slice (some ⟨lb, 0, none⟩) (N + K) (N + K)) hf63 rfl rfl rfl rfl rfl rfl (r_load ag_77 rfl (hI54.at 3 rfl) rfl) fun ac60 hf64 => ?_)
    refine seq_one (op_val (v := .int .i64 (((N + K) : Nat) : Int)) hf64 rfl rfl rfl rfl rfl rfl (r_len sl_77 rfl) fun ac61 hf65 => ?_)
    refine seq_one (op_val (v := .int .i64 0) hf65 rfl rfl rfl rfl rfl rfl (r_move rfl) fun ac62 hf66 => ?_)
    refine seq_end ?_
    clear ac56 hf60 ac57 hf61 ac58 hf62 ac59 hf63 ac60 hf64 ac61 hf65
    refine then_normal ?_
    refine wp_block ?_
    rw [lkU_0] at hI54
    refine code_loop (α := Nat) (fun (i : Nat) => [(0, .int .i64 (K : Int)), (1, .int .i64 (N : Int)), (4, .pointer none), (5, .int .i64 0), (6, .pointer (some ⟨cb, 0, none⟩)), (8, .int .i64 (K : Int)), (9, .bool (decide ((K : Int) < 1))), (10, .bool false), (11, .int .i64 (K : Int)), (12, .bool (decide ((K : Int) > 64))), (13, .bool (decide ((K : Int) > 64))), (14, .bool false), (15, .int .i64 (N : Int)), (16, .bool (decide ((N : Int) < 1))), (17, .bool (decide ((N : Int) < 1))), (18, .bool false), (19, .int .i64 (N : Int)), (20, .bool (decide ((N : Int) > 65536))), (21, .bool false), (32, .pointer (some ⟨cb, 0, none⟩)), (33, .pointer (some ⟨cb, 0, none⟩)), (34, .pointer (some ⟨cb, 0, none⟩)), (35, .slice (some ⟨lb, 0, none⟩) (N + K) (N + K)), (36, .int .i64 (((N + K) : Nat) : Int)), (37, .int .i64 (i : Int))]) (fun (i : Nat) => fun wL => Inv w [(lb, arr .i64 (lkU (N + K) i), 103), (ob, arr .i64 (List.replicate N 0), 3), (mb, arr .i64 (List.replicate K 0), 3), (cb, #[.slice (some ⟨lb, 0, none⟩) (N + K) (N + K), .slice (some ⟨ob, 0, none⟩) N N, .slice (some ⟨mb, 0, none⟩) K K], 79)] wL ∧ (i ≤ N + K)) (fun (i : Nat) => (N + K) - i) 0 (hf66.cons 0 rfl (hf66.cons 1 rfl (hf66.cons 4 rfl (hf66.cons 5 rfl (hf66.cons 6 rfl (hf66.cons 8 rfl (hf66.cons 9 rfl (hf66.cons 10 rfl (hf66.cons 11 rfl (hf66.cons 12 rfl (hf66.cons 13 rfl (hf66.cons 14 rfl (hf66.cons 15 rfl (hf66.cons 16 rfl (hf66.cons 17 rfl (hf66.cons 18 rfl (hf66.cons 19 rfl (hf66.cons 20 rfl (hf66.cons 21 rfl (hf66.cons 32 rfl (hf66.cons 33 rfl (hf66.cons 34 rfl (hf66.cons 35 rfl (hf66.cons 36 rfl (hf66.cons 37 rfl hf66.nil))))))))))))))))))))))))) ⟨hI54, Nat.zero_le _⟩ ?_
    intro i ac63 wd23 hf67 hL1
    obtain ⟨hI55, hx1⟩ := hL1
    clear ac62 wd22 hf66 hI54
    refine code_seq ?_
    refine seq_start (l := [0]) rfl ?_
    refine seq_one (op_val (v := .bool (decide ((i : Int) < (((N + K) : Nat) : Int)))) hf67 rfl rfl rfl rfl rfl rfl (r_lss rfl rfl) fun ac64 hf68 => ?_)
    refine seq_end ?_
    clear ac63 hf67
    refine then_normal ?_
    refine code_seq ?_
    refine code_if hf68 rfl (fun c38_1 => ?_) (fun c38_1 => ?_)
    · have hf69 := hf68.know 38 (u := .bool true) rfl (congrArg Value.bool c38_1)
      refine wp_skip ?_
      refine then_normal ?_
      refine code_seq ?_
      refine wp_block ?_
      refine code_seq ?_
      refine seq_start (l := [0, 1]) rfl ?_
      refine seq_one (op_val (v := .int .i64 (i : Int)) hf69 rfl rfl rfl rfl rfl rfl (r_move rfl) fun ac65 hf70 => ?_)
      refine seq_one (op_val (v := .int .i64 (i : Int)) hf70 rfl rfl rfl rfl rfl rfl (r_assign rfl) fun ac66 hf71 => ?_)
      refine seq_end ?_
      clear hf68 ac64 hf69 ac65 hf70
      refine then_normal ?_
      refine seq_start (l := [0, 1, 2, 3, 4, 5, 6, 7, 8, 9]) rfl ?_
      refine seq_one (op_val (v := .pointer (some ⟨cb, 0, none⟩)) hf71 rfl rfl rfl rfl rfl rfl (r_move rfl) fun ac67 hf72 => ?_)
      refine seq_one (op_val (v := .pointer (some ⟨cb, 0, none⟩)) hf72 rfl rfl rfl rfl rfl rfl (r_nilCheck rfl) fun ac68 hf73 => ?_)
      refine seq_one (op_val (v := .pointer (some ⟨cb, 0, none⟩)) hf73 rfl rfl rfl rfl rfl rfl (r_fieldAddr fi_79_0 rfl rfl) fun ac69 hf74 => ?_)
      refine seq_one (op_val (v := .slice (some ⟨lb, 0, none⟩) (N + K) (N + K)) hf74 rfl rfl rfl rfl rfl rfl (r_load ag_77 rfl (hI55.at 3 rfl) rfl) fun ac70 hf75 => ?_)
      refine seq_one (op_val (v := .int .i64 (i : Int)) hf75 rfl rfl rfl rfl rfl rfl (r_move rfl) fun ac71 hf76 => ?_)
      refine seq_one (op_val (v := .int .i64 (i : Int)) hf76 rfl rfl rfl rfl rfl rfl (r_move rfl) fun ac72 hf77 => ?_)
      refine seq_one (op_val (v := .int .i64 (i : Int)) hf77 rfl rfl rfl rfl rfl rfl (r_move rfl) fun ac73 hf78 => ?_)
      refine seq_one (op_val (v := .agg #[.int .i64 (i : Int), .int .i64 (i : Int)]) hf78 rfl rfl rfl rfl rfl rfl (r_build (v := .agg #[.int .i64 (i : Int), .int .i64 (i : Int)]) rfl (fun _ => by kernel_rfl)) fun ac74 hf79 => ?_)
      refine seq_one (op_val (v := .pointer (some ⟨lb, 2 * i, none⟩)) hf79 rfl rfl rfl rfl rfl rfl (r_indexAddrS (i := i) sl_77 rfl rfl rfl (by have := of_decide_eq_true c38_1; omega) (by rw [Nat.zero_add, Nat.mul_comm])) fun ac75 hf80 => ?_)
      refine seq_one (op_storeN (cells := #[.int .i64 (i : Int), .int .i64 (i : Int)]) (cs' := arr .i64 (((lkU (N + K) i).set (2 * i) (i : Int)).set (2 * i + 1) (i : Int))) 0 hf80 rfl rfl rfl rfl rfl sz_103 rfl rfl hI55 rfl (Nat.le_of_lt_succ (Nat.succ_lt_succ (Nat.lt_of_lt_of_eq (by have := (show i < (N + K) from (by have := of_decide_eq_true c38_1; omega)); omega) (Eq.symm (arr_size lkU_len))))) spl2 fun wd24 hI56 => ?_)
      have hI57 : Inv w [(lb, arr .i64 (((lkU (N + K) i).set (2 * i) (i : Int)).set (2 * i + 1) (i : Int)), 103), (ob, arr .i64 (List.replicate N 0), 3), (mb, arr .i64 (List.replicate K 0), 3), (cb, #[.slice (some ⟨lb, 0, none⟩) (N + K) (N + K), .slice (some ⟨ob, 0, none⟩) N N, .slice (some ⟨mb, 0, none⟩) K K], 79)] wd24 := hI56
      refine seq_end ?_
      clear ac66 hf71 ac67 hf72 ac68 hf73 ac69 hf74 ac70 hf75 ac71 hf76 ac72 hf77 ac73 hf78 ac74 hf79 wd23 hI55 hI56
      refine block_normal ?_
      refine then_normal ?_
      refine seq_start (l := [0, 1]) rfl ?_
      refine seq_one (op_val (v := .int .i64 ((i + 1 : Nat) : Int)) hf80 rfl rfl rfl rfl rfl rfl (r_add (c := ((i + 1 : Nat) : Int)) rfl rfl (wrap_i64 (by omega) (by omega))) fun ac76 hf81 => ?_)
      refine seq_one (op_val (v := .int .i64 ((i + 1 : Nat) : Int)) hf81 rfl rfl rfl rfl rfl rfl (r_move rfl) fun ac77 hf82 => ?_)
      refine seq_end ?_
      clear ac75 hf80 ac76 hf81
      refine then_normal ?_
      rw [show ((lkU (N + K) i).set (2 * i) (i : Int)).set (2 * i + 1) (i : Int) = lkU (N + K) (i + 1) from lkU_s (by have := of_decide_eq_true c38_1; omega)] at hI57
      exact ⟨i + 1, (hf82.cons 0 rfl (hf82.cons 1 rfl (hf82.cons 4 rfl (hf82.cons 5 rfl (hf82.cons 6 rfl (hf82.cons 8 rfl (hf82.cons 9 rfl (hf82.cons 10 rfl (hf82.cons 11 rfl (hf82.cons 12 rfl (hf82.cons 13 rfl (hf82.cons 14 rfl (hf82.cons 15 rfl (hf82.cons 16 rfl (hf82.cons 17 rfl (hf82.cons 18 rfl (hf82.cons 19 rfl (hf82.cons 20 rfl (hf82.cons 21 rfl (hf82.cons 32 rfl (hf82.cons 33 rfl (hf82.cons 34 rfl (hf82.cons 35 rfl (hf82.cons 36 rfl (hf82.cons 37 rfl hf82.nil))))))))))))))))))))))))), ⟨hI57, (by have := of_decide_eq_true c38_1; omega)⟩, (by have := of_decide_eq_true c38_1; show (N + K) - (i + 1) < (N + K) - i; omega)⟩
    · have hf83 := hf68.know 38 (u := .bool false) rfl (congrArg Value.bool c38_1)
      refine wp_exit ?_
      refine then_exit ?_
      refine then_exit ?_
      refine block_here ?_
      refine then_normal ?_
      refine code_seq ?_
      refine seq_start (l := [0, 1, 2]) rfl ?_
      refine seq_one (op_val (v := .pointer (some ⟨cb, 0, none⟩)) hf83 rfl rfl rfl rfl rfl rfl (r_move rfl) fun ac78 hf84 => ?_)
      refine seq_one (op_val (v := .pointer (some ⟨cb, 0, none⟩)) hf84 rfl rfl rfl rfl rfl rfl (r_assign rfl) fun ac79 hf85 => ?_)
      refine seq_one (op_val (v := .int .i64 0) hf85 rfl rfl rfl rfl rfl rfl (r_assign rfl) fun ac80 hf86 => ?_)
      refine seq_end ?_
      clear hf68 ac64 hf83 ac78 hf84 ac79 hf85
      refine then_normal ?_
      refine wp_ret ?_
      obtain rfl : i = N + K := by have := of_decide_eq_false c38_1; omega
      exact post2 rfl hf86 rfl rfl ⟨lb, ob, mb, cb, hlb, hob, hmb, hcb, rfl, hI55⟩
set_option maxHeartbeats 8000000 in
theorem new_bad {k n : Int} (h : k < 1 ∨ k > 64 ∨ n < 1 ∨ n > 65536) : Pur Try.prog 34 [.int .i64 k, .int .i64 n] (.tuple #[.pointer none, .int .i64 2]) := by
  intro w
  have hI1 := Inv.start w
  refine enter (n := 51) Try.func34 rfl rfl rfl ?_
  intro ac1 hf1
  refine code_seq ?_
  refine seq_start (l := [0, 1]) rfl ?_
  refine seq_one (op_val (v := .pointer none) hf1 rfl rfl rfl rfl rfl rfl (r_assign rfl) fun ac2 hf2 => ?_)
  refine seq_one (op_val (v := .int .i64 0) hf2 rfl rfl rfl rfl rfl rfl (r_assign rfl) fun ac3 hf3 => ?_)
  refine seq_end ?_
  clear ac1 hf1 ac2 hf2
  refine then_normal ?_
  refine code_seq ?_
  refine code_seq ?_
  refine seq_start (l := [0, 1, 2, 3, 4, 5, 6, 7, 8, 9, 10, 11, 12, 13]) rfl ?_
  refine seq_one (op_val (v := .int .i64 k) hf3 rfl rfl rfl rfl rfl rfl (r_move rfl) fun ac4 hf4 => ?_)
  refine seq_one (op_val (v := .bool (decide (k < 1))) hf4 rfl rfl rfl rfl rfl rfl (r_lss rfl rfl) fun ac5 hf5 => ?_)
  refine seq_one (op_val (v := .bool (decide (k < 1))) hf5 rfl rfl rfl rfl rfl rfl (r_move rfl) fun ac6 hf6 => ?_)
  rcases Bool.eq_false_or_eq_true (decide (k < 1) : Bool) with g10_1 | g10_1
  · have hf7 := hf6.know 10 (u := .bool true) rfl (congrArg Value.bool g10_1)
    refine seq_one (op_skip hf7 rfl rfl rfl rfl fun ac7 hf8 => ?_)
    refine seq_one (op_skip hf8 rfl rfl rfl rfl fun ac8 hf9 => ?_)
    refine seq_one (op_val (v := .bool true) hf9 rfl rfl rfl rfl rfl rfl (r_pickT rfl rfl) fun ac9 hf10 => ?_)
    refine seq_one (op_val (v := .bool true) hf10 rfl rfl rfl rfl rfl rfl (r_move rfl) fun ac10 hf11 => ?_)
    refine seq_one (op_skip hf11 rfl rfl rfl rfl fun ac11 hf12 => ?_)
    refine seq_one (op_skip hf12 rfl rfl rfl rfl fun ac12 hf13 => ?_)
    refine seq_one (op_val (v := .bool true) hf13 rfl rfl rfl rfl rfl rfl (r_pickT rfl rfl) fun ac13 hf14 => ?_)
    refine seq_one (op_val (v := .bool true) hf14 rfl rfl rfl rfl rfl rfl (r_move rfl) fun ac14 hf15 => ?_)
    refine seq_one (op_skip hf15 rfl rfl rfl rfl fun ac15 hf16 => ?_)
    refine seq_one (op_skip hf16 rfl rfl rfl rfl fun ac16 hf17 => ?_)
    refine seq_one (op_val (v := .bool true) hf17 rfl rfl rfl rfl rfl rfl (r_pickT rfl rfl) fun ac17 hf18 => ?_)
    refine seq_end ?_
    clear ac3 hf3 ac4 hf4 ac5 hf5 hf6 ac6 hf7 ac7 hf8 ac8 hf9 ac9 hf10 ac10 hf11 ac11 hf12 ac12 hf13 ac13 hf14 ac14 hf15 ac15 hf16 ac16 hf17
    refine then_normal ?_
    refine code_if_true hf18 rfl ?_
    refine code_seq ?_
    refine seq_start (l := [0, 1]) rfl ?_
    refine seq_one (op_val (v := .pointer none) hf18 rfl rfl rfl rfl rfl rfl (r_assign rfl) fun ac18 hf19 => ?_)
    refine seq_one (op_val (v := .int .i64 2) hf19 rfl rfl rfl rfl rfl rfl (r_assign rfl) fun ac19 hf20 => ?_)
    refine seq_end ?_
    clear ac17 hf18 ac18 hf19
    refine then_normal ?_
    refine wp_ret ?_
    refine then_ret ?_
    refine post2 rfl hf20 rfl rfl ⟨?_, hI1.done (fresh_keys (ks := []) rfl fk_nil)⟩
    rfl
  · have hf21 := hf6.know 10 (u := .bool false) rfl (congrArg Value.bool g10_1)
    refine seq_one (op_val (v := .int .i64 k) hf21 rfl rfl rfl rfl rfl rfl (r_move rfl) fun ac20 hf22 => ?_)
    refine seq_one (op_val (v := .bool (decide (k > 64))) hf22 rfl rfl rfl rfl rfl rfl (r_gtr rfl rfl) fun ac21 hf23 => ?_)
    refine seq_one (op_val (v := .bool (decide (k > 64))) hf23 rfl rfl rfl rfl rfl rfl (r_pickF rfl rfl) fun ac22 hf24 => ?_)
    refine seq_one (op_val (v := .bool (decide (k > 64))) hf24 rfl rfl rfl rfl rfl rfl (r_move rfl) fun ac23 hf25 => ?_)
    rcases Bool.eq_false_or_eq_true (decide (k > 64) : Bool) with g14_2 | g14_2
    · have hf26 := hf25.know 14 (u := .bool true) rfl (congrArg Value.bool g14_2)
      refine seq_one (op_skip hf26 rfl rfl rfl rfl fun ac24 hf27 => ?_)
      refine seq_one (op_skip hf27 rfl rfl rfl rfl fun ac25 hf28 => ?_)
      refine seq_one (op_val (v := .bool true) hf28 rfl rfl rfl rfl rfl rfl (r_pickT rfl rfl) fun ac26 hf29 => ?_)
      refine seq_one (op_val (v := .bool true) hf29 rfl rfl rfl rfl rfl rfl (r_move rfl) fun ac27 hf30 => ?_)
      refine seq_one (op_skip hf30 rfl rfl rfl rfl fun ac28 hf31 => ?_)
      refine seq_one (op_skip hf31 rfl rfl rfl rfl fun ac29 hf32 => ?_)
      refine seq_one (op_val (v := .bool true) hf32 rfl rfl rfl rfl rfl rfl (r_pickT rfl rfl) fun ac30 hf33 => ?_)
      refine seq_end ?_
      clear ac3 hf3 ac4 hf4 ac5 hf5 hf6 ac6 hf21 ac20 hf22 ac21 hf23 ac22 hf24 hf25 ac23 hf26 ac24 hf27 ac25 hf28 ac26 hf29 ac27 hf30 ac28 hf31 ac29 hf32
      refine then_normal ?_
      refine code_if_true hf33 rfl ?_
      refine code_seq ?_
      refine seq_start (l := [0, 1]) rfl ?_
      refine seq_one (op_val (v := .pointer none) hf33 rfl rfl rfl rfl rfl rfl (r_assign rfl) fun ac31 hf34 => ?_)
      refine seq_one (op_val (v := .int .i64 2) hf34 rfl rfl rfl rfl rfl rfl (r_assign rfl) fun ac32 hf35 => ?_)
      refine seq_end ?_
      clear ac30 hf33 ac31 hf34
      refine then_normal ?_
      refine wp_ret ?_
      refine then_ret ?_
      refine post2 rfl hf35 rfl rfl ⟨?_, hI1.done (fresh_keys (ks := []) rfl fk_nil)⟩
      rfl
    · have hf36 := hf25.know 14 (u := .bool false) rfl (congrArg Value.bool g14_2)
      refine seq_one (op_val (v := .int .i64 n) hf36 rfl rfl rfl rfl rfl rfl (r_move rfl) fun ac33 hf37 => ?_)
      refine seq_one (op_val (v := .bool (decide (n < 1))) hf37 rfl rfl rfl rfl rfl rfl (r_lss rfl rfl) fun ac34 hf38 => ?_)
      refine seq_one (op_val (v := .bool (decide (n < 1))) hf38 rfl rfl rfl rfl rfl rfl (r_pickF rfl rfl) fun ac35 hf39 => ?_)
      refine seq_one (op_val (v := .bool (decide (n < 1))) hf39 rfl rfl rfl rfl rfl rfl (r_move rfl) fun ac36 hf40 => ?_)
      rcases Bool.eq_false_or_eq_true (decide (n < 1) : Bool) with g18_3 | g18_3
      · have hf41 := hf40.know 18 (u := .bool true) rfl (congrArg Value.bool g18_3)
        refine seq_one (op_skip hf41 rfl rfl rfl rfl fun ac37 hf42 => ?_)
        refine seq_one (op_skip hf42 rfl rfl rfl rfl fun ac38 hf43 => ?_)
        refine seq_one (op_val (v := .bool true) hf43 rfl rfl rfl rfl rfl rfl (r_pickT rfl rfl) fun ac39 hf44 => ?_)
        refine seq_end ?_
        clear ac3 hf3 ac4 hf4 ac5 hf5 hf6 ac6 hf21 ac20 hf22 ac21 hf23 ac22 hf24 hf25 ac23 hf36 ac33 hf37 ac34 hf38 ac35 hf39 hf40 ac36 hf41 ac37 hf42 ac38 hf43
        refine then_normal ?_
        refine code_if_true hf44 rfl ?_
        refine code_seq ?_
        refine seq_start (l := [0, 1]) rfl ?_
        refine seq_one (op_val (v := .pointer none) hf44 rfl rfl rfl rfl rfl rfl (r_assign rfl) fun ac40 hf45 => ?_)
        refine seq_one (op_val (v := .int .i64 2) hf45 rfl rfl rfl rfl rfl rfl (r_assign rfl) fun ac41 hf46 => ?_)
        refine seq_end ?_
        clear ac39 hf44 ac40 hf45
        refine then_normal ?_
        refine wp_ret ?_
        refine then_ret ?_
        refine post2 rfl hf46 rfl rfl ⟨?_, hI1.done (fresh_keys (ks := []) rfl fk_nil)⟩
        rfl
      · have hf47 := hf40.know 18 (u := .bool false) rfl (congrArg Value.bool g18_3)
        refine seq_one (op_val (v := .int .i64 n) hf47 rfl rfl rfl rfl rfl rfl (r_move rfl) fun ac42 hf48 => ?_)
        refine seq_one (op_val (v := .bool (decide (n > 65536))) hf48 rfl rfl rfl rfl rfl rfl (r_gtr rfl rfl) fun ac43 hf49 => ?_)
        refine seq_one (op_val (v := .bool (decide (n > 65536))) hf49 rfl rfl rfl rfl rfl rfl (r_pickF rfl rfl) fun ac44 hf50 => ?_)
        refine seq_end ?_
        clear ac3 hf3 ac4 hf4 ac5 hf5 hf6 ac6 hf21 ac20 hf22 ac21 hf23 ac22 hf24 hf25 ac23 hf36 ac33 hf37 ac34 hf38 ac35 hf39 hf40 ac36 hf47 ac42 hf48 ac43 hf49
        refine then_normal ?_
        have hf51 := hf50.know 21 (u := .bool true) rfl (congrArg Value.bool (decide_eq_true (by simp only [decide_eq_true_eq, decide_eq_false_iff_not] at g10_1 g14_2 g18_3; omega)))
        refine code_if_true hf51 rfl ?_
        refine code_seq ?_
        refine seq_start (l := [0, 1]) rfl ?_
        refine seq_one (op_val (v := .pointer none) hf51 rfl rfl rfl rfl rfl rfl (r_assign rfl) fun ac45 hf52 => ?_)
        refine seq_one (op_val (v := .int .i64 2) hf52 rfl rfl rfl rfl rfl rfl (r_assign rfl) fun ac46 hf53 => ?_)
        refine seq_end ?_
        clear hf50 ac44 hf51 ac45 hf52
        refine then_normal ?_
        refine wp_ret ?_
        refine then_ret ?_
        refine post2 rfl hf53 rfl rfl ⟨?_, hI1.done (fresh_keys (ks := []) rfl fk_nil)⟩
        rfl
set_option maxHeartbeats 8000000 in
theorem ring_nil (l : Int) : Pur Try.prog 56 [.pointer none, .int .i64 l] (.tuple #[.int .i64 0, .bool false]) := by
  intro w
  have hI1 := Inv.start w
  refine enter (n := 28) Try.func56 rfl rfl rfl ?_
  intro ac1 hf1
  refine code_seq ?_
  refine seq_start (l := [0, 1]) rfl ?_
  refine seq_one (op_val (v := .int .i64 0) hf1 rfl rfl rfl rfl rfl rfl (r_assign rfl) fun ac2 hf2 => ?_)
  refine seq_one (op_val (v := .bool false) hf2 rfl rfl rfl rfl rfl rfl (r_assign rfl) fun ac3 hf3 => ?_)
  refine seq_end ?_
  clear ac1 hf1 ac2 hf2
  refine then_normal ?_
  refine code_seq ?_
  refine code_seq ?_
  refine seq_start (l := [0, 1, 2, 3, 4, 5, 6, 7, 8, 9, 10, 11, 12, 13, 14]) rfl ?_
  refine seq_one (op_val (v := .pointer none) hf3 rfl rfl rfl rfl rfl rfl (r_move rfl) fun ac4 hf4 => ?_)
  refine seq_one (op_val (v := .bool true) hf4 rfl rfl rfl rfl rfl rfl (r_eqNil up_41 rfl rfl rfl) fun ac5 hf5 => ?_)
  refine seq_one (op_val (v := .bool true) hf5 rfl rfl rfl rfl rfl rfl (r_move rfl) fun ac6 hf6 => ?_)
  refine seq_one (op_skip hf6 rfl rfl rfl rfl fun ac7 hf7 => ?_)
  refine seq_one (op_skip hf7 rfl rfl rfl rfl fun ac8 hf8 => ?_)
  refine seq_one (op_val (v := .bool true) hf8 rfl rfl rfl rfl rfl rfl (r_pickT rfl rfl) fun ac9 hf9 => ?_)
  refine seq_one (op_val (v := .bool true) hf9 rfl rfl rfl rfl rfl rfl (r_move rfl) fun ac10 hf10 => ?_)
  refine seq_one (op_skip hf10 rfl rfl rfl rfl fun ac11 hf11 => ?_)
  refine seq_one (op_skip hf11 rfl rfl rfl rfl fun ac12 hf12 => ?_)
  refine seq_one (op_skip hf12 rfl rfl rfl rfl fun ac13 hf13 => ?_)
  refine seq_one (op_skip hf13 rfl rfl rfl rfl fun ac14 hf14 => ?_)
  refine seq_one (op_skip hf14 rfl rfl rfl rfl fun ac15 hf15 => ?_)
  refine seq_one (op_skip hf15 rfl rfl rfl rfl fun ac16 hf16 => ?_)
  refine seq_one (op_skip hf16 rfl rfl rfl rfl fun ac17 hf17 => ?_)
  refine seq_one (op_val (v := .bool true) hf17 rfl rfl rfl rfl rfl rfl (r_pickT rfl rfl) fun ac18 hf18 => ?_)
  refine seq_end ?_
  clear ac3 hf3 ac4 hf4 ac5 hf5 ac6 hf6 ac7 hf7 ac8 hf8 ac9 hf9 ac10 hf10 ac11 hf11 ac12 hf12 ac13 hf13 ac14 hf14 ac15 hf15 ac16 hf16 ac17 hf17
  refine then_normal ?_
  refine code_if_true hf18 rfl ?_
  refine code_seq ?_
  refine seq_start (l := [0, 1]) rfl ?_
  refine seq_one (op_val (v := .int .i64 0) hf18 rfl rfl rfl rfl rfl rfl (r_assign rfl) fun ac19 hf19 => ?_)
  refine seq_one (op_val (v := .bool false) hf19 rfl rfl rfl rfl rfl rfl (r_assign rfl) fun ac20 hf20 => ?_)
  refine seq_end ?_
  clear ac18 hf18 ac19 hf19
  refine then_normal ?_
  refine wp_ret ?_
  refine then_ret ?_
  refine post2 rfl hf20 rfl rfl ⟨?_, hI1.done (fresh_keys (ks := []) rfl fk_nil)⟩
  rfl
set_option maxHeartbeats 8000000 in
theorem ring_zero (l : Int) (zb : Nat) (w : World) (h0_ : Has [(zb, #[.slice none 0 0, .slice none 0 0, .slice none 0 0], 79)] w) : Calls Try.prog 56 [.pointer (some ⟨zb, 0, none⟩), .int .i64 l].toArray w fun e w' => e = .returned (.tuple #[.int .i64 0, .bool false]) ∧ Inv w [] w' := by
  have hI1 := Inv.startS h0_ (List.pairwise_singleton _ _)
  refine enter (n := 28) Try.func56 rfl rfl rfl ?_
  intro ac1 hf1
  refine code_seq ?_
  refine seq_start (l := [0, 1]) rfl ?_
  refine seq_one (op_val (v := .int .i64 0) hf1 rfl rfl rfl rfl rfl rfl (r_assign rfl) fun ac2 hf2 => ?_)
  refine seq_one (op_val (v := .bool false) hf2 rfl rfl rfl rfl rfl rfl (r_assign rfl) fun ac3 hf3 => ?_)
  refine seq_end ?_
  clear ac1 hf1 ac2 hf2
  refine then_normal ?_
  refine code_seq ?_
  refine code_seq ?_
  refine seq_start (l := [0, 1, 2, 3, 4, 5, 6, 7, 8, 9, 10, 11, 12, 13, 14]) rfl ?_
  refine seq_one (op_val (v := .pointer (some ⟨zb, 0, none⟩)) hf3 rfl rfl rfl rfl rfl rfl (r_move rfl) fun ac4 hf4 => ?_)
  refine seq_one (op_val (v := .bool false) hf4 rfl rfl rfl rfl rfl rfl (r_eqNil up_41 rfl rfl rfl) fun ac5 hf5 => ?_)
  refine seq_one (op_val (v := .bool false) hf5 rfl rfl rfl rfl rfl rfl (r_move rfl) fun ac6 hf6 => ?_)
  refine seq_one (op_val (v := .int .i64 l) hf6 rfl rfl rfl rfl rfl rfl (r_move rfl) fun ac7 hf7 => ?_)
  refine seq_one (op_val (v := .bool (decide (l < 0))) hf7 rfl rfl rfl rfl rfl rfl (r_lss rfl rfl) fun ac8 hf8 => ?_)
  refine seq_one (op_val (v := .bool (decide (l < 0))) hf8 rfl rfl rfl rfl rfl rfl (r_pickF rfl rfl) fun ac9 hf9 => ?_)
  refine seq_one (op_val (v := .bool (decide (l < 0))) hf9 rfl rfl rfl rfl rfl rfl (r_move rfl) fun ac10 hf10 => ?_)
  rcases Bool.eq_false_or_eq_true (decide (l < 0) : Bool) with g12_1 | g12_1
  · have hf11 := hf10.know 12 (u := .bool true) rfl (congrArg Value.bool g12_1)
    refine seq_one (op_skip hf11 rfl rfl rfl rfl fun ac11 hf12 => ?_)
    refine seq_one (op_skip hf12 rfl rfl rfl rfl fun ac12 hf13 => ?_)
    refine seq_one (op_skip hf13 rfl rfl rfl rfl fun ac13 hf14 => ?_)
    refine seq_one (op_skip hf14 rfl rfl rfl rfl fun ac14 hf15 => ?_)
    refine seq_one (op_skip hf15 rfl rfl rfl rfl fun ac15 hf16 => ?_)
    refine seq_one (op_skip hf16 rfl rfl rfl rfl fun ac16 hf17 => ?_)
    refine seq_one (op_skip hf17 rfl rfl rfl rfl fun ac17 hf18 => ?_)
    refine seq_one (op_val (v := .bool true) hf18 rfl rfl rfl rfl rfl rfl (r_pickT rfl rfl) fun ac18 hf19 => ?_)
    refine seq_end ?_
    clear ac3 hf3 ac4 hf4 ac5 hf5 ac6 hf6 ac7 hf7 ac8 hf8 ac9 hf9 hf10 ac10 hf11 ac11 hf12 ac12 hf13 ac13 hf14 ac14 hf15 ac15 hf16 ac16 hf17 ac17 hf18
    refine then_normal ?_
    refine code_if_true hf19 rfl ?_
    refine code_seq ?_
    refine seq_start (l := [0, 1]) rfl ?_
    refine seq_one (op_val (v := .int .i64 0) hf19 rfl rfl rfl rfl rfl rfl (r_assign rfl) fun ac19 hf20 => ?_)
    refine seq_one (op_val (v := .bool false) hf20 rfl rfl rfl rfl rfl rfl (r_assign rfl) fun ac20 hf21 => ?_)
    refine seq_end ?_
    clear ac18 hf19 ac19 hf20
    refine then_normal ?_
    refine wp_ret ?_
    refine then_ret ?_
    exact post2 rfl hf21 rfl rfl ⟨rfl, (hI1).unread h0_⟩
  · have hf22 := hf10.know 12 (u := .bool false) rfl (congrArg Value.bool g12_1)
    refine seq_one (op_val (v := .int .i64 l) hf22 rfl rfl rfl rfl rfl rfl (r_move rfl) fun ac21 hf23 => ?_)
    refine seq_one (op_val (v := .pointer (some ⟨zb, 0, none⟩)) hf23 rfl rfl rfl rfl rfl rfl (r_move rfl) fun ac22 hf24 => ?_)
    refine seq_one (op_val (v := .pointer (some ⟨zb, 0, none⟩)) hf24 rfl rfl rfl rfl rfl rfl (r_nilCheck rfl) fun ac23 hf25 => ?_)
    refine seq_one (op_val (v := .pointer (some ⟨zb, 2, none⟩)) hf25 rfl rfl rfl rfl rfl rfl (r_fieldAddr fi_79_2 rfl rfl) fun ac24 hf26 => ?_)
    refine seq_one (op_val (v := .slice none 0 0) hf26 rfl rfl rfl rfl rfl rfl (r_load ag_27 rfl (hI1.at 0 rfl) rfl) fun ac25 hf27 => ?_)
    refine seq_one (op_val (v := .int .i64 0) hf27 rfl rfl rfl rfl rfl rfl (r_len sl_27 rfl) fun ac26 hf28 => ?_)
    refine seq_one (op_val (v := .bool (decide (l ≥ 0))) hf28 rfl rfl rfl rfl rfl rfl (r_geq rfl rfl) fun ac27 hf29 => ?_)
    refine seq_one (op_val (v := .bool (decide (l ≥ 0))) hf29 rfl rfl rfl rfl rfl rfl (r_pickF rfl rfl) fun ac28 hf30 => ?_)
    refine seq_end ?_
    clear ac3 hf3 ac4 hf4 ac5 hf5 ac6 hf6 ac7 hf7 ac8 hf8 ac9 hf9 hf10 ac10 hf22 ac21 hf23 ac22 hf24 ac23 hf25 ac24 hf26 ac25 hf27 ac26 hf28 ac27 hf29
    refine then_normal ?_
    have hf31 := hf30.know 20 (u := .bool true) rfl (congrArg Value.bool (decide_eq_true (by have := of_decide_eq_false g12_1; omega)))
    refine code_if_true hf31 rfl ?_
    refine code_seq ?_
    refine seq_start (l := [0, 1]) rfl ?_
    refine seq_one (op_val (v := .int .i64 0) hf31 rfl rfl rfl rfl rfl rfl (r_assign rfl) fun ac29 hf32 => ?_)
    refine seq_one (op_val (v := .bool false) hf32 rfl rfl rfl rfl rfl rfl (r_assign rfl) fun ac30 hf33 => ?_)
    refine seq_end ?_
    clear hf30 ac28 hf31 ac29 hf32
    refine then_normal ?_
    refine wp_ret ?_
    refine then_ret ?_
    exact post2 rfl hf33 rfl rfl ⟨rfl, (hI1).unread h0_⟩
set_option maxHeartbeats 8000000 in
theorem node_nil (n : Int) : Pur Try.prog 57 [.pointer none, .int .i64 n] (.bool false) := by
  intro w
  have hI1 := Inv.start w
  refine enter (n := 20) Try.func57 rfl rfl rfl ?_
  intro ac1 hf1
  refine code_seq ?_
  refine seq_start (l := [0]) rfl ?_
  refine seq_one (op_val (v := .bool false) hf1 rfl rfl rfl rfl rfl rfl (r_assign rfl) fun ac2 hf2 => ?_)
  refine seq_end ?_
  clear ac1 hf1
  refine then_normal ?_
  refine code_seq ?_
  refine seq_start (l := [0, 1, 2, 3, 4, 5, 6, 7, 8, 9, 10, 11, 12, 13, 14, 15]) rfl ?_
  refine seq_one (op_val (v := .pointer none) hf2 rfl rfl rfl rfl rfl rfl (r_move rfl) fun ac3 hf3 => ?_)
  refine seq_one (op_val (v := .bool false) hf3 rfl rfl rfl rfl rfl rfl (r_neNil up_41 rfl rfl rfl) fun ac4 hf4 => ?_)
  refine seq_one (op_val (v := .bool false) hf4 rfl rfl rfl rfl rfl rfl (r_move rfl) fun ac5 hf5 => ?_)
  refine seq_one (op_skip hf5 rfl rfl rfl rfl fun ac6 hf6 => ?_)
  refine seq_one (op_skip hf6 rfl rfl rfl rfl fun ac7 hf7 => ?_)
  refine seq_one (op_val (v := .bool false) hf7 rfl rfl rfl rfl rfl rfl (r_pickF rfl rfl) fun ac8 hf8 => ?_)
  refine seq_one (op_val (v := .bool false) hf8 rfl rfl rfl rfl rfl rfl (r_move rfl) fun ac9 hf9 => ?_)
  refine seq_one (op_skip hf9 rfl rfl rfl rfl fun ac10 hf10 => ?_)
  refine seq_one (op_skip hf10 rfl rfl rfl rfl fun ac11 hf11 => ?_)
  refine seq_one (op_skip hf11 rfl rfl rfl rfl fun ac12 hf12 => ?_)
  refine seq_one (op_skip hf12 rfl rfl rfl rfl fun ac13 hf13 => ?_)
  refine seq_one (op_skip hf13 rfl rfl rfl rfl fun ac14 hf14 => ?_)
  refine seq_one (op_skip hf14 rfl rfl rfl rfl fun ac15 hf15 => ?_)
  refine seq_one (op_skip hf15 rfl rfl rfl rfl fun ac16 hf16 => ?_)
  refine seq_one (op_val (v := .bool false) hf16 rfl rfl rfl rfl rfl rfl (r_pickF rfl rfl) fun ac17 hf17 => ?_)
  refine seq_one (op_val (v := .bool false) hf17 rfl rfl rfl rfl rfl rfl (r_assign rfl) fun ac18 hf18 => ?_)
  refine seq_end ?_
  clear ac2 hf2 ac3 hf3 ac4 hf4 ac5 hf5 ac6 hf6 ac7 hf7 ac8 hf8 ac9 hf9 ac10 hf10 ac11 hf11 ac12 hf12 ac13 hf13 ac14 hf14 ac15 hf15 ac16 hf16 ac17 hf17
  refine then_normal ?_
  refine wp_ret ?_
  refine post1 rfl hf18 rfl ⟨?_, hI1.done (fresh_keys (ks := []) rfl fk_nil)⟩
  rfl
set_option maxHeartbeats 8000000 in
theorem node_zero (n : Int) (zb : Nat) (w : World) (h0_ : Has [(zb, #[.slice none 0 0, .slice none 0 0, .slice none 0 0], 79)] w) : Calls Try.prog 57 [.pointer (some ⟨zb, 0, none⟩), .int .i64 n].toArray w fun e w' => e = .returned (.bool false) ∧ Inv w [] w' := by
  have hI1 := Inv.startS h0_ (List.pairwise_singleton _ _)
  refine enter (n := 20) Try.func57 rfl rfl rfl ?_
  intro ac1 hf1
  refine code_seq ?_
  refine seq_start (l := [0]) rfl ?_
  refine seq_one (op_val (v := .bool false) hf1 rfl rfl rfl rfl rfl rfl (r_assign rfl) fun ac2 hf2 => ?_)
  refine seq_end ?_
  clear ac1 hf1
  refine then_normal ?_
  refine code_seq ?_
  refine seq_start (l := [0, 1, 2, 3, 4, 5, 6, 7, 8, 9, 10, 11, 12, 13, 14, 15]) rfl ?_
  refine seq_one (op_val (v := .pointer (some ⟨zb, 0, none⟩)) hf2 rfl rfl rfl rfl rfl rfl (r_move rfl) fun ac3 hf3 => ?_)
  refine seq_one (op_val (v := .bool true) hf3 rfl rfl rfl rfl rfl rfl (r_neNil up_41 rfl rfl rfl) fun ac4 hf4 => ?_)
  refine seq_one (op_val (v := .bool true) hf4 rfl rfl rfl rfl rfl rfl (r_move rfl) fun ac5 hf5 => ?_)
  refine seq_one (op_val (v := .int .i64 n) hf5 rfl rfl rfl rfl rfl rfl (r_move rfl) fun ac6 hf6 => ?_)
  refine seq_one (op_val (v := .bool (decide (n ≥ 0))) hf6 rfl rfl rfl rfl rfl rfl (r_geq rfl rfl) fun ac7 hf7 => ?_)
  refine seq_one (op_val (v := .bool (decide (n ≥ 0))) hf7 rfl rfl rfl rfl rfl rfl (r_pickT rfl rfl) fun ac8 hf8 => ?_)
  refine seq_one (op_val (v := .bool (decide (n ≥ 0))) hf8 rfl rfl rfl rfl rfl rfl (r_move rfl) fun ac9 hf9 => ?_)
  rcases Bool.eq_false_or_eq_true (decide (n ≥ 0) : Bool) with g11_1 | g11_1
  · have hf10 := hf9.know 11 (u := .bool true) rfl (congrArg Value.bool g11_1)
    refine seq_one (op_val (v := .int .i64 n) hf10 rfl rfl rfl rfl rfl rfl (r_move rfl) fun ac10 hf11 => ?_)
    refine seq_one (op_val (v := .pointer (some ⟨zb, 0, none⟩)) hf11 rfl rfl rfl rfl rfl rfl (r_move rfl) fun ac11 hf12 => ?_)
    refine seq_one (op_val (v := .pointer (some ⟨zb, 0, none⟩)) hf12 rfl rfl rfl rfl rfl rfl (r_nilCheck rfl) fun ac12 hf13 => ?_)
    refine seq_one (op_val (v := .pointer (some ⟨zb, 1, none⟩)) hf13 rfl rfl rfl rfl rfl rfl (r_fieldAddr fi_79_1 rfl rfl) fun ac13 hf14 => ?_)
    refine seq_one (op_val (v := .slice none 0 0) hf14 rfl rfl rfl rfl rfl rfl (r_load ag_27 rfl (hI1.at 0 rfl) rfl) fun ac14 hf15 => ?_)
    refine seq_one (op_val (v := .int .i64 0) hf15 rfl rfl rfl rfl rfl rfl (r_len sl_27 rfl) fun ac15 hf16 => ?_)
    refine seq_one (op_val (v := .bool (decide (n < 0))) hf16 rfl rfl rfl rfl rfl rfl (r_lss rfl rfl) fun ac16 hf17 => ?_)
    refine seq_one (op_val (v := .bool (decide (n < 0))) hf17 rfl rfl rfl rfl rfl rfl (r_pickT rfl rfl) fun ac17 hf18 => ?_)
    refine seq_one (op_val (v := .bool (decide (n < 0))) hf18 rfl rfl rfl rfl rfl rfl (r_assign rfl) fun ac18 hf19 => ?_)
    refine seq_end ?_
    clear ac2 hf2 ac3 hf3 ac4 hf4 ac5 hf5 ac6 hf6 ac7 hf7 ac8 hf8 hf9 ac9 hf10 ac10 hf11 ac11 hf12 ac12 hf13 ac13 hf14 ac14 hf15 ac15 hf16 ac16 hf17 ac17 hf18
    refine then_normal ?_
    refine wp_ret ?_
    exact post1 rfl hf19 rfl ⟨(by rw [decide_eq_false (by have := of_decide_eq_true g11_1; omega)]), (hI1).unread h0_⟩
  · have hf20 := hf9.know 11 (u := .bool false) rfl (congrArg Value.bool g11_1)
    refine seq_one (op_skip hf20 rfl rfl rfl rfl fun ac19 hf21 => ?_)
    refine seq_one (op_skip hf21 rfl rfl rfl rfl fun ac20 hf22 => ?_)
    refine seq_one (op_skip hf22 rfl rfl rfl rfl fun ac21 hf23 => ?_)
    refine seq_one (op_skip hf23 rfl rfl rfl rfl fun ac22 hf24 => ?_)
    refine seq_one (op_skip hf24 rfl rfl rfl rfl fun ac23 hf25 => ?_)
    refine seq_one (op_skip hf25 rfl rfl rfl rfl fun ac24 hf26 => ?_)
    refine seq_one (op_skip hf26 rfl rfl rfl rfl fun ac25 hf27 => ?_)
    refine seq_one (op_val (v := .bool false) hf27 rfl rfl rfl rfl rfl rfl (r_pickF rfl rfl) fun ac26 hf28 => ?_)
    refine seq_one (op_val (v := .bool false) hf28 rfl rfl rfl rfl rfl rfl (r_assign rfl) fun ac27 hf29 => ?_)
    refine seq_end ?_
    clear ac2 hf2 ac3 hf3 ac4 hf4 ac5 hf5 ac6 hf6 ac7 hf7 ac8 hf8 hf9 ac9 hf20 ac19 hf21 ac20 hf22 ac21 hf23 ac22 hf24 ac23 hf25 ac24 hf26 ac25 hf27 ac26 hf28
    refine then_normal ?_
    refine wp_ret ?_
    exact post1 rfl hf29 rfl ⟨rfl, (hI1).unread h0_⟩
set_option maxHeartbeats 8000000 in
theorem first_nil (l : Int) : Pur Try.prog 40 [.pointer none, .int .i64 l] (.tuple #[.int .i64 0, .bool false]) := by
  intro w
  have hI1 := Inv.start w
  refine enter (n := 34) Try.func40 rfl rfl rfl ?_
  intro ac1 hf1
  refine code_seq ?_
  refine seq_start (l := [0, 1]) rfl ?_
  refine seq_one (op_val (v := .int .i64 0) hf1 rfl rfl rfl rfl rfl rfl (r_assign rfl) fun ac2 hf2 => ?_)
  refine seq_one (op_val (v := .bool false) hf2 rfl rfl rfl rfl rfl rfl (r_assign rfl) fun ac3 hf3 => ?_)
  refine seq_end ?_
  clear ac1 hf1 ac2 hf2
  refine then_normal ?_
  refine code_seq ?_
  refine seq_start (l := [0, 1, 2, 3, 4, 5, 6, 7]) rfl ?_
  refine seq_one (op_val (v := .pointer none) hf3 rfl rfl rfl rfl rfl rfl (r_move rfl) fun ac4 hf4 => ?_)
  refine seq_one (op_val (v := .int .i64 l) hf4 rfl rfl rfl rfl rfl rfl (r_move rfl) fun ac5 hf5 => ?_)
  refine seq_one (op_pure hf5 rfl rfl rfl rfl ca_56 (ring_nil l) hI1 fun ac6 wd1 hI2 hf6 => ?_)
  refine seq_one (op_val (v := .tuple #[.int .i64 0, .bool false]) hf6 rfl rfl rfl rfl rfl rfl (r_move rfl) fun ac7 hf7 => ?_)
  refine seq_one (op_val (v := .int .i64 0) hf7 rfl rfl rfl rfl rfl rfl (r_extract rfl rfl) fun ac8 hf8 => ?_)
  refine seq_one (op_val (v := .bool false) hf8 rfl rfl rfl rfl rfl rfl (r_extract rfl rfl) fun ac9 hf9 => ?_)
  refine seq_one (op_val (v := .int .i64 0) hf9 rfl rfl rfl rfl rfl rfl (r_assign rfl) fun ac10 hf10 => ?_)
  refine seq_one (op_val (v := .bool false) hf10 rfl rfl rfl rfl rfl rfl (r_assign rfl) fun ac11 hf11 => ?_)
  refine seq_end ?_
  clear ac3 hf3 ac4 hf4 ac5 hI1 hf5 ac6 hf6 ac7 hf7 ac8 hf8 ac9 hf9 ac10 hf10
  refine then_normal ?_
  refine code_seq ?_
  refine code_seq ?_
  refine seq_start (l := [0, 1, 2, 3, 4, 5, 6, 7, 8, 9, 10, 11]) rfl ?_
  refine seq_one (op_val (v := .bool false) hf11 rfl rfl rfl rfl rfl rfl (r_move rfl) fun ac12 hf12 => ?_)
  refine seq_one (op_val (v := .bool true) hf12 rfl rfl rfl rfl rfl rfl ((r_not (b := false) rfl).trans rfl) fun ac13 hf13 => ?_)
  refine seq_one (op_val (v := .bool true) hf13 rfl rfl rfl rfl rfl rfl (r_move rfl) fun ac14 hf14 => ?_)
  refine seq_one (op_skip hf14 rfl rfl rfl rfl fun ac15 hf15 => ?_)
  refine seq_one (op_skip hf15 rfl rfl rfl rfl fun ac16 hf16 => ?_)
  refine seq_one (op_skip hf16 rfl rfl rfl rfl fun ac17 hf17 => ?_)
  refine seq_one (op_skip hf17 rfl rfl rfl rfl fun ac18 hf18 => ?_)
  refine seq_one (op_skip hf18 rfl rfl rfl rfl fun ac19 hf19 => ?_)
  refine seq_one (op_skip hf19 rfl rfl rfl rfl fun ac20 hf20 => ?_)
  refine seq_one (op_skip hf20 rfl rfl rfl rfl fun ac21 hf21 => ?_)
  refine seq_one (op_skip hf21 rfl rfl rfl rfl fun ac22 hf22 => ?_)
  refine seq_one (op_val (v := .bool true) hf22 rfl rfl rfl rfl rfl rfl (r_pickT rfl rfl) fun ac23 hf23 => ?_)
  refine seq_end ?_
  clear ac11 hf11 ac12 hf12 ac13 hf13 ac14 hf14 ac15 hf15 ac16 hf16 ac17 hf17 ac18 hf18 ac19 hf19 ac20 hf20 ac21 hf21 ac22 hf22
  refine then_normal ?_
  refine code_if_true hf23 rfl ?_
  refine code_seq ?_
  refine seq_start (l := [0, 1]) rfl ?_
  refine seq_one (op_val (v := .int .i64 0) hf23 rfl rfl rfl rfl rfl rfl (r_assign rfl) fun ac24 hf24 => ?_)
  refine seq_one (op_val (v := .bool false) hf24 rfl rfl rfl rfl rfl rfl (r_assign rfl) fun ac25 hf25 => ?_)
  refine seq_end ?_
  clear ac23 hf23 ac24 hf24
  refine then_normal ?_
  refine wp_ret ?_
  refine then_ret ?_
  refine post2 rfl hf25 rfl rfl ⟨?_, hI2.done (fresh_keys (ks := []) rfl fk_nil)⟩
  rfl
set_option maxHeartbeats 8000000 in
theorem first_zero (l : Int) (zb : Nat) (w : World) (h0_ : Has [(zb, #[.slice none 0 0, .slice none 0 0, .slice none 0 0], 79)] w) : Calls Try.prog 40 [.pointer (some ⟨zb, 0, none⟩), .int .i64 l].toArray w fun e w' => e = .returned (.tuple #[.int .i64 0, .bool false]) ∧ Inv w [] w' := by
  have hI1 := Inv.startS h0_ (List.pairwise_singleton _ _)
  refine enter (n := 34) Try.func40 rfl rfl rfl ?_
  intro ac1 hf1
  refine code_seq ?_
  refine seq_start (l := [0, 1]) rfl ?_
  refine seq_one (op_val (v := .int .i64 0) hf1 rfl rfl rfl rfl rfl rfl (r_assign rfl) fun ac2 hf2 => ?_)
  refine seq_one (op_val (v := .bool false) hf2 rfl rfl rfl rfl rfl rfl (r_assign rfl) fun ac3 hf3 => ?_)
  refine seq_end ?_
  clear ac1 hf1 ac2 hf2
  refine then_normal ?_
  refine code_seq ?_
  refine seq_start (l := [0, 1, 2, 3, 4, 5, 6, 7]) rfl ?_
  refine seq_one (op_val (v := .pointer (some ⟨zb, 0, none⟩)) hf3 rfl rfl rfl rfl rfl rfl (r_move rfl) fun ac4 hf4 => ?_)
  refine seq_one (op_val (v := .int .i64 l) hf4 rfl rfl rfl rfl rfl rfl (r_move rfl) fun ac5 hf5 => ?_)
  refine seq_one (op_pureW hf5 rfl rfl rfl rfl ca_56 (ring_zero l zb _ (Has.cons (hI1.at 0 rfl) Has.nil)) hI1 fun ac6 wd1 hI2 hf6 => ?_)
  refine seq_one (op_val (v := .tuple #[.int .i64 0, .bool false]) hf6 rfl rfl rfl rfl rfl rfl (r_move rfl) fun ac7 hf7 => ?_)
  refine seq_one (op_val (v := .int .i64 0) hf7 rfl rfl rfl rfl rfl rfl (r_extract rfl rfl) fun ac8 hf8 => ?_)
  refine seq_one (op_val (v := .bool false) hf8 rfl rfl rfl rfl rfl rfl (r_extract rfl rfl) fun ac9 hf9 => ?_)
  refine seq_one (op_val (v := .int .i64 0) hf9 rfl rfl rfl rfl rfl rfl (r_assign rfl) fun ac10 hf10 => ?_)
  refine seq_one (op_val (v := .bool false) hf10 rfl rfl rfl rfl rfl rfl (r_assign rfl) fun ac11 hf11 => ?_)
  refine seq_end ?_
  clear ac3 hf3 ac4 hf4 ac5 hI1 hf5 ac6 hf6 ac7 hf7 ac8 hf8 ac9 hf9 ac10 hf10
  refine then_normal ?_
  refine code_seq ?_
  refine code_seq ?_
  refine seq_start (l := [0, 1, 2, 3, 4, 5, 6, 7, 8, 9, 10, 11]) rfl ?_
  refine seq_one (op_val (v := .bool false) hf11 rfl rfl rfl rfl rfl rfl (r_move rfl) fun ac12 hf12 => ?_)
  refine seq_one (op_val (v := .bool true) hf12 rfl rfl rfl rfl rfl rfl ((r_not (b := false) rfl).trans rfl) fun ac13 hf13 => ?_)
  refine seq_one (op_val (v := .bool true) hf13 rfl rfl rfl rfl rfl rfl (r_move rfl) fun ac14 hf14 => ?_)
  refine seq_one (op_skip hf14 rfl rfl rfl rfl fun ac15 hf15 => ?_)
  refine seq_one (op_skip hf15 rfl rfl rfl rfl fun ac16 hf16 => ?_)
  refine seq_one (op_skip hf16 rfl rfl rfl rfl fun ac17 hf17 => ?_)
  refine seq_one (op_skip hf17 rfl rfl rfl rfl fun ac18 hf18 => ?_)
  refine seq_one (op_skip hf18 rfl rfl rfl rfl fun ac19 hf19 => ?_)
  refine seq_one (op_skip hf19 rfl rfl rfl rfl fun ac20 hf20 => ?_)
  refine seq_one (op_skip hf20 rfl rfl rfl rfl fun ac21 hf21 => ?_)
  refine seq_one (op_skip hf21 rfl rfl rfl rfl fun ac22 hf22 => ?_)
  refine seq_one (op_val (v := .bool true) hf22 rfl rfl rfl rfl rfl rfl (r_pickT rfl rfl) fun ac23 hf23 => ?_)
  refine seq_end ?_
  clear ac11 hf11 ac12 hf12 ac13 hf13 ac14 hf14 ac15 hf15 ac16 hf16 ac17 hf17 ac18 hf18 ac19 hf19 ac20 hf20 ac21 hf21 ac22 hf22
  refine then_normal ?_
  refine code_if_true hf23 rfl ?_
  refine code_seq ?_
  refine seq_start (l := [0, 1]) rfl ?_
  refine seq_one (op_val (v := .int .i64 0) hf23 rfl rfl rfl rfl rfl rfl (r_assign rfl) fun ac24 hf24 => ?_)
  refine seq_one (op_val (v := .bool false) hf24 rfl rfl rfl rfl rfl rfl (r_assign rfl) fun ac25 hf25 => ?_)
  refine seq_end ?_
  clear ac23 hf23 ac24 hf24
  refine then_normal ?_
  refine wp_ret ?_
  refine then_ret ?_
  exact post2 rfl hf25 rfl rfl ⟨rfl, (hI2).unread h0_⟩
set_option maxHeartbeats 8000000 in
theorem in_nil (n : Int) : Pur Try.prog 29 [.pointer none, .int .i64 n] (.tuple #[.int .i64 0, .bool false]) := by
  intro w
  have hI1 := Inv.start w
  refine enter (n := 28) Try.func29 rfl rfl rfl ?_
  intro ac1 hf1
  refine code_seq ?_
  refine seq_start (l := [0, 1]) rfl ?_
  refine seq_one (op_val (v := .int .i64 0) hf1 rfl rfl rfl rfl rfl rfl (r_assign rfl) fun ac2 hf2 => ?_)
  refine seq_one (op_val (v := .bool false) hf2 rfl rfl rfl rfl rfl rfl (r_assign rfl) fun ac3 hf3 => ?_)
  refine seq_end ?_
  clear ac1 hf1 ac2 hf2
  refine then_normal ?_
  refine code_seq ?_
  refine code_seq ?_
  refine seq_start (l := [0, 1, 2, 3, 4, 5, 6, 7, 8, 9, 10, 11, 12, 13]) rfl ?_
  refine seq_one (op_val (v := .pointer none) hf3 rfl rfl rfl rfl rfl rfl (r_move rfl) fun ac4 hf4 => ?_)
  refine seq_one (op_val (v := .int .i64 n) hf4 rfl rfl rfl rfl rfl rfl (r_move rfl) fun ac5 hf5 => ?_)
  refine seq_one (op_pure hf5 rfl rfl rfl rfl ca_57 (node_nil n) hI1 fun ac6 wd1 hI2 hf6 => ?_)
  refine seq_one (op_val (v := .bool true) hf6 rfl rfl rfl rfl rfl rfl ((r_not (b := false) rfl).trans rfl) fun ac7 hf7 => ?_)
  refine seq_one (op_val (v := .bool true) hf7 rfl rfl rfl rfl rfl rfl (r_move rfl) fun ac8 hf8 => ?_)
  refine seq_one (op_skip hf8 rfl rfl rfl rfl fun ac9 hf9 => ?_)
  refine seq_one (op_skip hf9 rfl rfl rfl rfl fun ac10 hf10 => ?_)
  refine seq_one (op_skip hf10 rfl rfl rfl rfl fun ac11 hf11 => ?_)
  refine seq_one (op_skip hf11 rfl rfl rfl rfl fun ac12 hf12 => ?_)
  refine seq_one (op_skip hf12 rfl rfl rfl rfl fun ac13 hf13 => ?_)
  refine seq_one (op_skip hf13 rfl rfl rfl rfl fun ac14 hf14 => ?_)
  refine seq_one (op_skip hf14 rfl rfl rfl rfl fun ac15 hf15 => ?_)
  refine seq_one (op_skip hf15 rfl rfl rfl rfl fun ac16 hf16 => ?_)
  refine seq_one (op_val (v := .bool true) hf16 rfl rfl rfl rfl rfl rfl (r_pickT rfl rfl) fun ac17 hf17 => ?_)
  refine seq_end ?_
  clear ac3 hf3 ac4 hf4 ac5 hI1 hf5 ac6 hf6 ac7 hf7 ac8 hf8 ac9 hf9 ac10 hf10 ac11 hf11 ac12 hf12 ac13 hf13 ac14 hf14 ac15 hf15 ac16 hf16
  refine then_normal ?_
  refine code_if_true hf17 rfl ?_
  refine code_seq ?_
  refine seq_start (l := [0, 1]) rfl ?_
  refine seq_one (op_val (v := .int .i64 0) hf17 rfl rfl rfl rfl rfl rfl (r_assign rfl) fun ac18 hf18 => ?_)
  refine seq_one (op_val (v := .bool false) hf18 rfl rfl rfl rfl rfl rfl (r_assign rfl) fun ac19 hf19 => ?_)
  refine seq_end ?_
  clear ac17 hf17 ac18 hf18
  refine then_normal ?_
  refine wp_ret ?_
  refine then_ret ?_
  refine post2 rfl hf19 rfl rfl ⟨?_, hI2.done (fresh_keys (ks := []) rfl fk_nil)⟩
  rfl
set_option maxHeartbeats 8000000 in
theorem in_zero (n : Int) (zb : Nat) (w : World) (h0_ : Has [(zb, #[.slice none 0 0, .slice none 0 0, .slice none 0 0], 79)] w) : Calls Try.prog 29 [.pointer (some ⟨zb, 0, none⟩), .int .i64 n].toArray w fun e w' => e = .returned (.tuple #[.int .i64 0, .bool false]) ∧ Inv w [] w' := by
  have hI1 := Inv.startS h0_ (List.pairwise_singleton _ _)
  refine enter (n := 28) Try.func29 rfl rfl rfl ?_
  intro ac1 hf1
  refine code_seq ?_
  refine seq_start (l := [0, 1]) rfl ?_
  refine seq_one (op_val (v := .int .i64 0) hf1 rfl rfl rfl rfl rfl rfl (r_assign rfl) fun ac2 hf2 => ?_)
  refine seq_one (op_val (v := .bool false) hf2 rfl rfl rfl rfl rfl rfl (r_assign rfl) fun ac3 hf3 => ?_)
  refine seq_end ?_
  clear ac1 hf1 ac2 hf2
  refine then_normal ?_
  refine code_seq ?_
  refine code_seq ?_
  refine seq_start (l := [0, 1, 2, 3, 4, 5, 6, 7, 8, 9, 10, 11, 12, 13]) rfl ?_
  refine seq_one (op_val (v := .pointer (some ⟨zb, 0, none⟩)) hf3 rfl rfl rfl rfl rfl rfl (r_move rfl) fun ac4 hf4 => ?_)
  refine seq_one (op_val (v := .int .i64 n) hf4 rfl rfl rfl rfl rfl rfl (r_move rfl) fun ac5 hf5 => ?_)
  refine seq_one (op_pureW hf5 rfl rfl rfl rfl ca_57 (node_zero n zb _ (Has.cons (hI1.at 0 rfl) Has.nil)) hI1 fun ac6 wd1 hI2 hf6 => ?_)
  refine seq_one (op_val (v := .bool true) hf6 rfl rfl rfl rfl rfl rfl ((r_not (b := false) rfl).trans rfl) fun ac7 hf7 => ?_)
  refine seq_one (op_val (v := .bool true) hf7 rfl rfl rfl rfl rfl rfl (r_move rfl) fun ac8 hf8 => ?_)
  refine seq_one (op_skip hf8 rfl rfl rfl rfl fun ac9 hf9 => ?_)
  refine seq_one (op_skip hf9 rfl rfl rfl rfl fun ac10 hf10 => ?_)
  refine seq_one (op_skip hf10 rfl rfl rfl rfl fun ac11 hf11 => ?_)
  refine seq_one (op_skip hf11 rfl rfl rfl rfl fun ac12 hf12 => ?_)
  refine seq_one (op_skip hf12 rfl rfl rfl rfl fun ac13 hf13 => ?_)
  refine seq_one (op_skip hf13 rfl rfl rfl rfl fun ac14 hf14 => ?_)
  refine seq_one (op_skip hf14 rfl rfl rfl rfl fun ac15 hf15 => ?_)
  refine seq_one (op_skip hf15 rfl rfl rfl rfl fun ac16 hf16 => ?_)
  refine seq_one (op_val (v := .bool true) hf16 rfl rfl rfl rfl rfl rfl (r_pickT rfl rfl) fun ac17 hf17 => ?_)
  refine seq_end ?_
  clear ac3 hf3 ac4 hf4 ac5 hI1 hf5 ac6 hf6 ac7 hf7 ac8 hf8 ac9 hf9 ac10 hf10 ac11 hf11 ac12 hf12 ac13 hf13 ac14 hf14 ac15 hf15 ac16 hf16
  refine then_normal ?_
  refine code_if_true hf17 rfl ?_
  refine code_seq ?_
  refine seq_start (l := [0, 1]) rfl ?_
  refine seq_one (op_val (v := .int .i64 0) hf17 rfl rfl rfl rfl rfl rfl (r_assign rfl) fun ac18 hf18 => ?_)
  refine seq_one (op_val (v := .bool false) hf18 rfl rfl rfl rfl rfl rfl (r_assign rfl) fun ac19 hf19 => ?_)
  refine seq_end ?_
  clear ac17 hf17 ac18 hf18
  refine then_normal ?_
  refine wp_ret ?_
  refine then_ret ?_
  exact post2 rfl hf19 rfl rfl ⟨rfl, (hI2).unread h0_⟩
set_option maxHeartbeats 8000000 in
theorem push_nil (l n : Int) : Pur Try.prog 30 [.pointer none, .int .i64 l, .int .i64 n] (.int .i64 1) := by
  intro w
  have hI1 := Inv.start w
  refine enter (n := 76) Try.func30 rfl rfl rfl ?_
  intro ac1 hf1
  refine code_seq ?_
  refine seq_start (l := [0]) rfl ?_
  refine seq_one (op_val (v := .int .i64 0) hf1 rfl rfl rfl rfl rfl rfl (r_assign rfl) fun ac2 hf2 => ?_)
  refine seq_end ?_
  clear ac1 hf1
  refine then_normal ?_
  refine code_seq ?_
  refine code_seq ?_
  refine seq_start (l := [0, 1, 2, 3, 4, 5, 6, 7, 8]) rfl ?_
  refine seq_one (op_val (v := .pointer none) hf2 rfl rfl rfl rfl rfl rfl (r_move rfl) fun ac3 hf3 => ?_)
  refine seq_one (op_val (v := .bool true) hf3 rfl rfl rfl rfl rfl rfl (r_eqNil up_41 rfl rfl rfl) fun ac4 hf4 => ?_)
  refine seq_one (op_val (v := .bool true) hf4 rfl rfl rfl rfl rfl rfl (r_move rfl) fun ac5 hf5 => ?_)
  refine seq_one (op_skip hf5 rfl rfl rfl rfl fun ac6 hf6 => ?_)
  refine seq_one (op_skip hf6 rfl rfl rfl rfl fun ac7 hf7 => ?_)
  refine seq_one (op_skip hf7 rfl rfl rfl rfl fun ac8 hf8 => ?_)
  refine seq_one (op_skip hf8 rfl rfl rfl rfl fun ac9 hf9 => ?_)
  refine seq_one (op_skip hf9 rfl rfl rfl rfl fun ac10 hf10 => ?_)
  refine seq_one (op_val (v := .bool true) hf10 rfl rfl rfl rfl rfl rfl (r_pickT rfl rfl) fun ac11 hf11 => ?_)
  refine seq_end ?_
  clear ac2 hf2 ac3 hf3 ac4 hf4 ac5 hf5 ac6 hf6 ac7 hf7 ac8 hf8 ac9 hf9 ac10 hf10
  refine then_normal ?_
  refine code_if_true hf11 rfl ?_
  refine code_seq ?_
  refine seq_start (l := [0]) rfl ?_
  refine seq_one (op_val (v := .int .i64 1) hf11 rfl rfl rfl rfl rfl rfl (r_assign rfl) fun ac12 hf12 => ?_)
  refine seq_end ?_
  clear ac11 hf11
  refine then_normal ?_
  refine wp_ret ?_
  refine then_ret ?_
  refine post1 rfl hf12 rfl ⟨?_, hI1.done (fresh_keys (ks := []) rfl fk_nil)⟩
  rfl
set_option maxHeartbeats 8000000 in
theorem push_zero (l n : Int) (zb : Nat) (w : World) (h0_ : Has [(zb, #[.slice none 0 0, .slice none 0 0, .slice none 0 0], 79)] w) : Calls Try.prog 30 [.pointer (some ⟨zb, 0, none⟩), .int .i64 l, .int .i64 n].toArray w fun e w' => e = .returned (.int .i64 1) ∧ Inv w [] w' := by
  have hI1 := Inv.startS h0_ (List.pairwise_singleton _ _)
  refine enter (n := 76) Try.func30 rfl rfl rfl ?_
  intro ac1 hf1
  refine code_seq ?_
  refine seq_start (l := [0]) rfl ?_
  refine seq_one (op_val (v := .int .i64 0) hf1 rfl rfl rfl rfl rfl rfl (r_assign rfl) fun ac2 hf2 => ?_)
  refine seq_end ?_
  clear ac1 hf1
  refine then_normal ?_
  refine code_seq ?_
  refine code_seq ?_
  refine seq_start (l := [0, 1, 2, 3, 4, 5, 6, 7, 8]) rfl ?_
  refine seq_one (op_val (v := .pointer (some ⟨zb, 0, none⟩)) hf2 rfl rfl rfl rfl rfl rfl (r_move rfl) fun ac3 hf3 => ?_)
  refine seq_one (op_val (v := .bool false) hf3 rfl rfl rfl rfl rfl rfl (r_eqNil up_41 rfl rfl rfl) fun ac4 hf4 => ?_)
  refine seq_one (op_val (v := .bool false) hf4 rfl rfl rfl rfl rfl rfl (r_move rfl) fun ac5 hf5 => ?_)
  refine seq_one (op_val (v := .pointer (some ⟨zb, 0, none⟩)) hf5 rfl rfl rfl rfl rfl rfl (r_move rfl) fun ac6 hf6 => ?_)
  refine seq_one (op_val (v := .pointer (some ⟨zb, 0, none⟩)) hf6 rfl rfl rfl rfl rfl rfl (r_nilCheck rfl) fun ac7 hf7 => ?_)
  refine seq_one (op_val (v := .pointer (some ⟨zb, 0, none⟩)) hf7 rfl rfl rfl rfl rfl rfl (r_fieldAddr fi_79_0 rfl rfl) fun ac8 hf8 => ?_)
  refine seq_one (op_val (v := .slice none 0 0) hf8 rfl rfl rfl rfl rfl rfl (r_load ag_77 rfl (hI1.at 0 rfl) rfl) fun ac9 hf9 => ?_)
  refine seq_one (op_val (v := .bool true) hf9 rfl rfl rfl rfl rfl rfl (r_eqSl us_77 rfl rfl rfl) fun ac10 hf10 => ?_)
  refine seq_one (op_val (v := .bool true) hf10 rfl rfl rfl rfl rfl rfl (r_pickF rfl rfl) fun ac11 hf11 => ?_)
  refine seq_end ?_
  clear ac2 hf2 ac3 hf3 ac4 hf4 ac5 hf5 ac6 hf6 ac7 hf7 ac8 hf8 ac9 hf9 ac10 hf10
  refine then_normal ?_
  refine code_if_true hf11 rfl ?_
  refine code_seq ?_
  refine seq_start (l := [0]) rfl ?_
  refine seq_one (op_val (v := .int .i64 1) hf11 rfl rfl rfl rfl rfl rfl (r_assign rfl) fun ac12 hf12 => ?_)
  refine seq_end ?_
  clear ac11 hf11
  refine then_normal ?_
  refine wp_ret ?_
  refine then_ret ?_
  exact post1 rfl hf12 rfl ⟨rfl, (hI1).unread h0_⟩
set_option maxHeartbeats 8000000 in
theorem drop_nil (n : Int) : Pur Try.prog 32 [.pointer none, .int .i64 n] (.bool false) := by
  intro w
  have hI1 := Inv.start w
  refine enter (n := 57) Try.func32 rfl rfl rfl ?_
  intro ac1 hf1
  refine code_seq ?_
  refine seq_start (l := [0]) rfl ?_
  refine seq_one (op_val (v := .bool false) hf1 rfl rfl rfl rfl rfl rfl (r_assign rfl) fun ac2 hf2 => ?_)
  refine seq_end ?_
  clear ac1 hf1
  refine then_normal ?_
  refine code_seq ?_
  refine seq_start (l := [0, 1, 2, 3, 4, 5, 6, 7]) rfl ?_
  refine seq_one (op_val (v := .pointer none) hf2 rfl rfl rfl rfl rfl rfl (r_move rfl) fun ac3 hf3 => ?_)
  refine seq_one (op_val (v := .int .i64 n) hf3 rfl rfl rfl rfl rfl rfl (r_move rfl) fun ac4 hf4 => ?_)
  refine seq_one (op_pure hf4 rfl rfl rfl rfl ca_29 (in_nil n) hI1 fun ac5 wd1 hI2 hf5 => ?_)
  refine seq_one (op_val (v := .tuple #[.int .i64 0, .bool false]) hf5 rfl rfl rfl rfl rfl rfl (r_move rfl) fun ac6 hf6 => ?_)
  refine seq_one (op_val (v := .int .i64 0) hf6 rfl rfl rfl rfl rfl rfl (r_extract rfl rfl) fun ac7 hf7 => ?_)
  refine seq_one (op_val (v := .bool false) hf7 rfl rfl rfl rfl rfl rfl (r_extract rfl rfl) fun ac8 hf8 => ?_)
  refine seq_one (op_val (v := .int .i64 0) hf8 rfl rfl rfl rfl rfl rfl (r_assign rfl) fun ac9 hf9 => ?_)
  refine seq_one (op_val (v := .bool false) hf9 rfl rfl rfl rfl rfl rfl (r_assign rfl) fun ac10 hf10 => ?_)
  refine seq_end ?_
  clear ac2 hf2 ac3 hf3 ac4 hI1 hf4 ac5 hf5 ac6 hf6 ac7 hf7 ac8 hf8 ac9 hf9
  refine then_normal ?_
  refine code_seq ?_
  refine code_seq ?_
  refine seq_start (l := [0, 1]) rfl ?_
  refine seq_one (op_val (v := .bool false) hf10 rfl rfl rfl rfl rfl rfl (r_move rfl) fun ac11 hf11 => ?_)
  refine seq_one (op_val (v := .bool true) hf11 rfl rfl rfl rfl rfl rfl ((r_not (b := false) rfl).trans rfl) fun ac12 hf12 => ?_)
  refine seq_end ?_
  clear ac10 hf10 ac11 hf11
  refine then_normal ?_
  refine code_if_true hf12 rfl ?_
  refine code_seq ?_
  refine seq_start (l := [0]) rfl ?_
  refine seq_one (op_val (v := .bool false) hf12 rfl rfl rfl rfl rfl rfl (r_assign rfl) fun ac13 hf13 => ?_)
  refine seq_end ?_
  clear ac12 hf12
  refine then_normal ?_
  refine wp_ret ?_
  refine then_ret ?_
  refine post1 rfl hf13 rfl ⟨?_, hI2.done (fresh_keys (ks := []) rfl fk_nil)⟩
  rfl
set_option maxHeartbeats 8000000 in
theorem drop_zero (n : Int) (zb : Nat) (w : World) (h0_ : Has [(zb, #[.slice none 0 0, .slice none 0 0, .slice none 0 0], 79)] w) : Calls Try.prog 32 [.pointer (some ⟨zb, 0, none⟩), .int .i64 n].toArray w fun e w' => e = .returned (.bool false) ∧ Inv w [] w' := by
  have hI1 := Inv.startS h0_ (List.pairwise_singleton _ _)
  refine enter (n := 57) Try.func32 rfl rfl rfl ?_
  intro ac1 hf1
  refine code_seq ?_
  refine seq_start (l := [0]) rfl ?_
  refine seq_one (op_val (v := .bool false) hf1 rfl rfl rfl rfl rfl rfl (r_assign rfl) fun ac2 hf2 => ?_)
  refine seq_end ?_
  clear ac1 hf1
  refine then_normal ?_
  refine code_seq ?_
  refine seq_start (l := [0, 1, 2, 3, 4, 5, 6, 7]) rfl ?_
  refine seq_one (op_val (v := .pointer (some ⟨zb, 0, none⟩)) hf2 rfl rfl rfl rfl rfl rfl (r_move rfl) fun ac3 hf3 => ?_)
  refine seq_one (op_val (v := .int .i64 n) hf3 rfl rfl rfl rfl rfl rfl (r_move rfl) fun ac4 hf4 => ?_)
  refine seq_one (op_pureW hf4 rfl rfl rfl rfl ca_29 (in_zero n zb _ (Has.cons (hI1.at 0 rfl) Has.nil)) hI1 fun ac5 wd1 hI2 hf5 => ?_)
  refine seq_one (op_val (v := .tuple #[.int .i64 0, .bool false]) hf5 rfl rfl rfl rfl rfl rfl (r_move rfl) fun ac6 hf6 => ?_)
  refine seq_one (op_val (v := .int .i64 0) hf6 rfl rfl rfl rfl rfl rfl (r_extract rfl rfl) fun ac7 hf7 => ?_)
  refine seq_one (op_val (v := .bool false) hf7 rfl rfl rfl rfl rfl rfl (r_extract rfl rfl) fun ac8 hf8 => ?_)
  refine seq_one (op_val (v := .int .i64 0) hf8 rfl rfl rfl rfl rfl rfl (r_assign rfl) fun ac9 hf9 => ?_)
  refine seq_one (op_val (v := .bool false) hf9 rfl rfl rfl rfl rfl rfl (r_assign rfl) fun ac10 hf10 => ?_)
  refine seq_end ?_
  clear ac2 hf2 ac3 hf3 ac4 hI1 hf4 ac5 hf5 ac6 hf6 ac7 hf7 ac8 hf8 ac9 hf9
  refine then_normal ?_
  refine code_seq ?_
  refine code_seq ?_
  refine seq_start (l := [0, 1]) rfl ?_
  refine seq_one (op_val (v := .bool false) hf10 rfl rfl rfl rfl rfl rfl (r_move rfl) fun ac11 hf11 => ?_)
  refine seq_one (op_val (v := .bool true) hf11 rfl rfl rfl rfl rfl rfl ((r_not (b := false) rfl).trans rfl) fun ac12 hf12 => ?_)
  refine seq_end ?_
  clear ac10 hf10 ac11 hf11
  refine then_normal ?_
  refine code_if_true hf12 rfl ?_
  refine code_seq ?_
  refine seq_start (l := [0]) rfl ?_
  refine seq_one (op_val (v := .bool false) hf12 rfl rfl rfl rfl rfl rfl (r_assign rfl) fun ac13 hf13 => ?_)
  refine seq_end ?_
  clear ac12 hf12
  refine then_normal ?_
  refine wp_ret ?_
  refine then_ret ?_
  exact post1 rfl hf13 rfl ⟨rfl, (hI2).unread h0_⟩
set_option maxHeartbeats 8000000 in
theorem pop_nil (l : Int) : Pur Try.prog 31 [.pointer none, .int .i64 l] (.tuple #[.int .i64 0, .bool false]) := by
  intro w
  have hI1 := Inv.start w
  refine enter (n := 21) Try.func31 rfl rfl rfl ?_
  intro ac1 hf1
  refine code_seq ?_
  refine seq_start (l := [0, 1]) rfl ?_
  refine seq_one (op_val (v := .int .i64 0) hf1 rfl rfl rfl rfl rfl rfl (r_assign rfl) fun ac2 hf2 => ?_)
  refine seq_one (op_val (v := .bool false) hf2 rfl rfl rfl rfl rfl rfl (r_assign rfl) fun ac3 hf3 => ?_)
  refine seq_end ?_
  clear ac1 hf1 ac2 hf2
  refine then_normal ?_
  refine code_seq ?_
  refine seq_start (l := [0, 1, 2, 3, 4, 5, 6, 7]) rfl ?_
  refine seq_one (op_val (v := .pointer none) hf3 rfl rfl rfl rfl rfl rfl (r_move rfl) fun ac4 hf4 => ?_)
  refine seq_one (op_val (v := .int .i64 l) hf4 rfl rfl rfl rfl rfl rfl (r_move rfl) fun ac5 hf5 => ?_)
  refine seq_one (op_pure hf5 rfl rfl rfl rfl ca_40 (first_nil l) hI1 fun ac6 wd1 hI2 hf6 => ?_)
  refine seq_one (op_val (v := .tuple #[.int .i64 0, .bool false]) hf6 rfl rfl rfl rfl rfl rfl (r_move rfl) fun ac7 hf7 => ?_)
  refine seq_one (op_val (v := .int .i64 0) hf7 rfl rfl rfl rfl rfl rfl (r_extract rfl rfl) fun ac8 hf8 => ?_)
  refine seq_one (op_val (v := .bool false) hf8 rfl rfl rfl rfl rfl rfl (r_extract rfl rfl) fun ac9 hf9 => ?_)
  refine seq_one (op_val (v := .int .i64 0) hf9 rfl rfl rfl rfl rfl rfl (r_assign rfl) fun ac10 hf10 => ?_)
  refine seq_one (op_val (v := .bool false) hf10 rfl rfl rfl rfl rfl rfl (r_assign rfl) fun ac11 hf11 => ?_)
  refine seq_end ?_
  clear ac3 hf3 ac4 hf4 ac5 hI1 hf5 ac6 hf6 ac7 hf7 ac8 hf8 ac9 hf9 ac10 hf10
  refine then_normal ?_
  refine code_seq ?_
  refine seq_start (l := [0, 1, 2, 3, 4, 5, 6, 7, 8]) rfl ?_
  refine seq_one (op_val (v := .int .i64 0) hf11 rfl rfl rfl rfl rfl rfl (r_move rfl) fun ac12 hf12 => ?_)
  refine seq_one (op_val (v := .bool false) hf12 rfl rfl rfl rfl rfl rfl (r_move rfl) fun ac13 hf13 => ?_)
  refine seq_one (op_val (v := .bool false) hf13 rfl rfl rfl rfl rfl rfl (r_move rfl) fun ac14 hf14 => ?_)
  refine seq_one (op_skip hf14 rfl rfl rfl rfl fun ac15 hf15 => ?_)
  refine seq_one (op_skip hf15 rfl rfl rfl rfl fun ac16 hf16 => ?_)
  refine seq_one (op_skip hf16 rfl rfl rfl rfl fun ac17 hf17 => ?_)
  refine seq_one (op_val (v := .bool false) hf17 rfl rfl rfl rfl rfl rfl (r_pickF rfl rfl) fun ac18 hf18 => ?_)
  refine seq_one (op_val (v := .int .i64 0) hf18 rfl rfl rfl rfl rfl rfl (r_assign rfl) fun ac19 hf19 => ?_)
  refine seq_one (op_val (v := .bool false) hf19 rfl rfl rfl rfl rfl rfl (r_assign rfl) fun ac20 hf20 => ?_)
  refine seq_end ?_
  clear ac11 hf11 ac12 hf12 ac13 hf13 ac14 hf14 ac15 hf15 ac16 hf16 ac17 hf17 ac18 hf18 ac19 hf19
  refine then_normal ?_
  refine wp_ret ?_
  refine post2 rfl hf20 rfl rfl ⟨?_, hI2.done (fresh_keys (ks := []) rfl fk_nil)⟩
  rfl
set_option maxHeartbeats 8000000 in
theorem pop_zero (l : Int) (zb : Nat) (w : World) (h0_ : Has [(zb, #[.slice none 0 0, .slice none 0 0, .slice none 0 0], 79)] w) : Calls Try.prog 31 [.pointer (some ⟨zb, 0, none⟩), .int .i64 l].toArray w fun e w' => e = .returned (.tuple #[.int .i64 0, .bool false]) ∧ Inv w [] w' := by
  have hI1 := Inv.startS h0_ (List.pairwise_singleton _ _)
  refine enter (n := 21) Try.func31 rfl rfl rfl ?_
  intro ac1 hf1
  refine code_seq ?_
  refine seq_start (l := [0, 1]) rfl ?_
  refine seq_one (op_val (v := .int .i64 0) hf1 rfl rfl rfl rfl rfl rfl (r_assign rfl) fun ac2 hf2 => ?_)
  refine seq_one (op_val (v := .bool false) hf2 rfl rfl rfl rfl rfl rfl (r_assign rfl) fun ac3 hf3 => ?_)
  refine seq_end ?_
  clear ac1 hf1 ac2 hf2
  refine then_normal ?_
  refine code_seq ?_
  refine seq_start (l := [0, 1, 2, 3, 4, 5, 6, 7]) rfl ?_
  refine seq_one (op_val (v := .pointer (some ⟨zb, 0, none⟩)) hf3 rfl rfl rfl rfl rfl rfl (r_move rfl) fun ac4 hf4 => ?_)
  refine seq_one (op_val (v := .int .i64 l) hf4 rfl rfl rfl rfl rfl rfl (r_move rfl) fun ac5 hf5 => ?_)
  refine seq_one (op_pureW hf5 rfl rfl rfl rfl ca_40 (first_zero l zb _ (Has.cons (hI1.at 0 rfl) Has.nil)) hI1 fun ac6 wd1 hI2 hf6 => ?_)
  refine seq_one (op_val (v := .tuple #[.int .i64 0, .bool false]) hf6 rfl rfl rfl rfl rfl rfl (r_move rfl) fun ac7 hf7 => ?_)
  refine seq_one (op_val (v := .int .i64 0) hf7 rfl rfl rfl rfl rfl rfl (r_extract rfl rfl) fun ac8 hf8 => ?_)
  refine seq_one (op_val (v := .bool false) hf8 rfl rfl rfl rfl rfl rfl (r_extract rfl rfl) fun ac9 hf9 => ?_)
  refine seq_one (op_val (v := .int .i64 0) hf9 rfl rfl rfl rfl rfl rfl (r_assign rfl) fun ac10 hf10 => ?_)
  refine seq_one (op_val (v := .bool false) hf10 rfl rfl rfl rfl rfl rfl (r_assign rfl) fun ac11 hf11 => ?_)
  refine seq_end ?_
  clear ac3 hf3 ac4 hf4 ac5 hI1 hf5 ac6 hf6 ac7 hf7 ac8 hf8 ac9 hf9 ac10 hf10
  refine then_normal ?_
  refine code_seq ?_
  refine seq_start (l := [0, 1, 2, 3, 4, 5, 6, 7, 8]) rfl ?_
  refine seq_one (op_val (v := .int .i64 0) hf11 rfl rfl rfl rfl rfl rfl (r_move rfl) fun ac12 hf12 => ?_)
  refine seq_one (op_val (v := .bool false) hf12 rfl rfl rfl rfl rfl rfl (r_move rfl) fun ac13 hf13 => ?_)
  refine seq_one (op_val (v := .bool false) hf13 rfl rfl rfl rfl rfl rfl (r_move rfl) fun ac14 hf14 => ?_)
  refine seq_one (op_skip hf14 rfl rfl rfl rfl fun ac15 hf15 => ?_)
  refine seq_one (op_skip hf15 rfl rfl rfl rfl fun ac16 hf16 => ?_)
  refine seq_one (op_skip hf16 rfl rfl rfl rfl fun ac17 hf17 => ?_)
  refine seq_one (op_val (v := .bool false) hf17 rfl rfl rfl rfl rfl rfl (r_pickF rfl rfl) fun ac18 hf18 => ?_)
  refine seq_one (op_val (v := .int .i64 0) hf18 rfl rfl rfl rfl rfl rfl (r_assign rfl) fun ac19 hf19 => ?_)
  refine seq_one (op_val (v := .bool false) hf19 rfl rfl rfl rfl rfl rfl (r_assign rfl) fun ac20 hf20 => ?_)
  refine seq_end ?_
  clear ac11 hf11 ac12 hf12 ac13 hf13 ac14 hf14 ac15 hf15 ac16 hf16 ac17 hf17 ac18 hf18 ac19 hf19
  refine then_normal ?_
  refine wp_ret ?_
  exact post2 rfl hf20 rfl rfl ⟨rfl, (hI2).unread h0_⟩
set_option maxHeartbeats 8000000 in
theorem len_nil (l : Int) : Pur Try.prog 41 [.pointer none, .int .i64 l] (.int .i64 0) := by
  intro w
  have hI1 := Inv.start w
  refine enter (n := 22) Try.func41 rfl rfl rfl ?_
  intro ac1 hf1
  refine code_seq ?_
  refine seq_start (l := [0]) rfl ?_
  refine seq_one (op_val (v := .int .i64 0) hf1 rfl rfl rfl rfl rfl rfl (r_assign rfl) fun ac2 hf2 => ?_)
  refine seq_end ?_
  clear ac1 hf1
  refine then_normal ?_
  refine code_seq ?_
  refine code_seq ?_
  refine seq_start (l := [0, 1, 2, 3, 4, 5, 6, 7]) rfl ?_
  refine seq_one (op_val (v := .pointer none) hf2 rfl rfl rfl rfl rfl rfl (r_move rfl) fun ac3 hf3 => ?_)
  refine seq_one (op_val (v := .int .i64 l) hf3 rfl rfl rfl rfl rfl rfl (r_move rfl) fun ac4 hf4 => ?_)
  refine seq_one (op_pure hf4 rfl rfl rfl rfl ca_56 (ring_nil l) hI1 fun ac5 wd1 hI2 hf5 => ?_)
  refine seq_one (op_val (v := .tuple #[.int .i64 0, .bool false]) hf5 rfl rfl rfl rfl rfl rfl (r_move rfl) fun ac6 hf6 => ?_)
  refine seq_one (op_val (v := .int .i64 0) hf6 rfl rfl rfl rfl rfl rfl (r_extract rfl rfl) fun ac7 hf7 => ?_)
  refine seq_one (op_val (v := .bool false) hf7 rfl rfl rfl rfl rfl rfl (r_extract rfl rfl) fun ac8 hf8 => ?_)
  refine seq_one (op_val (v := .int .i64 0) hf8 rfl rfl rfl rfl rfl rfl (r_assign rfl) fun ac9 hf9 => ?_)
  refine seq_one (op_val (v := .bool false) hf9 rfl rfl rfl rfl rfl rfl (r_assign rfl) fun ac10 hf10 => ?_)
  refine seq_end ?_
  clear ac2 hf2 ac3 hf3 ac4 hI1 hf4 ac5 hf5 ac6 hf6 ac7 hf7 ac8 hf8 ac9 hf9
  refine then_normal ?_
  refine code_seq ?_
  refine seq_start (l := [0, 1]) rfl ?_
  refine seq_one (op_val (v := .bool false) hf10 rfl rfl rfl rfl rfl rfl (r_move rfl) fun ac11 hf11 => ?_)
  refine seq_one (op_val (v := .bool true) hf11 rfl rfl rfl rfl rfl rfl ((r_not (b := false) rfl).trans rfl) fun ac12 hf12 => ?_)
  refine seq_end ?_
  clear ac10 hf10 ac11 hf11
  refine then_normal ?_
  refine code_if_true hf12 rfl ?_
  refine code_seq ?_
  refine seq_start (l := [0]) rfl ?_
  refine seq_one (op_val (v := .int .i64 0) hf12 rfl rfl rfl rfl rfl rfl (r_assign rfl) fun ac13 hf13 => ?_)
  refine seq_end ?_
  clear ac12 hf12
  refine then_normal ?_
  refine wp_ret ?_
  refine then_ret ?_
  refine post1 rfl hf13 rfl ⟨?_, hI2.done (fresh_keys (ks := []) rfl fk_nil)⟩
  rfl
set_option maxHeartbeats 8000000 in
theorem len_zero (l : Int) (zb : Nat) (w : World) (h0_ : Has [(zb, #[.slice none 0 0, .slice none 0 0, .slice none 0 0], 79)] w) : Calls Try.prog 41 [.pointer (some ⟨zb, 0, none⟩), .int .i64 l].toArray w fun e w' => e = .returned (.int .i64 0) ∧ Inv w [] w' := by
  have hI1 := Inv.startS h0_ (List.pairwise_singleton _ _)
  refine enter (n := 22) Try.func41 rfl rfl rfl ?_
  intro ac1 hf1
  refine code_seq ?_
  refine seq_start (l := [0]) rfl ?_
  refine seq_one (op_val (v := .int .i64 0) hf1 rfl rfl rfl rfl rfl rfl (r_assign rfl) fun ac2 hf2 => ?_)
  refine seq_end ?_
  clear ac1 hf1
  refine then_normal ?_
  refine code_seq ?_
  refine code_seq ?_
  refine seq_start (l := [0, 1, 2, 3, 4, 5, 6, 7]) rfl ?_
  refine seq_one (op_val (v := .pointer (some ⟨zb, 0, none⟩)) hf2 rfl rfl rfl rfl rfl rfl (r_move rfl) fun ac3 hf3 => ?_)
  refine seq_one (op_val (v := .int .i64 l) hf3 rfl rfl rfl rfl rfl rfl (r_move rfl) fun ac4 hf4 => ?_)
  refine seq_one (op_pureW hf4 rfl rfl rfl rfl ca_56 (ring_zero l zb _ (Has.cons (hI1.at 0 rfl) Has.nil)) hI1 fun ac5 wd1 hI2 hf5 => ?_)
  refine seq_one (op_val (v := .tuple #[.int .i64 0, .bool false]) hf5 rfl rfl rfl rfl rfl rfl (r_move rfl) fun ac6 hf6 => ?_)
  refine seq_one (op_val (v := .int .i64 0) hf6 rfl rfl rfl rfl rfl rfl (r_extract rfl rfl) fun ac7 hf7 => ?_)
  refine seq_one (op_val (v := .bool false) hf7 rfl rfl rfl rfl rfl rfl (r_extract rfl rfl) fun ac8 hf8 => ?_)
  refine seq_one (op_val (v := .int .i64 0) hf8 rfl rfl rfl rfl rfl rfl (r_assign rfl) fun ac9 hf9 => ?_)
  refine seq_one (op_val (v := .bool false) hf9 rfl rfl rfl rfl rfl rfl (r_assign rfl) fun ac10 hf10 => ?_)
  refine seq_end ?_
  clear ac2 hf2 ac3 hf3 ac4 hI1 hf4 ac5 hf5 ac6 hf6 ac7 hf7 ac8 hf8 ac9 hf9
  refine then_normal ?_
  refine code_seq ?_
  refine seq_start (l := [0, 1]) rfl ?_
  refine seq_one (op_val (v := .bool false) hf10 rfl rfl rfl rfl rfl rfl (r_move rfl) fun ac11 hf11 => ?_)
  refine seq_one (op_val (v := .bool true) hf11 rfl rfl rfl rfl rfl rfl ((r_not (b := false) rfl).trans rfl) fun ac12 hf12 => ?_)
  refine seq_end ?_
  clear ac10 hf10 ac11 hf11
  refine then_normal ?_
  refine code_if_true hf12 rfl ?_
  refine code_seq ?_
  refine seq_start (l := [0]) rfl ?_
  refine seq_one (op_val (v := .int .i64 0) hf12 rfl rfl rfl rfl rfl rfl (r_assign rfl) fun ac13 hf13 => ?_)
  refine seq_end ?_
  clear ac12 hf12
  refine then_normal ?_
  refine wp_ret ?_
  refine then_ret ?_
  exact post1 rfl hf13 rfl ⟨rfl, (hI2).unread h0_⟩
set_option maxHeartbeats 8000000 in
theorem list_nil (l : Int) : Pur Try.prog 28 [.pointer none, .int .i64 l] (.slice none 0 0) := by
  intro w
  have hI1 := Inv.start w
  refine enter (n := 41) Try.func28 rfl rfl rfl ?_
  intro ac1 hf1
  refine code_seq ?_
  refine seq_start (l := [0]) rfl ?_
  refine seq_one (op_val (v := .slice none 0 0) hf1 rfl rfl rfl rfl rfl rfl (r_assign rfl) fun ac2 hf2 => ?_)
  refine seq_end ?_
  clear ac1 hf1
  refine then_normal ?_
  refine code_seq ?_
  refine seq_start (l := [0]) rfl ?_
  refine seq_one (op_val (v := .slice none 0 0) hf2 rfl rfl rfl rfl rfl rfl (r_assign rfl) fun ac3 hf3 => ?_)
  refine seq_end ?_
  clear ac2 hf2
  refine then_normal ?_
  refine code_seq ?_
  refine seq_start (l := [0, 1, 2, 3, 4, 5, 6, 7]) rfl ?_
  refine seq_one (op_val (v := .pointer none) hf3 rfl rfl rfl rfl rfl rfl (r_move rfl) fun ac4 hf4 => ?_)
  refine seq_one (op_val (v := .int .i64 l) hf4 rfl rfl rfl rfl rfl rfl (r_move rfl) fun ac5 hf5 => ?_)
  refine seq_one (op_pure hf5 rfl rfl rfl rfl ca_56 (ring_nil l) hI1 fun ac6 wd1 hI2 hf6 => ?_)
  refine seq_one (op_val (v := .tuple #[.int .i64 0, .bool false]) hf6 rfl rfl rfl rfl rfl rfl (r_move rfl) fun ac7 hf7 => ?_)
  refine seq_one (op_val (v := .int .i64 0) hf7 rfl rfl rfl rfl rfl rfl (r_extract rfl rfl) fun ac8 hf8 => ?_)
  refine seq_one (op_val (v := .bool false) hf8 rfl rfl rfl rfl rfl rfl (r_extract rfl rfl) fun ac9 hf9 => ?_)
  refine seq_one (op_val (v := .int .i64 0) hf9 rfl rfl rfl rfl rfl rfl (r_assign rfl) fun ac10 hf10 => ?_)
  refine seq_one (op_val (v := .bool false) hf10 rfl rfl rfl rfl rfl rfl (r_assign rfl) fun ac11 hf11 => ?_)
  refine seq_end ?_
  clear ac3 hf3 ac4 hf4 ac5 hI1 hf5 ac6 hf6 ac7 hf7 ac8 hf8 ac9 hf9 ac10 hf10
  refine then_normal ?_
  refine code_seq ?_
  refine code_seq ?_
  refine seq_start (l := [0, 1]) rfl ?_
  refine seq_one (op_val (v := .bool false) hf11 rfl rfl rfl rfl rfl rfl (r_move rfl) fun ac12 hf12 => ?_)
  refine seq_one (op_val (v := .bool true) hf12 rfl rfl rfl rfl rfl rfl ((r_not (b := false) rfl).trans rfl) fun ac13 hf13 => ?_)
  refine seq_end ?_
  clear ac11 hf11 ac12 hf12
  refine then_normal ?_
  refine code_if_true hf13 rfl ?_
  refine code_seq ?_
  refine seq_start (l := [0]) rfl ?_
  refine seq_one (op_val (v := .slice none 0 0) hf13 rfl rfl rfl rfl rfl rfl (r_assign rfl) fun ac14 hf14 => ?_)
  refine seq_end ?_
  clear ac13 hf13
  refine then_normal ?_
  refine wp_ret ?_
  refine then_ret ?_
  refine post1 rfl hf14 rfl ⟨?_, hI2.done (fresh_keys (ks := []) rfl fk_nil)⟩
  rfl
set_option maxHeartbeats 8000000 in
theorem list_zero (l : Int) (zb : Nat) (w : World) (h0_ : Has [(zb, #[.slice none 0 0, .slice none 0 0, .slice none 0 0], 79)] w) : Calls Try.prog 28 [.pointer (some ⟨zb, 0, none⟩), .int .i64 l].toArray w fun e w' => e = .returned (.slice none 0 0) ∧ Inv w [] w' := by
  have hI1 := Inv.startS h0_ (List.pairwise_singleton _ _)
  refine enter (n := 41) Try.func28 rfl rfl rfl ?_
  intro ac1 hf1
  refine code_seq ?_
  refine seq_start (l := [0]) rfl ?_
  refine seq_one (op_val (v := .slice none 0 0) hf1 rfl rfl rfl rfl rfl rfl (r_assign rfl) fun ac2 hf2 => ?_)
  refine seq_end ?_
  clear ac1 hf1
  refine then_normal ?_
  refine code_seq ?_
  refine seq_start (l := [0]) rfl ?_
  refine seq_one (op_val (v := .slice none 0 0) hf2 rfl rfl rfl rfl rfl rfl (r_assign rfl) fun ac3 hf3 => ?_)
  refine seq_end ?_
  clear ac2 hf2
  refine then_normal ?_
  refine code_seq ?_
  refine seq_start (l := [0, 1, 2, 3, 4, 5, 6, 7]) rfl ?_
  refine seq_one (op_val (v := .pointer (some ⟨zb, 0, none⟩)) hf3 rfl rfl rfl rfl rfl rfl (r_move rfl) fun ac4 hf4 => ?_)
  refine seq_one (op_val (v := .int .i64 l) hf4 rfl rfl rfl rfl rfl rfl (r_move rfl) fun ac5 hf5 => ?_)
  refine seq_one (op_pureW hf5 rfl rfl rfl rfl ca_56 (ring_zero l zb _ (Has.cons (hI1.at 0 rfl) Has.nil)) hI1 fun ac6 wd1 hI2 hf6 => ?_)
  refine seq_one (op_val (v := .tuple #[.int .i64 0, .bool false]) hf6 rfl rfl rfl rfl rfl rfl (r_move rfl) fun ac7 hf7 => ?_)
  refine seq_one (op_val (v := .int .i64 0) hf7 rfl rfl rfl rfl rfl rfl (r_extract rfl rfl) fun ac8 hf8 => ?_)
  refine seq_one (op_val (v := .bool false) hf8 rfl rfl rfl rfl rfl rfl (r_extract rfl rfl) fun ac9 hf9 => ?_)
  refine seq_one (op_val (v := .int .i64 0) hf9 rfl rfl rfl rfl rfl rfl (r_assign rfl) fun ac10 hf10 => ?_)
  refine seq_one (op_val (v := .bool false) hf10 rfl rfl rfl rfl rfl rfl (r_assign rfl) fun ac11 hf11 => ?_)
  refine seq_end ?_
  clear ac3 hf3 ac4 hf4 ac5 hI1 hf5 ac6 hf6 ac7 hf7 ac8 hf8 ac9 hf9 ac10 hf10
  refine then_normal ?_
  refine code_seq ?_
  refine code_seq ?_
  refine seq_start (l := [0, 1]) rfl ?_
  refine seq_one (op_val (v := .bool false) hf11 rfl rfl rfl rfl rfl rfl (r_move rfl) fun ac12 hf12 => ?_)
  refine seq_one (op_val (v := .bool true) hf12 rfl rfl rfl rfl rfl rfl ((r_not (b := false) rfl).trans rfl) fun ac13 hf13 => ?_)
  refine seq_end ?_
  clear ac11 hf11 ac12 hf12
  refine then_normal ?_
  refine code_if_true hf13 rfl ?_
  refine code_seq ?_
  refine seq_start (l := [0]) rfl ?_
  refine seq_one (op_val (v := .slice none 0 0) hf13 rfl rfl rfl rfl rfl rfl (r_assign rfl) fun ac14 hf14 => ?_)
  refine seq_end ?_
  clear ac13 hf13
  refine then_normal ?_
  refine wp_ret ?_
  refine then_ret ?_
  exact post1 rfl hf14 rfl ⟨rfl, (hI2).unread h0_⟩
end Go.Proofs.Ytjelaoblpchmmaa
