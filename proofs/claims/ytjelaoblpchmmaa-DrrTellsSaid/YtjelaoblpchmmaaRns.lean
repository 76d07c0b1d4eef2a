/-
  The first flow of a round: what each call comes to.
-/
import Derived.Test.YtjelaoblpchmmaaPlain3
namespace Go.Proofs.Ytjelaoblpchmmaa
set_option linter.unusedVariables false
set_option linter.unusedSimpArgs false
set_option maxRecDepth 100000
open Go.RowKit
set_option maxHeartbeats 8000000 in
theorem may_pur {x : Int} : Pur Try.prog 54 [.int .i64 x] (.bool (mayB x)) := by
  intro w
  have hI1 := Inv.start w
  refine enter (n := 9) Try.func54 rfl rfl rfl ?_
  intro ac1 hf1
  refine code_seq ?_
  refine seq_start (l := [0]) rfl ?_
  refine seq_one (op_val (v := .bool false) hf1 rfl rfl rfl rfl rfl rfl (r_assign rfl) fun ac2 hf2 => ?_)
  refine seq_end ?_
  clear ac1 hf1
  refine then_normal ?_
  refine code_seq ?_
  refine seq_start (l := [0, 1, 2, 3, 4, 5, 6]) rfl ?_
  refine seq_one (op_val (v := .int .i64 x) hf2 rfl rfl rfl rfl rfl rfl (r_move rfl) fun ac3 hf3 => ?_)
  refine seq_one (op_val (v := .bool (decide (x ≥ (-65536)))) hf3 rfl rfl rfl rfl rfl rfl (r_geq rfl rfl) fun ac4 hf4 => ?_)
  refine seq_one (op_val (v := .bool (decide (x ≥ (-65536)))) hf4 rfl rfl rfl rfl rfl rfl (r_move rfl) fun ac5 hf5 => ?_)
  rcases Bool.eq_false_or_eq_true (decide (x ≥ (-65536)) : Bool) with g5_1 | g5_1
  · have hf6 := hf5.know 5 (u := .bool true) rfl (congrArg Value.bool g5_1)
    refine seq_one (op_val (v := .int .i64 x) hf6 rfl rfl rfl rfl rfl rfl (r_move rfl) fun ac6 hf7 => ?_)
    refine seq_one (op_val (v := .bool (decide (x ≤ 1048576))) hf7 rfl rfl rfl rfl rfl rfl (r_leq rfl rfl) fun ac7 hf8 => ?_)
    refine seq_one (op_val (v := .bool (decide (x ≤ 1048576))) hf8 rfl rfl rfl rfl rfl rfl (r_pickT rfl rfl) fun ac8 hf9 => ?_)
    refine seq_one (op_val (v := .bool (decide (x ≤ 1048576))) hf9 rfl rfl rfl rfl rfl rfl (r_assign rfl) fun ac9 hf10 => ?_)
    refine seq_end ?_
    clear ac2 hf2 ac3 hf3 ac4 hf4 hf5 ac5 hf6 ac6 hf7 ac7 hf8 ac8 hf9
    refine then_normal ?_
    refine wp_ret ?_
    refine post1 rfl hf10 rfl ⟨?_, hI1.done (fresh_keys (ks := []) rfl fk_nil)⟩
    rw [show mayB x = decide (x ≤ 1048576) from decide_eq_decide.2 ⟨fun h => h.2, fun h => ⟨of_decide_eq_true g5_1, h⟩⟩]
  · have hf11 := hf5.know 5 (u := .bool false) rfl (congrArg Value.bool g5_1)
    refine seq_one (op_skip hf11 rfl rfl rfl rfl fun ac10 hf12 => ?_)
    refine seq_one (op_skip hf12 rfl rfl rfl rfl fun ac11 hf13 => ?_)
    refine seq_one (op_val (v := .bool false) hf13 rfl rfl rfl rfl rfl rfl (r_pickF rfl rfl) fun ac12 hf14 => ?_)
    refine seq_one (op_val (v := .bool false) hf14 rfl rfl rfl rfl rfl rfl (r_assign rfl) fun ac13 hf15 => ?_)
    refine seq_end ?_
    clear ac2 hf2 ac3 hf3 ac4 hf4 hf5 ac5 hf11 ac10 hf12 ac11 hf13 ac12 hf14
    refine then_normal ?_
    refine wp_ret ?_
    refine post1 rfl hf15 rfl ⟨?_, hI1.done (fresh_keys (ks := []) rfl fk_nil)⟩
    rw [show mayB x = false from decide_eq_false (fun h => of_decide_eq_false g5_1 h.1)]
set_option maxHeartbeats 8000000 in
theorem none_walk {N : Nat} {lb ob mb cb rc rb : Nat} (hd : [lb, ob, mb, cb, rc, rb].Nodup) (r : Ro N) {w : World} (h0_ : Has [(lb, arr .i64 r.c.lk, 103), (ob, arr .i64 r.c.of, 3), (mb, arr .i64 r.c.mn, 3), (cb, #[.slice (some ⟨lb, 0, none⟩) (N + 2) (N + 2), .slice (some ⟨ob, 0, none⟩) N N, .slice (some ⟨mb, 0, none⟩) 2 2], 79), (rc, arr .i64 r.cr, 3), (rb, #[.pointer (some ⟨cb, 0, none⟩), .slice (some ⟨rc, 0, none⟩) N N, .int .i64 r.q], 45)] w)  : Calls Try.prog 51 [.pointer (some ⟨rb, 0, none⟩)].toArray w fun e w' => e = .returned (.bool false) ∧ Inv w [] w' := by
  have hI1 := Inv.startS h0_ (pw_keys hd)
  have hN := r.hN
  have hq := r.hq
  refine enter (n := 12) Try.func51 rfl rfl rfl ?_
  intro ac1 hf1
  refine code_seq ?_
  refine seq_start (l := [0]) rfl ?_
  refine seq_one (op_val (v := .bool false) hf1 rfl rfl rfl rfl rfl rfl (r_assign rfl) fun ac2 hf2 => ?_)
  refine seq_end ?_
  clear ac1 hf1
  refine then_normal ?_
  refine code_seq ?_
  refine seq_start (l := [0, 1, 2, 3, 4, 5, 6, 7, 8, 9]) rfl ?_
  refine seq_one (op_val (v := .pointer (some ⟨rb, 0, none⟩)) hf2 rfl rfl rfl rfl rfl rfl (r_move rfl) fun ac3 hf3 => ?_)
  refine seq_one (op_val (v := .bool false) hf3 rfl rfl rfl rfl rfl rfl (r_eqNil up_24 rfl rfl rfl) fun ac4 hf4 => ?_)
  refine seq_one (op_val (v := .bool false) hf4 rfl rfl rfl rfl rfl rfl (r_move rfl) fun ac5 hf5 => ?_)
  refine seq_one (op_val (v := .pointer (some ⟨rb, 0, none⟩)) hf5 rfl rfl rfl rfl rfl rfl (r_move rfl) fun ac6 hf6 => ?_)
  refine seq_one (op_val (v := .pointer (some ⟨rb, 0, none⟩)) hf6 rfl rfl rfl rfl rfl rfl (r_nilCheck rfl) fun ac7 hf7 => ?_)
  refine seq_one (op_val (v := .pointer (some ⟨rb, 1, none⟩)) hf7 rfl rfl rfl rfl rfl rfl (r_fieldAddr fi_45_1 rfl rfl) fun ac8 hf8 => ?_)
  refine seq_one (op_val (v := .slice (some ⟨rc, 0, none⟩) N N) hf8 rfl rfl rfl rfl rfl rfl (r_load ag_27 rfl (hI1.at 5 rfl) rfl) fun ac9 hf9 => ?_)
  refine seq_one (op_val (v := .bool false) hf9 rfl rfl rfl rfl rfl rfl (r_eqSl us_27 rfl rfl rfl) fun ac10 hf10 => ?_)
  refine seq_one (op_val (v := .bool false) hf10 rfl rfl rfl rfl rfl rfl (r_pickF rfl rfl) fun ac11 hf11 => ?_)
  refine seq_one (op_val (v := .bool false) hf11 rfl rfl rfl rfl rfl rfl (r_assign rfl) fun ac12 hf12 => ?_)
  refine seq_end ?_
  clear ac2 hf2 ac3 hf3 ac4 hf4 ac5 hf5 ac6 hf6 ac7 hf7 ac8 hf8 ac9 hf9 ac10 hf10 ac11 hf11
  refine then_normal ?_
  refine wp_ret ?_
  exact post1 rfl hf12 rfl ⟨rfl, hI1.unread h0_⟩
set_option maxHeartbeats 8000000 in
theorem first_walk {N : Nat} {lb ob mb cb rc rb : Nat} (hd : [lb, ob, mb, cb, rc, rb].Nodup) (r : Ro N) {w : World} (h0_ : Has [(lb, arr .i64 r.c.lk, 103), (ob, arr .i64 r.c.of, 3), (mb, arr .i64 r.c.mn, 3), (cb, #[.slice (some ⟨lb, 0, none⟩) (N + 2) (N + 2), .slice (some ⟨ob, 0, none⟩) N N, .slice (some ⟨mb, 0, none⟩) 2 2], 79), (rc, arr .i64 r.cr, 3), (rb, #[.pointer (some ⟨cb, 0, none⟩), .slice (some ⟨rc, 0, none⟩) N N, .int .i64 r.q], 45)] w)  : Calls Try.prog 52 [.agg #[.pointer (some ⟨cb, 0, none⟩)]].toArray w fun e w' => e = .returned (.tuple #[.int .i64 r.li, .int .i64 r.f, .bool r.ok]) ∧ Inv w [] w' := by
  have hI1 := Inv.startS h0_ (pw_keys hd)
  have hN := r.hN
  have hq := r.hq
  refine enter (n := 24) Try.func52 rfl rfl rfl ?_
  intro ac1 hf1
  refine code_seq ?_
  refine seq_start (l := [0, 1, 2, 3]) rfl ?_
  refine seq_one (op_box hf1 rfl rfl rfl rfl hI1 fun ac2 b1 wd1 hb1 hI2 hf2 => ?_)
  have hI3 : Inv w [(lb, arr .i64 r.c.lk, 103), (ob, arr .i64 r.c.of, 3), (mb, arr .i64 r.c.mn, 3), (cb, #[.slice (some ⟨lb, 0, none⟩) (N + 2) (N + 2), .slice (some ⟨ob, 0, none⟩) N N, .slice (some ⟨mb, 0, none⟩) 2 2], 79), (rc, arr .i64 r.cr, 3), (rb, #[.pointer (some ⟨cb, 0, none⟩), .slice (some ⟨rc, 0, none⟩) N N, .int .i64 r.q], 45), (b1, #[.pointer (some ⟨cb, 0, none⟩)], 43)] wd1 := hI2
  refine seq_one (op_val (v := .int .i64 0) hf2 rfl rfl rfl rfl rfl rfl (r_assign rfl) fun ac3 hf3 => ?_)
  refine seq_one (op_val (v := .int .i64 0) hf3 rfl rfl rfl rfl rfl rfl (r_assign rfl) fun ac4 hf4 => ?_)
  refine seq_one (op_val (v := .bool false) hf4 rfl rfl rfl rfl rfl rfl (r_assign rfl) fun ac5 hf5 => ?_)
  refine seq_end ?_
  clear ac1 hI1 hf1 hI2 ac2 hf2 ac3 hf3 ac4 hf4
  refine then_normal ?_
  refine code_seq ?_
  refine code_seq ?_
  refine seq_start (l := [0, 1]) rfl ?_
  refine seq_one (op_val (v := .agg #[.int .i64 0, .int .i64 1]) hf5 rfl rfl rfl rfl rfl rfl (r_build (v := .agg #[.int .i64 0, .int .i64 1]) rfl (fun _ => by kernel_rfl)) fun ac6 hf6 => ?_)
  refine seq_one (op_val (v := .int .i64 0) hf6 rfl rfl rfl rfl rfl rfl (r_move rfl) fun ac7 hf7 => ?_)
  refine seq_end ?_
  clear ac5 hf5 ac6 hf6
  refine then_normal ?_
  refine wp_block ?_
  refine wp_loop_rounds 3 ?_
  refine rounds_go ?_
  refine code_seq ?_
  refine seq_start (l := [0]) rfl ?_
  refine seq_one (op_val (v := .bool true) hf7 rfl rfl rfl rfl rfl rfl (r_lssC rfl rfl (by decide)) fun ac8 hf8 => ?_)
  refine seq_end ?_
  clear ac7 hf7
  refine then_normal ?_
  refine code_seq ?_
  refine code_if_true hf8 rfl ?_
  refine wp_skip ?_
  refine then_normal ?_
  refine code_seq ?_
  refine wp_block ?_
  refine code_seq ?_
  refine seq_start (l := [0, 1]) rfl ?_
  refine seq_one (op_val (v := .int .i64 0) hf8 rfl rfl rfl rfl rfl rfl (r_index (i := 0) ar_103 ag_3 rfl rfl rfl (by decide) rfl) fun ac9 hf9 => ?_)
  refine seq_one (op_val (v := .int .i64 0) hf9 rfl rfl rfl rfl rfl rfl (r_assign rfl) fun ac10 hf10 => ?_)
  refine seq_end ?_
  clear ac8 hf8 ac9 hf9
  refine then_normal ?_
  refine code_seq ?_
  refine seq_start (l := [0, 1, 2, 3, 4, 5, 6, 7, 8]) rfl ?_
  refine seq_one (op_val (v := .pointer (some ⟨b1, 0, none⟩)) hf10 rfl rfl rfl rfl rfl rfl (r_fieldAddr fi_43_0 rfl rfl) fun ac11 hf11 => ?_)
  refine seq_one (op_val (v := .pointer (some ⟨cb, 0, none⟩)) hf11 rfl rfl rfl rfl rfl rfl (r_load ag_41 rfl (hI3.at 6 rfl) rfl) fun ac12 hf12 => ?_)
  refine seq_one (op_val (v := .int .i64 0) hf12 rfl rfl rfl rfl rfl rfl (r_move rfl) fun ac13 hf13 => ?_)
  refine seq_one (op_pureW hf13 rfl rfl rfl rfl ca_40 (first_any (hI3.nd 0 rfl rfl rfl rfl) r.c (Has.cons (hI3.at 0 rfl) (Has.cons (hI3.at 1 rfl) (Has.cons (hI3.at 2 rfl) (Has.cons (hI3.at 3 rfl) Has.nil)))) 0) hI3 fun ac14 wd2 hI4 hf14 => ?_)
  refine seq_one (op_val (v := .tuple #[.int .i64 (r.c.fst 0), .bool (r.c.some_ 0)]) hf14 rfl rfl rfl rfl rfl rfl (r_move rfl) fun ac15 hf15 => ?_)
  refine seq_one (op_val (v := .int .i64 (r.c.fst 0)) hf15 rfl rfl rfl rfl rfl rfl (r_extract rfl rfl) fun ac16 hf16 => ?_)
  refine seq_one (op_val (v := .bool (r.c.some_ 0)) hf16 rfl rfl rfl rfl rfl rfl (r_extract rfl rfl) fun ac17 hf17 => ?_)
  refine seq_one (op_val (v := .int .i64 (r.c.fst 0)) hf17 rfl rfl rfl rfl rfl rfl (r_assign rfl) fun ac18 hf18 => ?_)
  refine seq_one (op_val (v := .bool (r.c.some_ 0)) hf18 rfl rfl rfl rfl rfl rfl (r_assign rfl) fun ac19 hf19 => ?_)
  refine seq_end ?_
  clear ac10 hf10 ac11 hf11 ac12 hf12 ac13 wd1 hI3 hf13 ac14 hf14 ac15 hf15 ac16 hf16 ac17 hf17 ac18 hf18
  refine then_normal ?_
  refine code_seq ?_
  refine seq_start (l := [0]) rfl ?_
  refine seq_one (op_val (v := .bool (r.c.some_ 0)) hf19 rfl rfl rfl rfl rfl rfl (r_move rfl) fun ac20 hf20 => ?_)
  refine seq_end ?_
  clear ac19 hf19
  refine then_normal ?_
  refine code_if hf20 rfl (fun c20_1 => ?_) (fun c20_1 => ?_)
  · have hf21 := hf20.know 20 (u := .bool true) rfl (congrArg Value.bool c20_1)
    refine code_seq ?_
    refine seq_start (l := [0, 1, 2, 3, 4]) rfl ?_
    refine seq_one (op_val (v := .int .i64 0) hf21 rfl rfl rfl rfl rfl rfl (r_move rfl) fun ac21 hf22 => ?_)
    refine seq_one (op_val (v := .int .i64 (r.c.fst 0)) hf22 rfl rfl rfl rfl rfl rfl (r_move rfl) fun ac22 hf23 => ?_)
    refine seq_one (op_val (v := .int .i64 0) hf23 rfl rfl rfl rfl rfl rfl (r_assign rfl) fun ac23 hf24 => ?_)
    refine seq_one (op_val (v := .int .i64 (r.c.fst 0)) hf24 rfl rfl rfl rfl rfl rfl (r_assign rfl) fun ac24 hf25 => ?_)
    refine seq_one (op_val (v := .bool true) hf25 rfl rfl rfl rfl rfl rfl (r_assign rfl) fun ac25 hf26 => ?_)
    refine seq_end ?_
    clear hf20 ac20 hf21 ac21 hf22 ac22 hf23 ac23 hf24 ac24 hf25
    refine then_normal ?_
    refine wp_ret ?_
    refine block_ret ?_
    refine then_ret ?_
    refine then_ret ?_
    refine block_ret ?_
    refine then_ret ?_
    obtain ⟨e1, e2, e3⟩ := Ro.some0 c20_1
    exact post3 rfl hf26 rfl rfl rfl ⟨by rw [e1, e2, e3], (Inv.drop (A := [(lb, arr .i64 r.c.lk, 103), (ob, arr .i64 r.c.of, 3), (mb, arr .i64 r.c.mn, 3), (cb, #[.slice (some ⟨lb, 0, none⟩) (N + 2) (N + 2), .slice (some ⟨ob, 0, none⟩) N N, .slice (some ⟨mb, 0, none⟩) 2 2], 79), (rc, arr .i64 r.cr, 3), (rb, #[.pointer (some ⟨cb, 0, none⟩), .slice (some ⟨rc, 0, none⟩) N N, .int .i64 r.q], 45)]) (B := [(b1, #[.pointer (some ⟨cb, 0, none⟩)], 43)]) hI4 (fresh_keys (ks := [b1]) rfl (fk_cons hb1 fk_nil))).unread h0_⟩
  · have hf27 := hf20.know 20 (u := .bool false) rfl (congrArg Value.bool c20_1)
    refine wp_skip ?_
    refine block_normal ?_
    refine then_normal ?_
    refine seq_start (l := [0, 1]) rfl ?_
    refine seq_one (op_val (v := .int .i64 1) hf27 rfl rfl rfl rfl rfl rfl (r_add (c := 1) rfl rfl (by rfl)) fun ac26 hf28 => ?_)
    refine seq_one (op_val (v := .int .i64 1) hf28 rfl rfl rfl rfl rfl rfl (r_move rfl) fun ac27 hf29 => ?_)
    refine seq_end ?_
    clear hf20 ac20 hf27 ac26 hf28
    refine then_normal ?_
    refine rounds_go ?_
    refine code_seq ?_
    refine seq_start (l := [0]) rfl ?_
    refine seq_one (op_val (v := .bool true) hf29 rfl rfl rfl rfl rfl rfl (r_lssC rfl rfl (by decide)) fun ac28 hf30 => ?_)
    refine seq_end ?_
    clear ac27 hf29
    refine then_normal ?_
    refine code_seq ?_
    refine code_if_true hf30 rfl ?_
    refine wp_skip ?_
    refine then_normal ?_
    refine code_seq ?_
    refine wp_block ?_
    refine code_seq ?_
    refine seq_start (l := [0, 1]) rfl ?_
    refine seq_one (op_val (v := .int .i64 1) hf30 rfl rfl rfl rfl rfl rfl (r_index (i := 1) ar_103 ag_3 rfl rfl rfl (by decide) rfl) fun ac29 hf31 => ?_)
    refine seq_one (op_val (v := .int .i64 1) hf31 rfl rfl rfl rfl rfl rfl (r_assign rfl) fun ac30 hf32 => ?_)
    refine seq_end ?_
    clear ac28 hf30 ac29 hf31
    refine then_normal ?_
    refine code_seq ?_
    refine seq_start (l := [0, 1, 2, 3, 4, 5, 6, 7, 8]) rfl ?_
    refine seq_one (op_val (v := .pointer (some ⟨b1, 0, none⟩)) hf32 rfl rfl rfl rfl rfl rfl (r_fieldAddr fi_43_0 rfl rfl) fun ac31 hf33 => ?_)
    refine seq_one (op_val (v := .pointer (some ⟨cb, 0, none⟩)) hf33 rfl rfl rfl rfl rfl rfl (r_load ag_41 rfl (hI4.at 6 rfl) rfl) fun ac32 hf34 => ?_)
    refine seq_one (op_val (v := .int .i64 1) hf34 rfl rfl rfl rfl rfl rfl (r_move rfl) fun ac33 hf35 => ?_)
    refine seq_one (op_pureW hf35 rfl rfl rfl rfl ca_40 (first_any (hI4.nd 0 rfl rfl rfl rfl) r.c (Has.cons (hI4.at 0 rfl) (Has.cons (hI4.at 1 rfl) (Has.cons (hI4.at 2 rfl) (Has.cons (hI4.at 3 rfl) Has.nil)))) 1) hI4 fun ac34 wd3 hI5 hf36 => ?_)
    refine seq_one (op_val (v := .tuple #[.int .i64 (r.c.fst 1), .bool (r.c.some_ 1)]) hf36 rfl rfl rfl rfl rfl rfl (r_move rfl) fun ac35 hf37 => ?_)
    refine seq_one (op_val (v := .int .i64 (r.c.fst 1)) hf37 rfl rfl rfl rfl rfl rfl (r_extract rfl rfl) fun ac36 hf38 => ?_)
    refine seq_one (op_val (v := .bool (r.c.some_ 1)) hf38 rfl rfl rfl rfl rfl rfl (r_extract rfl rfl) fun ac37 hf39 => ?_)
    refine seq_one (op_val (v := .int .i64 (r.c.fst 1)) hf39 rfl rfl rfl rfl rfl rfl (r_assign rfl) fun ac38 hf40 => ?_)
    refine seq_one (op_val (v := .bool (r.c.some_ 1)) hf40 rfl rfl rfl rfl rfl rfl (r_assign rfl) fun ac39 hf41 => ?_)
    refine seq_end ?_
    clear ac30 hf32 ac31 hf33 ac32 hf34 ac33 wd2 hI4 hf35 ac34 hf36 ac35 hf37 ac36 hf38 ac37 hf39 ac38 hf40
    refine then_normal ?_
    refine code_seq ?_
    refine seq_start (l := [0]) rfl ?_
    refine seq_one (op_val (v := .bool (r.c.some_ 1)) hf41 rfl rfl rfl rfl rfl rfl (r_move rfl) fun ac40 hf42 => ?_)
    refine seq_end ?_
    clear ac39 hf41
    refine then_normal ?_
    refine code_if hf42 rfl (fun c20_2 => ?_) (fun c20_2 => ?_)
    · have hf43 := hf42.know 20 (u := .bool true) rfl (congrArg Value.bool c20_2)
      refine code_seq ?_
      refine seq_start (l := [0, 1, 2, 3, 4]) rfl ?_
      refine seq_one (op_val (v := .int .i64 1) hf43 rfl rfl rfl rfl rfl rfl (r_move rfl) fun ac41 hf44 => ?_)
      refine seq_one (op_val (v := .int .i64 (r.c.fst 1)) hf44 rfl rfl rfl rfl rfl rfl (r_move rfl) fun ac42 hf45 => ?_)
      refine seq_one (op_val (v := .int .i64 1) hf45 rfl rfl rfl rfl rfl rfl (r_assign rfl) fun ac43 hf46 => ?_)
      refine seq_one (op_val (v := .int .i64 (r.c.fst 1)) hf46 rfl rfl rfl rfl rfl rfl (r_assign rfl) fun ac44 hf47 => ?_)
      refine seq_one (op_val (v := .bool true) hf47 rfl rfl rfl rfl rfl rfl (r_assign rfl) fun ac45 hf48 => ?_)
      refine seq_end ?_
      clear hf42 ac40 hf43 ac41 hf44 ac42 hf45 ac43 hf46 ac44 hf47
      refine then_normal ?_
      refine wp_ret ?_
      refine block_ret ?_
      refine then_ret ?_
      refine then_ret ?_
      refine block_ret ?_
      refine then_ret ?_
      obtain ⟨e1, e2, e3⟩ := Ro.some1 c20_1 c20_2
      exact post3 rfl hf48 rfl rfl rfl ⟨by rw [e1, e2, e3], (Inv.drop (A := [(lb, arr .i64 r.c.lk, 103), (ob, arr .i64 r.c.of, 3), (mb, arr .i64 r.c.mn, 3), (cb, #[.slice (some ⟨lb, 0, none⟩) (N + 2) (N + 2), .slice (some ⟨ob, 0, none⟩) N N, .slice (some ⟨mb, 0, none⟩) 2 2], 79), (rc, arr .i64 r.cr, 3), (rb, #[.pointer (some ⟨cb, 0, none⟩), .slice (some ⟨rc, 0, none⟩) N N, .int .i64 r.q], 45)]) (B := [(b1, #[.pointer (some ⟨cb, 0, none⟩)], 43)]) hI5 (fresh_keys (ks := [b1]) rfl (fk_cons hb1 fk_nil))).unread h0_⟩
    · have hf49 := hf42.know 20 (u := .bool false) rfl (congrArg Value.bool c20_2)
      refine wp_skip ?_
      refine block_normal ?_
      refine then_normal ?_
      refine seq_start (l := [0, 1]) rfl ?_
      refine seq_one (op_val (v := .int .i64 2) hf49 rfl rfl rfl rfl rfl rfl (r_add (c := 2) rfl rfl (by rfl)) fun ac46 hf50 => ?_)
      refine seq_one (op_val (v := .int .i64 2) hf50 rfl rfl rfl rfl rfl rfl (r_move rfl) fun ac47 hf51 => ?_)
      refine seq_end ?_
      clear hf42 ac40 hf49 ac46 hf50
      refine then_normal ?_
      refine rounds_go ?_
      refine code_seq ?_
      refine seq_start (l := [0]) rfl ?_
      refine seq_one (op_val (v := .bool false) hf51 rfl rfl rfl rfl rfl rfl (r_lssC rfl rfl (by decide)) fun ac48 hf52 => ?_)
      refine seq_end ?_
      clear ac47 hf51
      refine then_normal ?_
      refine code_seq ?_
      refine code_if_false hf52 rfl ?_
      refine wp_exit ?_
      refine then_exit ?_
      refine then_exit ?_
      refine block_here ?_
      refine then_normal ?_
      refine code_seq ?_
      refine seq_start (l := [0, 1, 2]) rfl ?_
      refine seq_one (op_val (v := .int .i64 0) hf52 rfl rfl rfl rfl rfl rfl (r_assign rfl) fun ac49 hf53 => ?_)
      refine seq_one (op_val (v := .int .i64 0) hf53 rfl rfl rfl rfl rfl rfl (r_assign rfl) fun ac50 hf54 => ?_)
      refine seq_one (op_val (v := .bool false) hf54 rfl rfl rfl rfl rfl rfl (r_assign rfl) fun ac51 hf55 => ?_)
      refine seq_end ?_
      clear ac48 hf52 ac49 hf53 ac50 hf54
      refine then_normal ?_
      refine wp_ret ?_
      obtain ⟨e1, e2, e3⟩ := Ro.some2 c20_1 c20_2
      exact post3 rfl hf55 rfl rfl rfl ⟨by rw [e1, e2, e3], (Inv.drop (A := [(lb, arr .i64 r.c.lk, 103), (ob, arr .i64 r.c.of, 3), (mb, arr .i64 r.c.mn, 3), (cb, #[.slice (some ⟨lb, 0, none⟩) (N + 2) (N + 2), .slice (some ⟨ob, 0, none⟩) N N, .slice (some ⟨mb, 0, none⟩) 2 2], 79), (rc, arr .i64 r.cr, 3), (rb, #[.pointer (some ⟨cb, 0, none⟩), .slice (some ⟨rc, 0, none⟩) N N, .int .i64 r.q], 45)]) (B := [(b1, #[.pointer (some ⟨cb, 0, none⟩)], 43)]) hI5 (fresh_keys (ks := [b1]) rfl (fk_cons hb1 fk_nil))).unread h0_⟩
end Go.Proofs.Ytjelaoblpchmmaa
