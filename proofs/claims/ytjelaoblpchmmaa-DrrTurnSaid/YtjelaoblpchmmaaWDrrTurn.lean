/-
  The walk of DrrTurn.
-/
import Derived.Test.YtjelaoblpchmmaaPlain6
namespace Go.Proofs.Ytjelaoblpchmmaa
set_option linter.unusedVariables false
set_option linter.unusedSimpArgs false
set_option maxRecDepth 100000
open Go.RowKit
set_option maxHeartbeats 8000000 in
theorem drrTurn_walk {p : Option Addr} {L cap : Nat} {rows : List (List Value)} (hl : rows.length = L) (hc : L ≤ cap) (ho : ∀ row ∈ rows, Oks opKinds row) {a q : Int} (eq : 64 + a = q) (hq : 64 ≤ q ∧ q ≤ 65599) {w : World} (hr : Rows_ w p 3 rows) : Calls Try.prog 13 [.int .u16 a, .slice p L cap].toArray w fun e w' => e = .returned (.bool true) ∧ Inv w [] w' := by
  have hI1 := Inv.start w
  refine enter (n := 203) Try.func13 rfl rfl rfl ?_
  intro ac1 hf1
  refine code_seq ?_
  refine seq_start (l := [0]) rfl ?_
  refine seq_one (op_val (v := .bool false) hf1 rfl rfl rfl rfl rfl rfl (r_assign rfl) fun ac2 hf2 => ?_)
  refine seq_end ?_
  clear ac1 hf1
  refine then_normal ?_
  refine code_seq ?_
  refine seq_start (l := [0, 1, 2, 3]) rfl ?_
  refine seq_one (op_val (v := .int .u16 a) hf2 rfl rfl rfl rfl rfl rfl (r_move rfl) fun ac3 hf3 => ?_)
  refine seq_one (op_val (v := .int .i64 a) hf3 rfl rfl rfl rfl rfl rfl (r_conv (c := a) ui_22 ui_3 rfl (wrap_i64 (by omega) (by omega))) fun ac4 hf4 => ?_)
  refine seq_one (op_val (v := .int .i64 q) hf4 rfl rfl rfl rfl rfl rfl (r_add (c := q) rfl rfl (by rw [eq]; exact wrap_i64 (by omega) (by omega))) fun ac5 hf5 => ?_)
  refine seq_one (op_val (v := .int .i64 q) hf5 rfl rfl rfl rfl rfl rfl (r_assign rfl) fun ac6 hf6 => ?_)
  refine seq_end ?_
  clear ac2 hf2 ac3 hf3 ac4 hf4 ac5 hf5
  refine then_normal ?_
  refine code_seq ?_
  refine seq_start (l := [0, 1, 2, 3, 4, 5, 6, 7]) rfl ?_
  refine seq_one (op_val (v := .int .i64 q) hf6 rfl rfl rfl rfl rfl rfl (r_move rfl) fun ac7 hf7 => ?_)
  refine seq_one (op_val (v := .slice p L cap) hf7 rfl rfl rfl rfl rfl rfl (r_move rfl) fun ac8 hf8 => ?_)
  refine seq_one (op_call (R := fun v w' => ∃ lb ob mb cb rc rb, ∃ r : Ro 8, r.q = q ∧ Array.size (World.heap w) ≤ lb ∧ Array.size (World.heap w) ≤ ob ∧ Array.size (World.heap w) ≤ mb ∧ Array.size (World.heap w) ≤ cb ∧ Array.size (World.heap w) ≤ rc ∧ Array.size (World.heap w) ≤ rb ∧ v = .tuple #[.pointer (some ⟨rb, 0, none⟩), .bool true] ∧ Inv w [(lb, arr .i64 r.c.lk, 103), (ob, arr .i64 r.c.of, 3), (mb, arr .i64 r.c.mn, 3), (cb, #[.slice (some ⟨lb, 0, none⟩) (8 + 2) (8 + 2), .slice (some ⟨ob, 0, none⟩) 8 8, .slice (some ⟨mb, 0, none⟩) 2 2], 79), (rc, arr .i64 r.cr, 3), (rb, #[.pointer (some ⟨cb, 0, none⟩), .slice (some ⟨rc, 0, none⟩) 8 8, .int .i64 r.q], 45)] w') hf8 rfl rfl rfl rfl ca_15 ((played17_walk ⟨hq.1, by omega⟩ hl hc ho (hr.old hI1 (fresh_keys (ks := []) rfl fk_nil))).mono fun e w' ⟨lb, ob, mb, cb, rc, rb, r, h0, h1, h2, h3, h4, h5, h6, h7, h8⟩ => ⟨_, h7, lb, ob, mb, cb, rc, rb, r, h0, h1, h2, h3, h4, h5, h6, rfl, h8⟩) fun ac9 v wd1 hR hf9 => ?_)
  obtain ⟨b1, b2, b3, b4, b5, b6, r6, hex6, hqb1, hqb2, hqb3, hqb4, hqb5, hqb6, rfl, hw6⟩ := hR
  have hb1 := Nat.le_trans hI1.size hqb1
  have hb2 := Nat.le_trans hI1.size hqb2
  have hb3 := Nat.le_trans hI1.size hqb3
  have hb4 := Nat.le_trans hI1.size hqb4
  have hb5 := Nat.le_trans hI1.size hqb5
  have hb6 := Nat.le_trans hI1.size hqb6
  have hI2 : Inv w [(b1, arr .i64 r6.c.lk, 103), (b2, arr .i64 r6.c.of, 3), (b3, arr .i64 r6.c.mn, 3), (b4, #[.slice (some ⟨b1, 0, none⟩) (8 + 2) (8 + 2), .slice (some ⟨b2, 0, none⟩) 8 8, .slice (some ⟨b3, 0, none⟩) 2 2], 79), (b5, arr .i64 r6.cr, 3), (b6, #[.pointer (some ⟨b4, 0, none⟩), .slice (some ⟨b5, 0, none⟩) 8 8, .int .i64 r6.q], 45)] _ := hI1.callN hw6 (fk6 hqb1 hqb2 hqb3 hqb4 hqb5 hqb6)
  refine seq_one (op_val (v := .tuple #[.pointer (some ⟨b6, 0, none⟩), .bool true]) hf9 rfl rfl rfl rfl rfl rfl (r_move rfl) fun ac10 hf10 => ?_)
  refine seq_one (op_val (v := .pointer (some ⟨b6, 0, none⟩)) hf10 rfl rfl rfl rfl rfl rfl (r_extract rfl rfl) fun ac11 hf11 => ?_)
  refine seq_one (op_val (v := .bool true) hf11 rfl rfl rfl rfl rfl rfl (r_extract rfl rfl) fun ac12 hf12 => ?_)
  refine seq_one (op_val (v := .pointer (some ⟨b6, 0, none⟩)) hf12 rfl rfl rfl rfl rfl rfl (r_assign rfl) fun ac13 hf13 => ?_)
  refine seq_one (op_val (v := .bool true) hf13 rfl rfl rfl rfl rfl rfl (r_assign rfl) fun ac14 hf14 => ?_)
  refine seq_end ?_
  clear ac6 hf6 ac7 hf7 ac8 hf8 hI1 hw6 hqb1 hqb2 hqb3 hqb4 hqb5 hqb6 ac9 hf9 ac10 hf10 ac11 hf11 ac12 hf12 ac13 hf13
  refine then_normal ?_
  refine code_seq ?_
  refine code_seq ?_
  refine seq_start (l := [0, 1]) rfl ?_
  refine seq_one (op_val (v := .bool true) hf14 rfl rfl rfl rfl rfl rfl (r_move rfl) fun ac15 hf15 => ?_)
  refine seq_one (op_val (v := .bool false) hf15 rfl rfl rfl rfl rfl rfl ((r_not (b := true) rfl).trans rfl) fun ac16 hf16 => ?_)
  refine seq_end ?_
  clear ac14 hf14 ac15 hf15
  refine then_normal ?_
  refine code_if_false hf16 rfl ?_
  refine wp_skip ?_
  refine then_normal ?_
  refine code_seq ?_
  refine seq_start (l := [0]) rfl ?_
  refine seq_one (op_alloc hf16 rfl rfl rfl ze_99 hI2 fun ac17 b7 wd2 hb7 hI3 hf17 => ?_)
  have hI4 : Inv w [(b1, arr .i64 r6.c.lk, 103), (b2, arr .i64 r6.c.of, 3), (b3, arr .i64 r6.c.mn, 3), (b4, #[.slice (some ⟨b1, 0, none⟩) (8 + 2) (8 + 2), .slice (some ⟨b2, 0, none⟩) 8 8, .slice (some ⟨b3, 0, none⟩) 2 2], 79), (b5, arr .i64 r6.cr, 3), (b6, #[.pointer (some ⟨b4, 0, none⟩), .slice (some ⟨b5, 0, none⟩) 8 8, .int .i64 r6.q], 45), (b7, #[.int .i64 0, .int .i64 0, .int .i64 0, .int .i64 0, .int .i64 0, .int .i64 0, .int .i64 0, .int .i64 0], 99)] wd2 := hI3
  refine seq_end ?_
  clear ac16 wd1 hI2 hf16 hI3
  refine then_normal ?_
  refine code_seq ?_
  refine code_seq ?_
  refine seq_start (l := [0]) rfl ?_
  refine seq_one (op_val (v := .int .i64 0) hf17 rfl rfl rfl rfl rfl rfl (r_move rfl) fun ac18 hf18 => ?_)
  refine seq_end ?_
  clear ac17 hf17
  refine then_normal ?_
  refine wp_block ?_
  refine code_loop (α := Nat × (List Int)) (fun (x : Nat × (List Int)) => match x with | (i, ws) => [(0, .int .u16 a), (1, .slice p L cap), (4, .bool false), (5, .int .i64 q), (6, .pointer (some ⟨b6, 0, none⟩)), (7, .bool true), (8, .pointer (some ⟨b7, 0, none⟩)), (28, .int .u16 a), (29, .int .i64 a), (30, .int .i64 q), (31, .tuple #[.pointer (some ⟨b6, 0, none⟩), .bool true]), (32, .int .i64 q), (33, .slice p L cap), (34, .tuple #[.pointer (some ⟨b6, 0, none⟩), .bool true]), (35, .pointer (some ⟨b6, 0, none⟩)), (36, .bool true), (37, .bool true), (38, .bool false), (39, .int .i64 (i : Int))]) (fun (x : Nat × (List Int)) => match x with | (i, ws) => fun wL => Inv w [(b1, arr .i64 r6.c.lk, 103), (b2, arr .i64 r6.c.of, 3), (b3, arr .i64 r6.c.mn, 3), (b4, #[.slice (some ⟨b1, 0, none⟩) (8 + 2) (8 + 2), .slice (some ⟨b2, 0, none⟩) 8 8, .slice (some ⟨b3, 0, none⟩) 2 2], 79), (b5, arr .i64 r6.cr, 3), (b6, #[.pointer (some ⟨b4, 0, none⟩), .slice (some ⟨b5, 0, none⟩) 8 8, .int .i64 r6.q], 45), (b7, arr .i64 ws, 99)] wL ∧ (i ≤ 8 ∧ Ro.Was r6 i ws)) (fun (x : Nat × (List Int)) => match x with | (i, ws) => 8 - i) (0, List.replicate 8 0) (hf18.cons 0 rfl (hf18.cons 1 rfl (hf18.cons 4 rfl (hf18.cons 5 rfl (hf18.cons 6 rfl (hf18.cons 7 rfl (hf18.cons 8 rfl (hf18.cons 28 rfl (hf18.cons 29 rfl (hf18.cons 30 rfl (hf18.cons 31 rfl (hf18.cons 32 rfl (hf18.cons 33 rfl (hf18.cons 34 rfl (hf18.cons 35 rfl (hf18.cons 36 rfl (hf18.cons 37 rfl (hf18.cons 38 rfl (hf18.cons 39 rfl hf18.nil))))))))))))))))))) ⟨hI4, ⟨Nat.zero_le _, Ro.was_0⟩⟩ ?_
  intro ⟨i, ws⟩ ac19 wd3 hf19 hL1
  obtain ⟨hI5, hx1⟩ := hL1
  dsimp only at hf19 hI5 hx1
  clear ac18 wd2 hf18 hI4
  refine code_seq ?_
  refine seq_start (l := [0]) rfl ?_
  refine seq_one (op_val (v := .bool (decide ((i : Int) < 8))) hf19 rfl rfl rfl rfl rfl rfl (r_lss rfl rfl) fun ac20 hf20 => ?_)
  refine seq_end ?_
  clear ac19 hf19
  refine then_normal ?_
  refine code_seq ?_
  refine code_if hf20 rfl (fun c40_1 => ?_) (fun c40_1 => ?_)
  · have hf21 := hf20.know 40 (u := .bool true) rfl (congrArg Value.bool c40_1)
    refine wp_skip ?_
    refine then_normal ?_
    refine code_seq ?_
    refine wp_block ?_
    refine code_seq ?_
    refine seq_start (l := [0, 1]) rfl ?_
    refine seq_one (op_val (v := .int .i64 (i : Int)) hf21 rfl rfl rfl rfl rfl rfl (r_move rfl) fun ac21 hf22 => ?_)
    refine seq_one (op_val (v := .int .i64 (i : Int)) hf22 rfl rfl rfl rfl rfl rfl (r_assign rfl) fun ac22 hf23 => ?_)
    refine seq_end ?_
    clear hf20 ac20 hf21 ac21 hf22
    refine then_normal ?_
    refine seq_start (l := [0, 1, 2, 3, 4, 5, 6, 7, 8]) rfl ?_
    refine seq_one (op_val (v := .int .i64 (i : Int)) hf23 rfl rfl rfl rfl rfl rfl (r_move rfl) fun ac23 hf24 => ?_)
    refine seq_one (op_val (v := .pointer (some ⟨b6, 0, none⟩)) hf24 rfl rfl rfl rfl rfl rfl (r_move rfl) fun ac24 hf25 => ?_)
    refine seq_one (op_val (v := .int .i64 (i : Int)) hf25 rfl rfl rfl rfl rfl rfl (r_move rfl) fun ac25 hf26 => ?_)
    refine seq_one (op_pureW hf26 rfl rfl rfl rfl ca_17 (credit_any (hI5.nd6 0 rfl rfl rfl rfl rfl rfl) r6 (Has.cons (hI5.at 0 rfl) (Has.cons (hI5.at 1 rfl) (Has.cons (hI5.at 2 rfl) (Has.cons (hI5.at 3 rfl) (Has.cons (hI5.at 4 rfl) (Has.cons (hI5.at 5 rfl) Has.nil)))))) (i : Int)) hI5 fun ac26 wd4 hI6 hf27 => ?_)
    refine seq_one (op_val (v := .tuple #[.int .i64 (r6.crV (i : Int)), .bool (r6.c.inn (i : Int))]) hf27 rfl rfl rfl rfl rfl rfl (r_move rfl) fun ac27 hf28 => ?_)
    refine seq_one (op_val (v := .int .i64 (r6.crV (i : Int))) hf28 rfl rfl rfl rfl rfl rfl (r_extract rfl rfl) fun ac28 hf29 => ?_)
    refine seq_one (op_val (v := .bool (r6.c.inn (i : Int))) hf29 rfl rfl rfl rfl rfl rfl (r_extract rfl rfl) fun ac29 hf30 => ?_)
    refine seq_one (op_val (v := .pointer (some ⟨b7, i, none⟩)) hf30 rfl rfl rfl rfl rfl rfl (r_indexAddr (i := i) ar_99 rfl rfl rfl (by have := of_decide_eq_true c40_1; omega) (by rw [Nat.mul_one, Nat.zero_add])) fun ac30 hf31 => ?_)
    refine seq_one (op_store (cs' := arr .i64 (ws.set i (r6.crV (i : Int)))) 6 hf31 rfl rfl rfl rfl rfl sz_3 hI6 rfl (Nat.lt_of_lt_of_eq (by have := of_decide_eq_true c40_1; omega) (Eq.symm (arr_size hx1.2.1))) arr_set fun wd5 hI7 => ?_)
    have hI8 : Inv w [(b1, arr .i64 r6.c.lk, 103), (b2, arr .i64 r6.c.of, 3), (b3, arr .i64 r6.c.mn, 3), (b4, #[.slice (some ⟨b1, 0, none⟩) (8 + 2) (8 + 2), .slice (some ⟨b2, 0, none⟩) 8 8, .slice (some ⟨b3, 0, none⟩) 2 2], 79), (b5, arr .i64 r6.cr, 3), (b6, #[.pointer (some ⟨b4, 0, none⟩), .slice (some ⟨b5, 0, none⟩) 8 8, .int .i64 r6.q], 45), (b7, arr .i64 (ws.set i (r6.crV (i : Int))), 99)] wd5 := hI7
    refine seq_end ?_
    clear ac22 hf23 ac23 hf24 ac24 hf25 ac25 wd3 hI5 hf26 ac26 hf27 ac27 hf28 ac28 hf29 ac29 hf30 wd4 hI6 hI7
    refine block_normal ?_
    refine then_normal ?_
    refine seq_start (l := [0, 1]) rfl ?_
    refine seq_one (op_val (v := .int .i64 ((i + 1 : Nat) : Int)) hf31 rfl rfl rfl rfl rfl rfl (r_add (c := ((i + 1 : Nat) : Int)) rfl rfl (wrap_i64 (by omega) (by have := hx1.1; omega))) fun ac31 hf32 => ?_)
    refine seq_one (op_val (v := .int .i64 ((i + 1 : Nat) : Int)) hf32 rfl rfl rfl rfl rfl rfl (r_move rfl) fun ac32 hf33 => ?_)
    refine seq_end ?_
    clear ac30 hf31 ac31 hf32
    refine then_normal ?_
    exact ⟨(i + 1, (ws.set i (r6.crV (i : Int)))), (hf33.cons 0 rfl (hf33.cons 1 rfl (hf33.cons 4 rfl (hf33.cons 5 rfl (hf33.cons 6 rfl (hf33.cons 7 rfl (hf33.cons 8 rfl (hf33.cons 28 rfl (hf33.cons 29 rfl (hf33.cons 30 rfl (hf33.cons 31 rfl (hf33.cons 32 rfl (hf33.cons 33 rfl (hf33.cons 34 rfl (hf33.cons 35 rfl (hf33.cons 36 rfl (hf33.cons 37 rfl (hf33.cons 38 rfl (hf33.cons 39 rfl hf33.nil))))))))))))))))))), ⟨hI8, ⟨by have := of_decide_eq_true c40_1; omega, Ro.was_s hx1.2 (by have := of_decide_eq_true c40_1; omega)⟩⟩, (by have := of_decide_eq_true c40_1; show 8 - (i + 1) < 8 - i; omega)⟩
  · have hf34 := hf20.know 40 (u := .bool false) rfl (congrArg Value.bool c40_1)
    refine wp_exit ?_
    refine then_exit ?_
    refine then_exit ?_
    refine block_here ?_
    refine then_normal ?_
    refine code_seq ?_
    refine seq_start (l := [0, 1, 2, 3, 4, 5, 6]) rfl ?_
    refine seq_one (op_val (v := .pointer (some ⟨b6, 0, none⟩)) hf34 rfl rfl rfl rfl rfl rfl (r_move rfl) fun ac33 hf35 => ?_)
    refine seq_one (op_call (R := fun v w' => ∃ S p cap T q caq, v = .tuple #[.slice p (r6.c.lst 0).length cap, .slice q (r6.c.lst 1).length caq] ∧ Sl 3 .i64 S p cap (r6.c.lst 0) ∧ Sl 3 .i64 T q caq (r6.c.lst 1) ∧ Inv _ (S ++ T) w' ∧ (∀ x ∈ S, Array.size (World.heap _) ≤ x.1) ∧ ∀ x ∈ T, Array.size (World.heap _) ≤ x.1) hf35 rfl rfl rfl rfl ca_16 ((lists_any (hI5.nd6 0 rfl rfl rfl rfl rfl rfl) r6 (Has.cons (hI5.at 0 rfl) (Has.cons (hI5.at 1 rfl) (Has.cons (hI5.at 2 rfl) (Has.cons (hI5.at 3 rfl) (Has.cons (hI5.at 4 rfl) (Has.cons (hI5.at 5 rfl) Has.nil))))))).mono fun _ _ ⟨S, p, cap, T, q, caq, he, h1, h2, h3, h4, h5⟩ => ⟨_, he, S, p, cap, T, q, caq, rfl, h1, h2, h3, h4, h5⟩) fun ac34 v wd6 hR hf36 => ?_)
    obtain ⟨Sq8, q8, capq8, Sq9, q9, capq9, rfl, hsq8, hsq9, hwq8, hzq8, hzq9⟩ := hR
    have hyq8 := fk_le hI5.size hzq8
    have hyq9 := fk_le hI5.size hzq9
    have hI9 := hI5.callN2 hwq8 hzq8 hzq9
    have hI10 : Inv w ([(b1, arr .i64 r6.c.lk, 103), (b2, arr .i64 r6.c.of, 3), (b3, arr .i64 r6.c.mn, 3), (b4, #[.slice (some ⟨b1, 0, none⟩) (8 + 2) (8 + 2), .slice (some ⟨b2, 0, none⟩) 8 8, .slice (some ⟨b3, 0, none⟩) 2 2], 79), (b5, arr .i64 r6.cr, 3), (b6, #[.pointer (some ⟨b4, 0, none⟩), .slice (some ⟨b5, 0, none⟩) 8 8, .int .i64 r6.q], 45), (b7, arr .i64 ws, 99)] ++ (Sq8 ++ Sq9)) _ := hI9
    refine seq_one (op_val (v := .tuple #[.slice q8 ((r6.c.lst 0).length) capq8, .slice q9 ((r6.c.lst 1).length) capq9]) hf36 rfl rfl rfl rfl rfl rfl (r_move rfl) fun ac35 hf37 => ?_)
    refine seq_one (op_val (v := .slice q8 ((r6.c.lst 0).length) capq8) hf37 rfl rfl rfl rfl rfl rfl (r_extract rfl rfl) fun ac36 hf38 => ?_)
    refine seq_one (op_val (v := .slice q9 ((r6.c.lst 1).length) capq9) hf38 rfl rfl rfl rfl rfl rfl (r_extract rfl rfl) fun ac37 hf39 => ?_)
    refine seq_one (op_val (v := .slice q8 ((r6.c.lst 0).length) capq8) hf39 rfl rfl rfl rfl rfl rfl (r_assign rfl) fun ac38 hf40 => ?_)
    refine seq_one (op_val (v := .slice q9 ((r6.c.lst 1).length) capq9) hf40 rfl rfl rfl rfl rfl rfl (r_assign rfl) fun ac39 hf41 => ?_)
    refine seq_end ?_
    clear hf20 ac20 hf34 ac33 wd3 hf35 hI5 hI9 hwq8 hzq8 hzq9 ac34 hf36 ac35 hf37 ac36 hf38 ac37 hf39 ac38 hf40
    refine then_normal ?_
    refine code_seq ?_
    refine seq_start (l := [0, 1, 2, 3, 4, 5, 6, 7, 8]) rfl ?_
    refine seq_one (op_val (v := .pointer (some ⟨b6, 0, none⟩)) hf41 rfl rfl rfl rfl rfl rfl (r_move rfl) fun ac40 hf42 => ?_)
    refine seq_one (op_call (R := fun v w' => v = .tuple #[.int .i64 r6.head.f, .int .i64 r6.headC, .bool r6.head.ok] ∧ Inv _ [(b1, arr .i64 r6.head.c.lk, 103), (b2, arr .i64 r6.head.c.of, 3), (b3, arr .i64 r6.head.c.mn, 3), (b4, #[.slice (some ⟨b1, 0, none⟩) (8 + 2) (8 + 2), .slice (some ⟨b2, 0, none⟩) 8 8, .slice (some ⟨b3, 0, none⟩) 2 2], 79), (b5, arr .i64 r6.head.cr, 3), (b6, #[.pointer (some ⟨b4, 0, none⟩), .slice (some ⟨b5, 0, none⟩) 8 8, .int .i64 r6.head.q], 45)] w') hf42 rfl rfl rfl rfl ca_20 ((head_any (hI10.nd6 0 rfl rfl rfl rfl rfl rfl) r6 (Has.cons (hI10.at 0 rfl) (Has.cons (hI10.at 1 rfl) (Has.cons (hI10.at 2 rfl) (Has.cons (hI10.at 3 rfl) (Has.cons (hI10.at 4 rfl) (Has.cons (hI10.at 5 rfl) Has.nil)))))) ).mono fun _ _ h => ⟨_, h.1, rfl, h.2⟩) fun ac41 v wd7 hR10 hf43 => ?_)
    obtain ⟨rfl, hR10⟩ := hR10
    have hI11 : Inv w ([(b1, arr .i64 r6.head.c.lk, 103), (b2, arr .i64 r6.head.c.of, 3), (b3, arr .i64 r6.head.c.mn, 3), (b4, #[.slice (some ⟨b1, 0, none⟩) (8 + 2) (8 + 2), .slice (some ⟨b2, 0, none⟩) 8 8, .slice (some ⟨b3, 0, none⟩) 2 2], 79), (b5, arr .i64 r6.head.cr, 3), (b6, #[.pointer (some ⟨b4, 0, none⟩), .slice (some ⟨b5, 0, none⟩) 8 8, .int .i64 r6.head.q], 45), (b7, arr .i64 ws, 99)] ++ (Sq8 ++ Sq9)) _ := Inv.callST (A := []) (S := [(b1, arr .i64 r6.c.lk, 103), (b2, arr .i64 r6.c.of, 3), (b3, arr .i64 r6.c.mn, 3), (b4, #[.slice (some ⟨b1, 0, none⟩) (8 + 2) (8 + 2), .slice (some ⟨b2, 0, none⟩) 8 8, .slice (some ⟨b3, 0, none⟩) 2 2], 79), (b5, arr .i64 r6.cr, 3), (b6, #[.pointer (some ⟨b4, 0, none⟩), .slice (some ⟨b5, 0, none⟩) 8 8, .int .i64 r6.q], 45)]) (S' := [(b1, arr .i64 r6.head.c.lk, 103), (b2, arr .i64 r6.head.c.of, 3), (b3, arr .i64 r6.head.c.mn, 3), (b4, #[.slice (some ⟨b1, 0, none⟩) (8 + 2) (8 + 2), .slice (some ⟨b2, 0, none⟩) 8 8, .slice (some ⟨b3, 0, none⟩) 2 2], 79), (b5, arr .i64 r6.head.cr, 3), (b6, #[.pointer (some ⟨b4, 0, none⟩), .slice (some ⟨b5, 0, none⟩) 8 8, .int .i64 r6.head.q], 45)]) (L := [(b7, arr .i64 ws, 99)]) (N := []) (T := (Sq8 ++ Sq9)) hI10 hR10 rfl (fun _ h => by cases h)
    obtain ⟨r11, er11⟩ : ∃ r : Ro 8, r = r6.head := ⟨_, rfl⟩
    rw [← er11] at hI11
    refine seq_one (op_val (v := .tuple #[.int .i64 r6.head.f, .int .i64 r6.headC, .bool r6.head.ok]) hf43 rfl rfl rfl rfl rfl rfl (r_move rfl) fun ac42 hf44 => ?_)
    refine seq_one (op_val (v := .int .i64 r6.head.f) hf44 rfl rfl rfl rfl rfl rfl (r_extract rfl rfl) fun ac43 hf45 => ?_)
    refine seq_one (op_val (v := .int .i64 r6.headC) hf45 rfl rfl rfl rfl rfl rfl (r_extract rfl rfl) fun ac44 hf46 => ?_)
    refine seq_one (op_val (v := .bool r6.head.ok) hf46 rfl rfl rfl rfl rfl rfl (r_extract rfl rfl) fun ac45 hf47 => ?_)
    refine seq_one (op_val (v := .int .i64 r6.head.f) hf47 rfl rfl rfl rfl rfl rfl (r_assign rfl) fun ac46 hf48 => ?_)
    refine seq_one (op_val (v := .int .i64 r6.headC) hf48 rfl rfl rfl rfl rfl rfl (r_assign rfl) fun ac47 hf49 => ?_)
    refine seq_one (op_val (v := .bool r6.head.ok) hf49 rfl rfl rfl rfl rfl rfl (r_assign rfl) fun ac48 hf50 => ?_)
    refine seq_end ?_
    clear ac39 hf41 ac40 wd6 hf42 hI10 hR10 ac41 hf43 ac42 hf44 ac43 hf45 ac44 hf46 ac45 hf47 ac46 hf48 ac47 hf49
    refine then_normal ?_
    refine code_seq ?_
    refine seq_start (l := [0, 1, 2, 3, 4, 5, 6]) rfl ?_
    refine seq_one (op_val (v := .pointer (some ⟨b6, 0, none⟩)) hf50 rfl rfl rfl rfl rfl rfl (r_move rfl) fun ac49 hf51 => ?_)
    refine seq_one (op_call (R := fun v w' => ∃ S p cap T q caq, v = .tuple #[.slice p (r11.c.lst 0).length cap, .slice q (r11.c.lst 1).length caq] ∧ Sl 3 .i64 S p cap (r11.c.lst 0) ∧ Sl 3 .i64 T q caq (r11.c.lst 1) ∧ Inv _ (S ++ T) w' ∧ (∀ x ∈ S, Array.size (World.heap _) ≤ x.1) ∧ ∀ x ∈ T, Array.size (World.heap _) ≤ x.1) hf51 rfl rfl rfl rfl ca_16 ((lists_any (hI11.nd6 0 rfl rfl rfl rfl rfl rfl) r11 (Has.cons (hI11.at 0 rfl) (Has.cons (hI11.at 1 rfl) (Has.cons (hI11.at 2 rfl) (Has.cons (hI11.at 3 rfl) (Has.cons (hI11.at 4 rfl) (Has.cons (hI11.at 5 rfl) Has.nil))))))).mono fun _ _ ⟨S, p, cap, T, q, caq, he, h1, h2, h3, h4, h5⟩ => ⟨_, he, S, p, cap, T, q, caq, rfl, h1, h2, h3, h4, h5⟩) fun ac50 v wd8 hR hf52 => ?_)
    obtain ⟨Sq12, q12, capq12, Sq13, q13, capq13, rfl, hsq12, hsq13, hwq12, hzq12, hzq13⟩ := hR
    have hyq12 := fk_le hI11.size hzq12
    have hyq13 := fk_le hI11.size hzq13
    have hI12 := hI11.callN2 hwq12 hzq12 hzq13
    have hI13 : Inv w ([(b1, arr .i64 r11.c.lk, 103), (b2, arr .i64 r11.c.of, 3), (b3, arr .i64 r11.c.mn, 3), (b4, #[.slice (some ⟨b1, 0, none⟩) (8 + 2) (8 + 2), .slice (some ⟨b2, 0, none⟩) 8 8, .slice (some ⟨b3, 0, none⟩) 2 2], 79), (b5, arr .i64 r11.cr, 3), (b6, #[.pointer (some ⟨b4, 0, none⟩), .slice (some ⟨b5, 0, none⟩) 8 8, .int .i64 r11.q], 45), (b7, arr .i64 ws, 99)] ++ (((Sq8 ++ Sq9) ++ Sq12) ++ Sq13)) _ := hI12
    refine seq_one (op_val (v := .tuple #[.slice q12 ((r11.c.lst 0).length) capq12, .slice q13 ((r11.c.lst 1).length) capq13]) hf52 rfl rfl rfl rfl rfl rfl (r_move rfl) fun ac51 hf53 => ?_)
    refine seq_one (op_val (v := .slice q12 ((r11.c.lst 0).length) capq12) hf53 rfl rfl rfl rfl rfl rfl (r_extract rfl rfl) fun ac52 hf54 => ?_)
    refine seq_one (op_val (v := .slice q13 ((r11.c.lst 1).length) capq13) hf54 rfl rfl rfl rfl rfl rfl (r_extract rfl rfl) fun ac53 hf55 => ?_)
    refine seq_one (op_val (v := .slice q12 ((r11.c.lst 0).length) capq12) hf55 rfl rfl rfl rfl rfl rfl (r_assign rfl) fun ac54 hf56 => ?_)
    refine seq_one (op_val (v := .slice q13 ((r11.c.lst 1).length) capq13) hf56 rfl rfl rfl rfl rfl rfl (r_assign rfl) fun ac55 hf57 => ?_)
    refine seq_end ?_
    clear ac48 hf50 ac49 wd7 hf51 hI11 hI12 hwq12 hzq12 hzq13 ac50 hf52 ac51 hf53 ac52 hf54 ac53 hf55 ac54 hf56
    refine then_normal ?_
    refine code_seq ?_
    refine code_seq ?_
    refine seq_start (l := [0, 1, 2, 3, 4, 5, 6, 7, 8, 9, 10, 11, 12, 13, 14, 15, 16, 17, 18, 19, 20, 21, 22, 23, 24, 25, 26, 27]) rfl ?_
    refine seq_one (op_val (v := .bool r6.head.ok) hf57 rfl rfl rfl rfl rfl rfl (r_move rfl) fun ac56 hf58 => ?_)
    refine seq_one (op_val (v := .slice q8 ((r6.c.lst 0).length) capq8) hf58 rfl rfl rfl rfl rfl rfl (r_move rfl) fun ac57 hf59 => ?_)
    refine seq_one (op_val (v := .int .i64 ((r6.c.lst 0).length : Int)) hf59 rfl rfl rfl rfl rfl rfl (r_len sl_27 rfl) fun ac58 hf60 => ?_)
    refine seq_one (op_val (v := .slice q9 ((r6.c.lst 1).length) capq9) hf60 rfl rfl rfl rfl rfl rfl (r_move rfl) fun ac59 hf61 => ?_)
    refine seq_one (op_val (v := .int .i64 ((r6.c.lst 1).length : Int)) hf61 rfl rfl rfl rfl rfl rfl (r_len sl_27 rfl) fun ac60 hf62 => ?_)
    refine seq_one (op_val (v := .int .i64 (((r6.c.lst 0).length + (r6.c.lst 1).length : Nat) : Int)) hf62 rfl rfl rfl rfl rfl rfl (r_add (c := (((r6.c.lst 0).length + (r6.c.lst 1).length : Nat) : Int)) rfl rfl (Ro.t12 r6)) fun ac61 hf63 => ?_)
    refine seq_one (op_val (v := .bool (decide ((((r6.c.lst 0).length + (r6.c.lst 1).length : Nat) : Int) > 0))) hf63 rfl rfl rfl rfl rfl rfl (r_gtr rfl rfl) fun ac62 hf64 => ?_)
    refine seq_one (op_val (v := .bool (r6.head.ok != (decide ((((r6.c.lst 0).length + (r6.c.lst 1).length : Nat) : Int) > 0)))) hf64 rfl rfl rfl rfl rfl rfl (r_neB ub_4 rfl rfl) fun ac63 hf65 => ?_)
    refine seq_one (op_val (v := .bool (r6.head.ok != (decide ((((r6.c.lst 0).length + (r6.c.lst 1).length : Nat) : Int) > 0)))) hf65 rfl rfl rfl rfl rfl rfl (r_move rfl) fun ac64 hf66 => ?_)
    have hf67 := hf66.know 75 (u := .bool false) rfl (congrArg Value.bool (Ro.t1))
    refine seq_one (op_val (v := .slice q12 ((r11.c.lst 0).length) capq12) hf67 rfl rfl rfl rfl rfl rfl (r_move rfl) fun ac65 hf68 => ?_)
    refine seq_one (op_val (v := .int .i64 ((r11.c.lst 0).length : Int)) hf68 rfl rfl rfl rfl rfl rfl (r_len sl_27 rfl) fun ac66 hf69 => ?_)
    refine seq_one (op_val (v := .slice q13 ((r11.c.lst 1).length) capq13) hf69 rfl rfl rfl rfl rfl rfl (r_move rfl) fun ac67 hf70 => ?_)
    refine seq_one (op_val (v := .int .i64 ((r11.c.lst 1).length : Int)) hf70 rfl rfl rfl rfl rfl rfl (r_len sl_27 rfl) fun ac68 hf71 => ?_)
    refine seq_one (op_val (v := .int .i64 (((r11.c.lst 0).length + (r11.c.lst 1).length : Nat) : Int)) hf71 rfl rfl rfl rfl rfl rfl (r_add (c := (((r11.c.lst 0).length + (r11.c.lst 1).length : Nat) : Int)) rfl rfl (Ro.t12 r11)) fun ac69 hf72 => ?_)
    refine seq_one (op_val (v := .slice q8 ((r6.c.lst 0).length) capq8) hf72 rfl rfl rfl rfl rfl rfl (r_move rfl) fun ac70 hf73 => ?_)
    refine seq_one (op_val (v := .int .i64 ((r6.c.lst 0).length : Int)) hf73 rfl rfl rfl rfl rfl rfl (r_len sl_27 rfl) fun ac71 hf74 => ?_)
    refine seq_one (op_val (v := .slice q9 ((r6.c.lst 1).length) capq9) hf74 rfl rfl rfl rfl rfl rfl (r_move rfl) fun ac72 hf75 => ?_)
    refine seq_one (op_val (v := .int .i64 ((r6.c.lst 1).length : Int)) hf75 rfl rfl rfl rfl rfl rfl (r_len sl_27 rfl) fun ac73 hf76 => ?_)
    refine seq_one (op_val (v := .int .i64 (((r6.c.lst 0).length + (r6.c.lst 1).length : Nat) : Int)) hf76 rfl rfl rfl rfl rfl rfl (r_add (c := (((r6.c.lst 0).length + (r6.c.lst 1).length : Nat) : Int)) rfl rfl (Ro.t12 r6)) fun ac74 hf77 => ?_)
    refine seq_one (op_val (v := .bool ((((r11.c.lst 0).length + (r11.c.lst 1).length : Nat) : Int) != (((r6.c.lst 0).length + (r6.c.lst 1).length : Nat) : Int))) hf77 rfl rfl rfl rfl rfl rfl (r_neq rfl rfl) fun ac75 hf78 => ?_)
    refine seq_one (op_val (v := .bool ((((r11.c.lst 0).length + (r11.c.lst 1).length : Nat) : Int) != (((r6.c.lst 0).length + (r6.c.lst 1).length : Nat) : Int))) hf78 rfl rfl rfl rfl rfl rfl (r_pickF rfl rfl) fun ac76 hf79 => ?_)
    refine seq_one (op_val (v := .bool ((((r11.c.lst 0).length + (r11.c.lst 1).length : Nat) : Int) != (((r6.c.lst 0).length + (r6.c.lst 1).length : Nat) : Int))) hf79 rfl rfl rfl rfl rfl rfl (r_move rfl) fun ac77 hf80 => ?_)
    have hf81 := hf80.know 88 (u := .bool false) rfl (congrArg Value.bool (Ro.t2 er11))
    refine seq_one (op_val (v := .slice q12 ((r11.c.lst 0).length) capq12) hf81 rfl rfl rfl rfl rfl rfl (r_move rfl) fun ac78 hf82 => ?_)
    refine seq_one (op_val (v := .int .i64 ((r11.c.lst 0).length : Int)) hf82 rfl rfl rfl rfl rfl rfl (r_len sl_27 rfl) fun ac79 hf83 => ?_)
    refine seq_one (op_val (v := .slice q8 ((r6.c.lst 0).length) capq8) hf83 rfl rfl rfl rfl rfl rfl (r_move rfl) fun ac80 hf84 => ?_)
    refine seq_one (op_val (v := .int .i64 ((r6.c.lst 0).length : Int)) hf84 rfl rfl rfl rfl rfl rfl (r_len sl_27 rfl) fun ac81 hf85 => ?_)
    refine seq_one (op_val (v := .bool (decide (((r11.c.lst 0).length : Int) > ((r6.c.lst 0).length : Int)))) hf85 rfl rfl rfl rfl rfl rfl (r_gtr rfl rfl) fun ac82 hf86 => ?_)
    refine seq_one (op_val (v := .bool (decide (((r11.c.lst 0).length : Int) > ((r6.c.lst 0).length : Int)))) hf86 rfl rfl rfl rfl rfl rfl (r_pickF rfl rfl) fun ac83 hf87 => ?_)
    refine seq_end ?_
    clear ac55 hf57 ac56 hf58 ac57 hf59 ac58 hf60 ac59 hf61 ac60 hf62 ac61 hf63 ac62 hf64 ac63 hf65 hf66 ac64 hf67 ac65 hf68 ac66 hf69 ac67 hf70 ac68 hf71 ac69 hf72 ac70 hf73 ac71 hf74 ac72 hf75 ac73 hf76 ac74 hf77 ac75 hf78 ac76 hf79 hf80 ac77 hf81 ac78 hf82 ac79 hf83 ac80 hf84 ac81 hf85 ac82 hf86
    refine then_normal ?_
    have hf88 := hf87.know 94 (u := .bool false) rfl (congrArg Value.bool (Ro.t3 er11))
    refine code_if_false hf88 rfl ?_
    refine wp_skip ?_
    refine then_normal ?_
    refine code_seq ?_
    refine seq_start (l := [0, 1, 2, 3, 4, 5, 6, 7, 8]) rfl ?_
    refine seq_one (op_val (v := .pointer (some ⟨b6, 0, none⟩)) hf88 rfl rfl rfl rfl rfl rfl (r_move rfl) fun ac84 hf89 => ?_)
    refine seq_one (op_call (R := fun v w' => v = .tuple #[.int .i64 r11.head.f, .int .i64 r11.headC, .bool r11.head.ok] ∧ Inv _ [(b1, arr .i64 r11.head.c.lk, 103), (b2, arr .i64 r11.head.c.of, 3), (b3, arr .i64 r11.head.c.mn, 3), (b4, #[.slice (some ⟨b1, 0, none⟩) (8 + 2) (8 + 2), .slice (some ⟨b2, 0, none⟩) 8 8, .slice (some ⟨b3, 0, none⟩) 2 2], 79), (b5, arr .i64 r11.head.cr, 3), (b6, #[.pointer (some ⟨b4, 0, none⟩), .slice (some ⟨b5, 0, none⟩) 8 8, .int .i64 r11.head.q], 45)] w') hf89 rfl rfl rfl rfl ca_20 ((head_any (hI13.nd6 0 rfl rfl rfl rfl rfl rfl) r11 (Has.cons (hI13.at 0 rfl) (Has.cons (hI13.at 1 rfl) (Has.cons (hI13.at 2 rfl) (Has.cons (hI13.at 3 rfl) (Has.cons (hI13.at 4 rfl) (Has.cons (hI13.at 5 rfl) Has.nil)))))) ).mono fun _ _ h => ⟨_, h.1, rfl, h.2⟩) fun ac85 v wd9 hR14 hf90 => ?_)
    obtain ⟨rfl, hR14⟩ := hR14
    have hI14 : Inv w ([(b1, arr .i64 r11.head.c.lk, 103), (b2, arr .i64 r11.head.c.of, 3), (b3, arr .i64 r11.head.c.mn, 3), (b4, #[.slice (some ⟨b1, 0, none⟩) (8 + 2) (8 + 2), .slice (some ⟨b2, 0, none⟩) 8 8, .slice (some ⟨b3, 0, none⟩) 2 2], 79), (b5, arr .i64 r11.head.cr, 3), (b6, #[.pointer (some ⟨b4, 0, none⟩), .slice (some ⟨b5, 0, none⟩) 8 8, .int .i64 r11.head.q], 45), (b7, arr .i64 ws, 99)] ++ (((Sq8 ++ Sq9) ++ Sq12) ++ Sq13)) _ := Inv.callST (A := []) (S := [(b1, arr .i64 r11.c.lk, 103), (b2, arr .i64 r11.c.of, 3), (b3, arr .i64 r11.c.mn, 3), (b4, #[.slice (some ⟨b1, 0, none⟩) (8 + 2) (8 + 2), .slice (some ⟨b2, 0, none⟩) 8 8, .slice (some ⟨b3, 0, none⟩) 2 2], 79), (b5, arr .i64 r11.cr, 3), (b6, #[.pointer (some ⟨b4, 0, none⟩), .slice (some ⟨b5, 0, none⟩) 8 8, .int .i64 r11.q], 45)]) (S' := [(b1, arr .i64 r11.head.c.lk, 103), (b2, arr .i64 r11.head.c.of, 3), (b3, arr .i64 r11.head.c.mn, 3), (b4, #[.slice (some ⟨b1, 0, none⟩) (8 + 2) (8 + 2), .slice (some ⟨b2, 0, none⟩) 8 8, .slice (some ⟨b3, 0, none⟩) 2 2], 79), (b5, arr .i64 r11.head.cr, 3), (b6, #[.pointer (some ⟨b4, 0, none⟩), .slice (some ⟨b5, 0, none⟩) 8 8, .int .i64 r11.head.q], 45)]) (L := [(b7, arr .i64 ws, 99)]) (N := []) (T := (((Sq8 ++ Sq9) ++ Sq12) ++ Sq13)) hI13 hR14 rfl (fun _ h => by cases h)
    obtain ⟨r15, er15⟩ : ∃ r : Ro 8, r = r11.head := ⟨_, rfl⟩
    rw [← er15] at hI14
    refine seq_one (op_val (v := .tuple #[.int .i64 r11.head.f, .int .i64 r11.headC, .bool r11.head.ok]) hf90 rfl rfl rfl rfl rfl rfl (r_move rfl) fun ac86 hf91 => ?_)
    refine seq_one (op_val (v := .int .i64 r11.head.f) hf91 rfl rfl rfl rfl rfl rfl (r_extract rfl rfl) fun ac87 hf92 => ?_)
    refine seq_one (op_val (v := .int .i64 r11.headC) hf92 rfl rfl rfl rfl rfl rfl (r_extract rfl rfl) fun ac88 hf93 => ?_)
    refine seq_one (op_val (v := .bool r11.head.ok) hf93 rfl rfl rfl rfl rfl rfl (r_extract rfl rfl) fun ac89 hf94 => ?_)
    refine seq_one (op_val (v := .int .i64 r11.head.f) hf94 rfl rfl rfl rfl rfl rfl (r_assign rfl) fun ac90 hf95 => ?_)
    refine seq_one (op_val (v := .int .i64 r11.headC) hf95 rfl rfl rfl rfl rfl rfl (r_assign rfl) fun ac91 hf96 => ?_)
    refine seq_one (op_val (v := .bool r11.head.ok) hf96 rfl rfl rfl rfl rfl rfl (r_assign rfl) fun ac92 hf97 => ?_)
    refine seq_end ?_
    clear hf87 ac83 hf88 ac84 wd8 hf89 hI13 hR14 ac85 hf90 ac86 hf91 ac87 hf92 ac88 hf93 ac89 hf94 ac90 hf95 ac91 hf96
    refine then_normal ?_
    refine code_seq ?_
    refine seq_start (l := [0, 1, 2, 3, 4, 5, 6]) rfl ?_
    refine seq_one (op_val (v := .pointer (some ⟨b6, 0, none⟩)) hf97 rfl rfl rfl rfl rfl rfl (r_move rfl) fun ac93 hf98 => ?_)
    refine seq_one (op_call (R := fun v w' => ∃ S p cap T q caq, v = .tuple #[.slice p (r15.c.lst 0).length cap, .slice q (r15.c.lst 1).length caq] ∧ Sl 3 .i64 S p cap (r15.c.lst 0) ∧ Sl 3 .i64 T q caq (r15.c.lst 1) ∧ Inv _ (S ++ T) w' ∧ (∀ x ∈ S, Array.size (World.heap _) ≤ x.1) ∧ ∀ x ∈ T, Array.size (World.heap _) ≤ x.1) hf98 rfl rfl rfl rfl ca_16 ((lists_any (hI14.nd6 0 rfl rfl rfl rfl rfl rfl) r15 (Has.cons (hI14.at 0 rfl) (Has.cons (hI14.at 1 rfl) (Has.cons (hI14.at 2 rfl) (Has.cons (hI14.at 3 rfl) (Has.cons (hI14.at 4 rfl) (Has.cons (hI14.at 5 rfl) Has.nil))))))).mono fun _ _ ⟨S, p, cap, T, q, caq, he, h1, h2, h3, h4, h5⟩ => ⟨_, he, S, p, cap, T, q, caq, rfl, h1, h2, h3, h4, h5⟩) fun ac94 v wd10 hR hf99 => ?_)
    obtain ⟨Sq16, q16, capq16, Sq17, q17, capq17, rfl, hsq16, hsq17, hwq16, hzq16, hzq17⟩ := hR
    have hyq16 := fk_le hI14.size hzq16
    have hyq17 := fk_le hI14.size hzq17
    have hI15 := hI14.callN2 hwq16 hzq16 hzq17
    have hI16 : Inv w ([(b1, arr .i64 r15.c.lk, 103), (b2, arr .i64 r15.c.of, 3), (b3, arr .i64 r15.c.mn, 3), (b4, #[.slice (some ⟨b1, 0, none⟩) (8 + 2) (8 + 2), .slice (some ⟨b2, 0, none⟩) 8 8, .slice (some ⟨b3, 0, none⟩) 2 2], 79), (b5, arr .i64 r15.cr, 3), (b6, #[.pointer (some ⟨b4, 0, none⟩), .slice (some ⟨b5, 0, none⟩) 8 8, .int .i64 r15.q], 45), (b7, arr .i64 ws, 99)] ++ (((((Sq8 ++ Sq9) ++ Sq12) ++ Sq13) ++ Sq16) ++ Sq17)) _ := hI15
    refine seq_one (op_val (v := .tuple #[.slice q16 ((r15.c.lst 0).length) capq16, .slice q17 ((r15.c.lst 1).length) capq17]) hf99 rfl rfl rfl rfl rfl rfl (r_move rfl) fun ac95 hf100 => ?_)
    refine seq_one (op_val (v := .slice q16 ((r15.c.lst 0).length) capq16) hf100 rfl rfl rfl rfl rfl rfl (r_extract rfl rfl) fun ac96 hf101 => ?_)
    refine seq_one (op_val (v := .slice q17 ((r15.c.lst 1).length) capq17) hf101 rfl rfl rfl rfl rfl rfl (r_extract rfl rfl) fun ac97 hf102 => ?_)
    refine seq_one (op_val (v := .slice q16 ((r15.c.lst 0).length) capq16) hf102 rfl rfl rfl rfl rfl rfl (r_assign rfl) fun ac98 hf103 => ?_)
    refine seq_one (op_val (v := .slice q17 ((r15.c.lst 1).length) capq17) hf103 rfl rfl rfl rfl rfl rfl (r_assign rfl) fun ac99 hf104 => ?_)
    refine seq_end ?_
    clear ac92 hf97 ac93 wd9 hf98 hI14 hI15 hwq16 hzq16 hzq17 ac94 hf99 ac95 hf100 ac96 hf101 ac97 hf102 ac98 hf103
    refine then_normal ?_
    refine code_seq ?_
    refine code_seq ?_
    refine seq_start (l := [0, 1, 2, 3, 4, 5, 6, 7, 8, 9, 10, 11, 12, 13, 14, 15, 16, 17, 18, 19, 20, 21, 22, 23, 24]) rfl ?_
    refine seq_one (op_val (v := .int .i64 r11.head.f) hf104 rfl rfl rfl rfl rfl rfl (r_move rfl) fun ac100 hf105 => ?_)
    refine seq_one (op_val (v := .int .i64 r6.head.f) hf105 rfl rfl rfl rfl rfl rfl (r_move rfl) fun ac101 hf106 => ?_)
    refine seq_one (op_val (v := .bool (r11.head.f != r6.head.f)) hf106 rfl rfl rfl rfl rfl rfl (r_neq rfl rfl) fun ac102 hf107 => ?_)
    refine seq_one (op_val (v := .bool (r11.head.f != r6.head.f)) hf107 rfl rfl rfl rfl rfl rfl (r_move rfl) fun ac103 hf108 => ?_)
    have hf109 := hf108.know 109 (u := .bool false) rfl (congrArg Value.bool ((Ro.t4 er11).1))
    refine seq_one (op_val (v := .int .i64 r11.headC) hf109 rfl rfl rfl rfl rfl rfl (r_move rfl) fun ac104 hf110 => ?_)
    refine seq_one (op_val (v := .int .i64 r6.headC) hf110 rfl rfl rfl rfl rfl rfl (r_move rfl) fun ac105 hf111 => ?_)
    refine seq_one (op_val (v := .bool (r11.headC != r6.headC)) hf111 rfl rfl rfl rfl rfl rfl (r_neq rfl rfl) fun ac106 hf112 => ?_)
    refine seq_one (op_val (v := .bool (r11.headC != r6.headC)) hf112 rfl rfl rfl rfl rfl rfl (r_pickF rfl rfl) fun ac107 hf113 => ?_)
    refine seq_one (op_val (v := .bool (r11.headC != r6.headC)) hf113 rfl rfl rfl rfl rfl rfl (r_move rfl) fun ac108 hf114 => ?_)
    have hf115 := hf114.know 114 (u := .bool false) rfl (congrArg Value.bool ((Ro.t4 er11).2.1))
    refine seq_one (op_val (v := .bool r11.head.ok) hf115 rfl rfl rfl rfl rfl rfl (r_move rfl) fun ac109 hf116 => ?_)
    refine seq_one (op_val (v := .bool r6.head.ok) hf116 rfl rfl rfl rfl rfl rfl (r_move rfl) fun ac110 hf117 => ?_)
    refine seq_one (op_val (v := .bool (r11.head.ok != r6.head.ok)) hf117 rfl rfl rfl rfl rfl rfl (r_neB ub_4 rfl rfl) fun ac111 hf118 => ?_)
    refine seq_one (op_val (v := .bool (r11.head.ok != r6.head.ok)) hf118 rfl rfl rfl rfl rfl rfl (r_pickF rfl rfl) fun ac112 hf119 => ?_)
    refine seq_one (op_val (v := .bool (r11.head.ok != r6.head.ok)) hf119 rfl rfl rfl rfl rfl rfl (r_move rfl) fun ac113 hf120 => ?_)
    have hf121 := hf120.know 119 (u := .bool false) rfl (congrArg Value.bool ((Ro.t4 er11).2.2))
    refine seq_one (op_val (v := .slice q12 ((r11.c.lst 0).length) capq12) hf121 rfl rfl rfl rfl rfl rfl (r_move rfl) fun ac114 hf122 => ?_)
    refine seq_one (op_val (v := .slice q16 ((r15.c.lst 0).length) capq16) hf122 rfl rfl rfl rfl rfl rfl (r_move rfl) fun ac115 hf123 => ?_)
    refine seq_one (op_pureW hf123 rfl rfl rfl rfl ca_19 (ints_walk (xs := (r11.c.lst 0)) (ys := (r15.c.lst 0)) rfl rfl (Nat.le_trans (Ch.lst_le _ _) (by omega)) (hsq12.rd hI16 (fun x hx => List.mem_append_right _ (List.mem_append_left _ (List.mem_append_left _ (List.mem_append_left _ (List.mem_append_right _ hx)))))) (hsq16.rd hI16 (fun x hx => List.mem_append_right _ (List.mem_append_left _ (List.mem_append_right _ hx))))) hI16 fun ac116 wd11 hI17 hf124 => ?_)
    refine seq_one (op_val (v := .bool (!((r11.c.lst 0) == (r15.c.lst 0)))) hf124 rfl rfl rfl rfl rfl rfl (r_not rfl) fun ac117 hf125 => ?_)
    refine seq_one (op_val (v := .bool (!((r11.c.lst 0) == (r15.c.lst 0)))) hf125 rfl rfl rfl rfl rfl rfl (r_pickF rfl rfl) fun ac118 hf126 => ?_)
    refine seq_one (op_val (v := .bool (!((r11.c.lst 0) == (r15.c.lst 0)))) hf126 rfl rfl rfl rfl rfl rfl (r_move rfl) fun ac119 hf127 => ?_)
    have hf128 := hf127.know 125 (u := .bool false) rfl (congrArg Value.bool (Ro.t5 er11 er15 0))
    refine seq_one (op_val (v := .slice q13 ((r11.c.lst 1).length) capq13) hf128 rfl rfl rfl rfl rfl rfl (r_move rfl) fun ac120 hf129 => ?_)
    refine seq_one (op_val (v := .slice q17 ((r15.c.lst 1).length) capq17) hf129 rfl rfl rfl rfl rfl rfl (r_move rfl) fun ac121 hf130 => ?_)
    refine seq_one (op_pureW hf130 rfl rfl rfl rfl ca_19 (ints_walk (xs := (r11.c.lst 1)) (ys := (r15.c.lst 1)) rfl rfl (Nat.le_trans (Ch.lst_le _ _) (by omega)) (hsq13.rd hI17 (fun x hx => List.mem_append_right _ (List.mem_append_left _ (List.mem_append_left _ (List.mem_append_right _ hx))))) (hsq17.rd hI17 (fun x hx => List.mem_append_right _ (List.mem_append_right _ hx)))) hI17 fun ac122 wd12 hI18 hf131 => ?_)
    refine seq_one (op_val (v := .bool (!((r11.c.lst 1) == (r15.c.lst 1)))) hf131 rfl rfl rfl rfl rfl rfl (r_not rfl) fun ac123 hf132 => ?_)
    refine seq_one (op_val (v := .bool (!((r11.c.lst 1) == (r15.c.lst 1)))) hf132 rfl rfl rfl rfl rfl rfl (r_pickF rfl rfl) fun ac124 hf133 => ?_)
    refine seq_end ?_
    clear ac99 hf104 ac100 hf105 ac101 hf106 ac102 hf107 hf108 ac103 hf109 ac104 hf110 ac105 hf111 ac106 hf112 ac107 hf113 hf114 ac108 hf115 ac109 hf116 ac110 hf117 ac111 hf118 ac112 hf119 hf120 ac113 hf121 ac114 hf122 ac115 wd10 hI16 hf123 ac116 hf124 ac117 hf125 ac118 hf126 hf127 ac119 hf128 ac120 hf129 ac121 wd11 hI17 hf130 ac122 hf131 ac123 hf132
    refine then_normal ?_
    have hf134 := hf133.know 130 (u := .bool false) rfl (congrArg Value.bool (Ro.t5 er11 er15 1))
    refine code_if_false hf134 rfl ?_
    refine wp_skip ?_
    refine then_normal ?_
    refine code_seq ?_
    refine code_seq ?_
    refine seq_start (l := [0]) rfl ?_
    refine seq_one (op_val (v := .int .i64 0) hf134 rfl rfl rfl rfl rfl rfl (r_move rfl) fun ac125 hf135 => ?_)
    refine seq_end ?_
    clear hf133 ac124 hf134
    refine then_normal ?_
    refine wp_block ?_
    refine code_loop (α := Nat) (fun (i : Nat) => [(0, .int .u16 a), (1, .slice p L cap), (5, .int .i64 q), (6, .pointer (some ⟨b6, 0, none⟩)), (7, .bool true), (8, .pointer (some ⟨b7, 0, none⟩)), (10, .slice q8 ((r6.c.lst 0).length) capq8), (11, .slice q9 ((r6.c.lst 1).length) capq9), (12, .int .i64 r6.head.f), (13, .int .i64 r6.headC), (14, .bool r6.head.ok), (15, .slice q12 ((r11.c.lst 0).length) capq12), (16, .slice q13 ((r11.c.lst 1).length) capq13), (17, .int .i64 r11.head.f), (18, .int .i64 r11.headC), (19, .bool r11.head.ok), (20, .slice q16 ((r15.c.lst 0).length) capq16), (21, .slice q17 ((r15.c.lst 1).length) capq17), (28, .int .u16 a), (29, .int .i64 a), (30, .int .i64 q), (31, .tuple #[.pointer (some ⟨b6, 0, none⟩), .bool true]), (32, .int .i64 q), (33, .slice p L cap), (34, .tuple #[.pointer (some ⟨b6, 0, none⟩), .bool true]), (35, .pointer (some ⟨b6, 0, none⟩)), (36, .bool true), (37, .bool true), (38, .bool false), (40, .bool false), (51, .tuple #[.slice q8 ((r6.c.lst 0).length) capq8, .slice q9 ((r6.c.lst 1).length) capq9]), (52, .pointer (some ⟨b6, 0, none⟩)), (53, .tuple #[.slice q8 ((r6.c.lst 0).length) capq8, .slice q9 ((r6.c.lst 1).length) capq9]), (54, .slice q8 ((r6.c.lst 0).length) capq8), (55, .slice q9 ((r6.c.lst 1).length) capq9), (56, .tuple #[.int .i64 r6.head.f, .int .i64 r6.headC, .bool r6.head.ok]), (57, .pointer (some ⟨b6, 0, none⟩)), (58, .tuple #[.int .i64 r6.head.f, .int .i64 r6.headC, .bool r6.head.ok]), (59, .int .i64 r6.head.f), (60, .int .i64 r6.headC), (61, .bool r6.head.ok), (62, .tuple #[.slice q12 ((r11.c.lst 0).length) capq12, .slice q13 ((r11.c.lst 1).length) capq13]), (63, .pointer (some ⟨b6, 0, none⟩)), (64, .tuple #[.slice q12 ((r11.c.lst 0).length) capq12, .slice q13 ((r11.c.lst 1).length) capq13]), (65, .slice q12 ((r11.c.lst 0).length) capq12), (66, .slice q13 ((r11.c.lst 1).length) capq13), (67, .bool r6.head.ok), (68, .slice q8 ((r6.c.lst 0).length) capq8), (69, .int .i64 ((r6.c.lst 0).length : Int)), (70, .slice q9 ((r6.c.lst 1).length) capq9), (71, .int .i64 ((r6.c.lst 1).length : Int)), (72, .int .i64 (((r6.c.lst 0).length + (r6.c.lst 1).length : Nat) : Int)), (73, .bool (decide ((((r6.c.lst 0).length + (r6.c.lst 1).length : Nat) : Int) > 0))), (74, .bool (r6.head.ok != (decide ((((r6.c.lst 0).length + (r6.c.lst 1).length : Nat) : Int) > 0)))), (75, .bool false), (76, .slice q12 ((r11.c.lst 0).length) capq12), (77, .int .i64 ((r11.c.lst 0).length : Int)), (78, .slice q13 ((r11.c.lst 1).length) capq13), (79, .int .i64 ((r11.c.lst 1).length : Int)), (80, .int .i64 (((r11.c.lst 0).length + (r11.c.lst 1).length : Nat) : Int)), (81, .slice q8 ((r6.c.lst 0).length) capq8), (82, .int .i64 ((r6.c.lst 0).length : Int)), (83, .slice q9 ((r6.c.lst 1).length) capq9), (84, .int .i64 ((r6.c.lst 1).length : Int)), (85, .int .i64 (((r6.c.lst 0).length + (r6.c.lst 1).length : Nat) : Int)), (86, .bool ((((r11.c.lst 0).length + (r11.c.lst 1).length : Nat) : Int) != (((r6.c.lst 0).length + (r6.c.lst 1).length : Nat) : Int))), (87, .bool ((((r11.c.lst 0).length + (r11.c.lst 1).length : Nat) : Int) != (((r6.c.lst 0).length + (r6.c.lst 1).length : Nat) : Int))), (88, .bool false), (89, .slice q12 ((r11.c.lst 0).length) capq12), (90, .int .i64 ((r11.c.lst 0).length : Int)), (91, .slice q8 ((r6.c.lst 0).length) capq8), (92, .int .i64 ((r6.c.lst 0).length : Int)), (93, .bool (decide (((r11.c.lst 0).length : Int) > ((r6.c.lst 0).length : Int)))), (94, .bool false), (95, .tuple #[.int .i64 r11.head.f, .int .i64 r11.headC, .bool r11.head.ok]), (96, .pointer (some ⟨b6, 0, none⟩)), (97, .tuple #[.int .i64 r11.head.f, .int .i64 r11.headC, .bool r11.head.ok]), (98, .int .i64 r11.head.f), (99, .int .i64 r11.headC), (100, .bool r11.head.ok), (101, .tuple #[.slice q16 ((r15.c.lst 0).length) capq16, .slice q17 ((r15.c.lst 1).length) capq17]), (102, .pointer (some ⟨b6, 0, none⟩)), (103, .tuple #[.slice q16 ((r15.c.lst 0).length) capq16, .slice q17 ((r15.c.lst 1).length) capq17]), (104, .slice q16 ((r15.c.lst 0).length) capq16), (105, .slice q17 ((r15.c.lst 1).length) capq17), (106, .int .i64 r11.head.f), (107, .int .i64 r6.head.f), (108, .bool (r11.head.f != r6.head.f)), (109, .bool false), (110, .int .i64 r11.headC), (111, .int .i64 r6.headC), (112, .bool (r11.headC != r6.headC)), (113, .bool (r11.headC != r6.headC)), (114, .bool false), (115, .bool r11.head.ok), (116, .bool r6.head.ok), (117, .bool (r11.head.ok != r6.head.ok)), (118, .bool (r11.head.ok != r6.head.ok)), (119, .bool false), (120, .slice q12 ((r11.c.lst 0).length) capq12), (121, .slice q16 ((r15.c.lst 0).length) capq16), (122, .bool ((r11.c.lst 0) == (r15.c.lst 0))), (123, .bool (!((r11.c.lst 0) == (r15.c.lst 0)))), (124, .bool (!((r11.c.lst 0) == (r15.c.lst 0)))), (125, .bool false), (126, .slice q13 ((r11.c.lst 1).length) capq13), (127, .slice q17 ((r15.c.lst 1).length) capq17), (128, .bool ((r11.c.lst 1) == (r15.c.lst 1))), (129, .bool (!((r11.c.lst 1) == (r15.c.lst 1)))), (130, .bool false), (131, .int .i64 (i : Int))]) (fun (i : Nat) => fun wL => Inv w ([(b1, arr .i64 r15.c.lk, 103), (b2, arr .i64 r15.c.of, 3), (b3, arr .i64 r15.c.mn, 3), (b4, #[.slice (some ⟨b1, 0, none⟩) (8 + 2) (8 + 2), .slice (some ⟨b2, 0, none⟩) 8 8, .slice (some ⟨b3, 0, none⟩) 2 2], 79), (b5, arr .i64 r15.cr, 3), (b6, #[.pointer (some ⟨b4, 0, none⟩), .slice (some ⟨b5, 0, none⟩) 8 8, .int .i64 r15.q], 45), (b7, arr .i64 ws, 99)] ++ (((((Sq8 ++ Sq9) ++ Sq12) ++ Sq13) ++ Sq16) ++ Sq17)) wL ∧ (i ≤ 8)) (fun (i : Nat) => 8 - i) 0 (hf135.cons 0 rfl (hf135.cons 1 rfl (hf135.cons 5 rfl (hf135.cons 6 rfl (hf135.cons 7 rfl (hf135.cons 8 rfl (hf135.cons 10 rfl (hf135.cons 11 rfl (hf135.cons 12 rfl (hf135.cons 13 rfl (hf135.cons 14 rfl (hf135.cons 15 rfl (hf135.cons 16 rfl (hf135.cons 17 rfl (hf135.cons 18 rfl (hf135.cons 19 rfl (hf135.cons 20 rfl (hf135.cons 21 rfl (hf135.cons 28 rfl (hf135.cons 29 rfl (hf135.cons 30 rfl (hf135.cons 31 rfl (hf135.cons 32 rfl (hf135.cons 33 rfl (hf135.cons 34 rfl (hf135.cons 35 rfl (hf135.cons 36 rfl (hf135.cons 37 rfl (hf135.cons 38 rfl (hf135.cons 40 rfl (hf135.cons 51 rfl (hf135.cons 52 rfl (hf135.cons 53 rfl (hf135.cons 54 rfl (hf135.cons 55 rfl (hf135.cons 56 rfl (hf135.cons 57 rfl (hf135.cons 58 rfl (hf135.cons 59 rfl (hf135.cons 60 rfl (hf135.cons 61 rfl (hf135.cons 62 rfl (hf135.cons 63 rfl (hf135.cons 64 rfl (hf135.cons 65 rfl (hf135.cons 66 rfl (hf135.cons 67 rfl (hf135.cons 68 rfl (hf135.cons 69 rfl (hf135.cons 70 rfl (hf135.cons 71 rfl (hf135.cons 72 rfl (hf135.cons 73 rfl (hf135.cons 74 rfl (hf135.cons 75 rfl (hf135.cons 76 rfl (hf135.cons 77 rfl (hf135.cons 78 rfl (hf135.cons 79 rfl (hf135.cons 80 rfl (hf135.cons 81 rfl (hf135.cons 82 rfl (hf135.cons 83 rfl (hf135.cons 84 rfl (hf135.cons 85 rfl (hf135.cons 86 rfl (hf135.cons 87 rfl (hf135.cons 88 rfl (hf135.cons 89 rfl (hf135.cons 90 rfl (hf135.cons 91 rfl (hf135.cons 92 rfl (hf135.cons 93 rfl (hf135.cons 94 rfl (hf135.cons 95 rfl (hf135.cons 96 rfl (hf135.cons 97 rfl (hf135.cons 98 rfl (hf135.cons 99 rfl (hf135.cons 100 rfl (hf135.cons 101 rfl (hf135.cons 102 rfl (hf135.cons 103 rfl (hf135.cons 104 rfl (hf135.cons 105 rfl (hf135.cons 106 rfl (hf135.cons 107 rfl (hf135.cons 108 rfl (hf135.cons 109 rfl (hf135.cons 110 rfl (hf135.cons 111 rfl (hf135.cons 112 rfl (hf135.cons 113 rfl (hf135.cons 114 rfl (hf135.cons 115 rfl (hf135.cons 116 rfl (hf135.cons 117 rfl (hf135.cons 118 rfl (hf135.cons 119 rfl (hf135.cons 120 rfl (hf135.cons 121 rfl (hf135.cons 122 rfl (hf135.cons 123 rfl (hf135.cons 124 rfl (hf135.cons 125 rfl (hf135.cons 126 rfl (hf135.cons 127 rfl (hf135.cons 128 rfl (hf135.cons 129 rfl (hf135.cons 130 rfl (hf135.cons 131 rfl hf135.nil))))))))))))))))))))))))))))))))))))))))))))))))))))))))))))))))))))))))))))))))))))))))))))))))))))))))))))))) ⟨hI18, Nat.zero_le _⟩ ?_
    intro i ac126 wd13 hf136 hL2
    obtain ⟨hI19, hx2⟩ := hL2
    clear ac125 wd12 hf135 hI18
    refine code_seq ?_
    refine seq_start (l := [0]) rfl ?_
    refine seq_one (op_val (v := .bool (decide ((i : Int) < 8))) hf136 rfl rfl rfl rfl rfl rfl (r_lss rfl rfl) fun ac127 hf137 => ?_)
    refine seq_end ?_
    clear ac126 hf136
    refine then_normal ?_
    refine code_seq ?_
    refine code_if hf137 rfl (fun c132_2 => ?_) (fun c132_2 => ?_)
    · have hf138 := hf137.know 132 (u := .bool true) rfl (congrArg Value.bool c132_2)
      refine wp_skip ?_
      refine then_normal ?_
      refine code_seq ?_
      refine wp_block ?_
      refine code_seq ?_
      refine seq_start (l := [0, 1]) rfl ?_
      refine seq_one (op_val (v := .int .i64 (i : Int)) hf138 rfl rfl rfl rfl rfl rfl (r_move rfl) fun ac128 hf139 => ?_)
      refine seq_one (op_val (v := .int .i64 (i : Int)) hf139 rfl rfl rfl rfl rfl rfl (r_assign rfl) fun ac129 hf140 => ?_)
      refine seq_end ?_
      clear hf137 ac127 hf138 ac128 hf139
      refine then_normal ?_
      refine code_seq ?_
      refine seq_start (l := [0, 1, 2, 3, 4, 5, 6, 7]) rfl ?_
      refine seq_one (op_val (v := .pointer (some ⟨b6, 0, none⟩)) hf140 rfl rfl rfl rfl rfl rfl (r_move rfl) fun ac130 hf141 => ?_)
      refine seq_one (op_val (v := .int .i64 (i : Int)) hf141 rfl rfl rfl rfl rfl rfl (r_move rfl) fun ac131 hf142 => ?_)
      refine seq_one (op_pureW hf142 rfl rfl rfl rfl ca_17 (credit_any (hI19.nd6 0 rfl rfl rfl rfl rfl rfl) r15 (Has.cons (hI19.at 0 rfl) (Has.cons (hI19.at 1 rfl) (Has.cons (hI19.at 2 rfl) (Has.cons (hI19.at 3 rfl) (Has.cons (hI19.at 4 rfl) (Has.cons (hI19.at 5 rfl) Has.nil)))))) (i : Int)) hI19 fun ac132 wd14 hI20 hf143 => ?_)
      refine seq_one (op_val (v := .tuple #[.int .i64 (r15.crV (i : Int)), .bool (r15.c.inn (i : Int))]) hf143 rfl rfl rfl rfl rfl rfl (r_move rfl) fun ac133 hf144 => ?_)
      refine seq_one (op_val (v := .int .i64 (r15.crV (i : Int))) hf144 rfl rfl rfl rfl rfl rfl (r_extract rfl rfl) fun ac134 hf145 => ?_)
      refine seq_one (op_val (v := .bool (r15.c.inn (i : Int))) hf145 rfl rfl rfl rfl rfl rfl (r_extract rfl rfl) fun ac135 hf146 => ?_)
      refine seq_one (op_val (v := .int .i64 (r15.crV (i : Int))) hf146 rfl rfl rfl rfl rfl rfl (r_assign rfl) fun ac136 hf147 => ?_)
      refine seq_one (op_val (v := .bool (r15.c.inn (i : Int))) hf147 rfl rfl rfl rfl rfl rfl (r_assign rfl) fun ac137 hf148 => ?_)
      refine seq_end ?_
      clear ac129 hf140 ac130 hf141 ac131 wd13 hI19 hf142 ac132 hf143 ac133 hf144 ac134 hf145 ac135 hf146 ac136 hf147
      refine then_normal ?_
      refine code_seq ?_
      refine seq_start (l := [0, 1, 2, 3, 4, 5, 6, 7, 8, 9, 10, 11, 12, 13, 14, 15, 16, 17, 18, 19, 20, 21, 22, 23, 24, 25, 26, 27]) rfl ?_
      refine seq_one (op_val (v := .int .i64 (r15.crV (i : Int))) hf148 rfl rfl rfl rfl rfl rfl (r_move rfl) fun ac138 hf149 => ?_)
      refine seq_one (op_val (v := .int .i64 (i : Int)) hf149 rfl rfl rfl rfl rfl rfl (r_move rfl) fun ac139 hf150 => ?_)
      refine seq_one (op_val (v := .pointer (some ⟨b7, i, none⟩)) hf150 rfl rfl rfl rfl rfl rfl (r_indexAddr (i := i) ar_99 rfl rfl rfl (by have := of_decide_eq_true c132_2; omega) (by rw [Nat.mul_one, Nat.zero_add])) fun ac140 hf151 => ?_)
      refine seq_one (op_val (v := .int .i64 (ws.getD i 0)) hf151 rfl rfl rfl rfl rfl rfl (r_load ag_3 rfl (hI20.at 6 rfl) (arr_get (Nat.lt_of_lt_of_eq (by have := of_decide_eq_true c132_2; omega) (Eq.symm hx1.2.1)))) fun ac141 hf152 => ?_)
      refine seq_one (op_val (v := .bool (decide ((r15.crV (i : Int)) < (ws.getD i 0)))) hf152 rfl rfl rfl rfl rfl rfl (r_lss rfl rfl) fun ac142 hf153 => ?_)
      refine seq_one (op_val (v := .bool (decide ((r15.crV (i : Int)) < (ws.getD i 0)))) hf153 rfl rfl rfl rfl rfl rfl (r_move rfl) fun ac143 hf154 => ?_)
      have hf155 := hf154.know 145 (u := .bool false) rfl (congrArg Value.bool (decide_eq_false (Ro.t9 er11 er15 hex6 (Ro.was_g hx1.2 (by have := of_decide_eq_false c40_1; have := hx1.1; omega) (i := i) (by have := of_decide_eq_true c132_2; omega))).1))
      refine seq_one (op_val (v := .int .i64 (r15.crV (i : Int))) hf155 rfl rfl rfl rfl rfl rfl (r_move rfl) fun ac144 hf156 => ?_)
      refine seq_one (op_val (v := .int .i64 (i : Int)) hf156 rfl rfl rfl rfl rfl rfl (r_move rfl) fun ac145 hf157 => ?_)
      refine seq_one (op_val (v := .pointer (some ⟨b7, i, none⟩)) hf157 rfl rfl rfl rfl rfl rfl (r_indexAddr (i := i) ar_99 rfl rfl rfl (by have := of_decide_eq_true c132_2; omega) (by rw [Nat.mul_one, Nat.zero_add])) fun ac146 hf158 => ?_)
      refine seq_one (op_val (v := .int .i64 (ws.getD i 0)) hf158 rfl rfl rfl rfl rfl rfl (r_load ag_3 rfl (hI20.at 6 rfl) (arr_get (Nat.lt_of_lt_of_eq (by have := of_decide_eq_true c132_2; omega) (Eq.symm hx1.2.1)))) fun ac147 hf159 => ?_)
      refine seq_one (op_val (v := .int .i64 (r15.crV (i : Int) - ws.getD i 0)) hf159 rfl rfl rfl rfl rfl rfl (r_sub (c := (r15.crV (i : Int) - ws.getD i 0)) rfl rfl (Ro.t10 (Ro.was_g hx1.2 (by have := of_decide_eq_false c40_1; have := hx1.1; omega) (i := i) (by have := of_decide_eq_true c132_2; omega)))) fun ac148 hf160 => ?_)
      refine seq_one (op_val (v := .int .i64 q) hf160 rfl rfl rfl rfl rfl rfl (r_move rfl) fun ac149 hf161 => ?_)
      refine seq_one (op_val (v := .int .i64 0) hf161 rfl rfl rfl rfl rfl rfl (r_rem (c := 0) rfl rfl (by omega) (by rw [(Ro.t9 er11 er15 hex6 (Ro.was_g hx1.2 (by have := of_decide_eq_false c40_1; have := hx1.1; omega) (i := i) (by have := of_decide_eq_true c132_2; omega))).2.1])) fun ac150 hf162 => ?_)
      refine seq_one (op_val (v := .bool false) hf162 rfl rfl rfl rfl rfl rfl (r_neqC rfl rfl (by decide)) fun ac151 hf163 => ?_)
      refine seq_one (op_val (v := .bool false) hf163 rfl rfl rfl rfl rfl rfl (r_pickF rfl rfl) fun ac152 hf164 => ?_)
      refine seq_one (op_val (v := .bool false) hf164 rfl rfl rfl rfl rfl rfl (r_move rfl) fun ac153 hf165 => ?_)
      refine seq_one (op_val (v := .int .i64 (r15.crV (i : Int))) hf165 rfl rfl rfl rfl rfl rfl (r_move rfl) fun ac154 hf166 => ?_)
      refine seq_one (op_val (v := .int .i64 (i : Int)) hf166 rfl rfl rfl rfl rfl rfl (r_move rfl) fun ac155 hf167 => ?_)
      refine seq_one (op_val (v := .pointer (some ⟨b7, i, none⟩)) hf167 rfl rfl rfl rfl rfl rfl (r_indexAddr (i := i) ar_99 rfl rfl rfl (by have := of_decide_eq_true c132_2; omega) (by rw [Nat.mul_one, Nat.zero_add])) fun ac156 hf168 => ?_)
      refine seq_one (op_val (v := .int .i64 (ws.getD i 0)) hf168 rfl rfl rfl rfl rfl rfl (r_load ag_3 rfl (hI20.at 6 rfl) (arr_get (Nat.lt_of_lt_of_eq (by have := of_decide_eq_true c132_2; omega) (Eq.symm hx1.2.1)))) fun ac157 hf169 => ?_)
      refine seq_one (op_val (v := .bool ((r15.crV (i : Int)) != (ws.getD i 0))) hf169 rfl rfl rfl rfl rfl rfl (r_neq rfl rfl) fun ac158 hf170 => ?_)
      refine seq_one (op_val (v := .bool ((r15.crV (i : Int)) != (ws.getD i 0))) hf170 rfl rfl rfl rfl rfl rfl (r_move rfl) fun ac159 hf171 => ?_)
      rcases Bool.eq_false_or_eq_true ((r15.crV (i : Int)) != (ws.getD i 0) : Bool) with g161_3 | g161_3
      · have hf172 := hf171.know 161 (u := .bool true) rfl (congrArg Value.bool g161_3)
        refine seq_one (op_val (v := .int .i64 (i : Int)) hf172 rfl rfl rfl rfl rfl rfl (r_move rfl) fun ac160 hf173 => ?_)
        refine seq_one (op_val (v := .pointer (some ⟨b7, i, none⟩)) hf173 rfl rfl rfl rfl rfl rfl (r_indexAddr (i := i) ar_99 rfl rfl rfl (by have := of_decide_eq_true c132_2; omega) (by rw [Nat.mul_one, Nat.zero_add])) fun ac161 hf174 => ?_)
        refine seq_one (op_val (v := .int .i64 (ws.getD i 0)) hf174 rfl rfl rfl rfl rfl rfl (r_load ag_3 rfl (hI20.at 6 rfl) (arr_get (Nat.lt_of_lt_of_eq (by have := of_decide_eq_true c132_2; omega) (Eq.symm hx1.2.1)))) fun ac162 hf175 => ?_)
        refine seq_one (op_val (v := .bool (decide ((ws.getD i 0) > 0))) hf175 rfl rfl rfl rfl rfl rfl (r_gtr rfl rfl) fun ac163 hf176 => ?_)
        refine seq_one (op_val (v := .bool (decide ((ws.getD i 0) > 0))) hf176 rfl rfl rfl rfl rfl rfl (r_pickT rfl rfl) fun ac164 hf177 => ?_)
        refine seq_one (op_val (v := .bool (decide ((ws.getD i 0) > 0))) hf177 rfl rfl rfl rfl rfl rfl (r_pickF rfl rfl) fun ac165 hf178 => ?_)
        refine seq_end ?_
        clear ac137 hf148 ac138 hf149 ac139 hf150 ac140 hf151 ac141 hf152 ac142 hf153 hf154 ac143 hf155 ac144 hf156 ac145 hf157 ac146 hf158 ac147 hf159 ac148 hf160 ac149 hf161 ac150 hf162 ac151 hf163 ac152 hf164 ac153 hf165 ac154 hf166 ac155 hf167 ac156 hf168 ac157 hf169 ac158 hf170 hf171 ac159 hf172 ac160 hf173 ac161 hf174 ac162 hf175 ac163 hf176 ac164 hf177
        refine then_normal ?_
        have hf179 := hf178.know 167 (u := .bool false) rfl (congrArg Value.bool (decide_eq_false ((Ro.t9 er11 er15 hex6 (Ro.was_g hx1.2 (by have := of_decide_eq_false c40_1; have := hx1.1; omega) (i := i) (by have := of_decide_eq_true c132_2; omega))).2.2 (bne_iff_ne.1 g161_3))))
        refine code_if_false hf179 rfl ?_
        refine wp_skip ?_
        refine block_normal ?_
        refine then_normal ?_
        refine seq_start (l := [0, 1]) rfl ?_
        refine seq_one (op_val (v := .int .i64 ((i + 1 : Nat) : Int)) hf179 rfl rfl rfl rfl rfl rfl (r_add (c := ((i + 1 : Nat) : Int)) rfl rfl (wrap_i64 (by omega) (by have := hx2; omega))) fun ac166 hf180 => ?_)
        refine seq_one (op_val (v := .int .i64 ((i + 1 : Nat) : Int)) hf180 rfl rfl rfl rfl rfl rfl (r_move rfl) fun ac167 hf181 => ?_)
        refine seq_end ?_
        clear hf178 ac165 hf179 ac166 hf180
        refine then_normal ?_
        exact ⟨i + 1, (hf181.cons 0 rfl (hf181.cons 1 rfl (hf181.cons 5 rfl (hf181.cons 6 rfl (hf181.cons 7 rfl (hf181.cons 8 rfl (hf181.cons 10 rfl (hf181.cons 11 rfl (hf181.cons 12 rfl (hf181.cons 13 rfl (hf181.cons 14 rfl (hf181.cons 15 rfl (hf181.cons 16 rfl (hf181.cons 17 rfl (hf181.cons 18 rfl (hf181.cons 19 rfl (hf181.cons 20 rfl (hf181.cons 21 rfl (hf181.cons 28 rfl (hf181.cons 29 rfl (hf181.cons 30 rfl (hf181.cons 31 rfl (hf181.cons 32 rfl (hf181.cons 33 rfl (hf181.cons 34 rfl (hf181.cons 35 rfl (hf181.cons 36 rfl (hf181.cons 37 rfl (hf181.cons 38 rfl (hf181.cons 40 rfl (hf181.cons 51 rfl (hf181.cons 52 rfl (hf181.cons 53 rfl (hf181.cons 54 rfl (hf181.cons 55 rfl (hf181.cons 56 rfl (hf181.cons 57 rfl (hf181.cons 58 rfl (hf181.cons 59 rfl (hf181.cons 60 rfl (hf181.cons 61 rfl (hf181.cons 62 rfl (hf181.cons 63 rfl (hf181.cons 64 rfl (hf181.cons 65 rfl (hf181.cons 66 rfl (hf181.cons 67 rfl (hf181.cons 68 rfl (hf181.cons 69 rfl (hf181.cons 70 rfl (hf181.cons 71 rfl (hf181.cons 72 rfl (hf181.cons 73 rfl (hf181.cons 74 rfl (hf181.cons 75 rfl (hf181.cons 76 rfl (hf181.cons 77 rfl (hf181.cons 78 rfl (hf181.cons 79 rfl (hf181.cons 80 rfl (hf181.cons 81 rfl (hf181.cons 82 rfl (hf181.cons 83 rfl (hf181.cons 84 rfl (hf181.cons 85 rfl (hf181.cons 86 rfl (hf181.cons 87 rfl (hf181.cons 88 rfl (hf181.cons 89 rfl (hf181.cons 90 rfl (hf181.cons 91 rfl (hf181.cons 92 rfl (hf181.cons 93 rfl (hf181.cons 94 rfl (hf181.cons 95 rfl (hf181.cons 96 rfl (hf181.cons 97 rfl (hf181.cons 98 rfl (hf181.cons 99 rfl (hf181.cons 100 rfl (hf181.cons 101 rfl (hf181.cons 102 rfl (hf181.cons 103 rfl (hf181.cons 104 rfl (hf181.cons 105 rfl (hf181.cons 106 rfl (hf181.cons 107 rfl (hf181.cons 108 rfl (hf181.cons 109 rfl (hf181.cons 110 rfl (hf181.cons 111 rfl (hf181.cons 112 rfl (hf181.cons 113 rfl (hf181.cons 114 rfl (hf181.cons 115 rfl (hf181.cons 116 rfl (hf181.cons 117 rfl (hf181.cons 118 rfl (hf181.cons 119 rfl (hf181.cons 120 rfl (hf181.cons 121 rfl (hf181.cons 122 rfl (hf181.cons 123 rfl (hf181.cons 124 rfl (hf181.cons 125 rfl (hf181.cons 126 rfl (hf181.cons 127 rfl (hf181.cons 128 rfl (hf181.cons 129 rfl (hf181.cons 130 rfl (hf181.cons 131 rfl hf181.nil))))))))))))))))))))))))))))))))))))))))))))))))))))))))))))))))))))))))))))))))))))))))))))))))))))))))))))))), ⟨hI20, (by have := of_decide_eq_true c132_2; omega)⟩, (by have := of_decide_eq_true c132_2; show 8 - (i + 1) < 8 - i; omega)⟩
      · have hf182 := hf171.know 161 (u := .bool false) rfl (congrArg Value.bool g161_3)
        refine seq_one (op_skip hf182 rfl rfl rfl rfl fun ac168 hf183 => ?_)
        refine seq_one (op_skip hf183 rfl rfl rfl rfl fun ac169 hf184 => ?_)
        refine seq_one (op_skip hf184 rfl rfl rfl rfl fun ac170 hf185 => ?_)
        refine seq_one (op_skip hf185 rfl rfl rfl rfl fun ac171 hf186 => ?_)
        refine seq_one (op_val (v := .bool false) hf186 rfl rfl rfl rfl rfl rfl (r_pickF rfl rfl) fun ac172 hf187 => ?_)
        refine seq_one (op_val (v := .bool false) hf187 rfl rfl rfl rfl rfl rfl (r_pickF rfl rfl) fun ac173 hf188 => ?_)
        refine seq_end ?_
        clear ac137 hf148 ac138 hf149 ac139 hf150 ac140 hf151 ac141 hf152 ac142 hf153 hf154 ac143 hf155 ac144 hf156 ac145 hf157 ac146 hf158 ac147 hf159 ac148 hf160 ac149 hf161 ac150 hf162 ac151 hf163 ac152 hf164 ac153 hf165 ac154 hf166 ac155 hf167 ac156 hf168 ac157 hf169 ac158 hf170 hf171 ac159 hf182 ac168 hf183 ac169 hf184 ac170 hf185 ac171 hf186 ac172 hf187
        refine then_normal ?_
        refine code_if_false hf188 rfl ?_
        refine wp_skip ?_
        refine block_normal ?_
        refine then_normal ?_
        refine seq_start (l := [0, 1]) rfl ?_
        refine seq_one (op_val (v := .int .i64 ((i + 1 : Nat) : Int)) hf188 rfl rfl rfl rfl rfl rfl (r_add (c := ((i + 1 : Nat) : Int)) rfl rfl (wrap_i64 (by omega) (by have := hx2; omega))) fun ac174 hf189 => ?_)
        refine seq_one (op_val (v := .int .i64 ((i + 1 : Nat) : Int)) hf189 rfl rfl rfl rfl rfl rfl (r_move rfl) fun ac175 hf190 => ?_)
        refine seq_end ?_
        clear ac173 hf188 ac174 hf189
        refine then_normal ?_
        exact ⟨i + 1, (hf190.cons 0 rfl (hf190.cons 1 rfl (hf190.cons 5 rfl (hf190.cons 6 rfl (hf190.cons 7 rfl (hf190.cons 8 rfl (hf190.cons 10 rfl (hf190.cons 11 rfl (hf190.cons 12 rfl (hf190.cons 13 rfl (hf190.cons 14 rfl (hf190.cons 15 rfl (hf190.cons 16 rfl (hf190.cons 17 rfl (hf190.cons 18 rfl (hf190.cons 19 rfl (hf190.cons 20 rfl (hf190.cons 21 rfl (hf190.cons 28 rfl (hf190.cons 29 rfl (hf190.cons 30 rfl (hf190.cons 31 rfl (hf190.cons 32 rfl (hf190.cons 33 rfl (hf190.cons 34 rfl (hf190.cons 35 rfl (hf190.cons 36 rfl (hf190.cons 37 rfl (hf190.cons 38 rfl (hf190.cons 40 rfl (hf190.cons 51 rfl (hf190.cons 52 rfl (hf190.cons 53 rfl (hf190.cons 54 rfl (hf190.cons 55 rfl (hf190.cons 56 rfl (hf190.cons 57 rfl (hf190.cons 58 rfl (hf190.cons 59 rfl (hf190.cons 60 rfl (hf190.cons 61 rfl (hf190.cons 62 rfl (hf190.cons 63 rfl (hf190.cons 64 rfl (hf190.cons 65 rfl (hf190.cons 66 rfl (hf190.cons 67 rfl (hf190.cons 68 rfl (hf190.cons 69 rfl (hf190.cons 70 rfl (hf190.cons 71 rfl (hf190.cons 72 rfl (hf190.cons 73 rfl (hf190.cons 74 rfl (hf190.cons 75 rfl (hf190.cons 76 rfl (hf190.cons 77 rfl (hf190.cons 78 rfl (hf190.cons 79 rfl (hf190.cons 80 rfl (hf190.cons 81 rfl (hf190.cons 82 rfl (hf190.cons 83 rfl (hf190.cons 84 rfl (hf190.cons 85 rfl (hf190.cons 86 rfl (hf190.cons 87 rfl (hf190.cons 88 rfl (hf190.cons 89 rfl (hf190.cons 90 rfl (hf190.cons 91 rfl (hf190.cons 92 rfl (hf190.cons 93 rfl (hf190.cons 94 rfl (hf190.cons 95 rfl (hf190.cons 96 rfl (hf190.cons 97 rfl (hf190.cons 98 rfl (hf190.cons 99 rfl (hf190.cons 100 rfl (hf190.cons 101 rfl (hf190.cons 102 rfl (hf190.cons 103 rfl (hf190.cons 104 rfl (hf190.cons 105 rfl (hf190.cons 106 rfl (hf190.cons 107 rfl (hf190.cons 108 rfl (hf190.cons 109 rfl (hf190.cons 110 rfl (hf190.cons 111 rfl (hf190.cons 112 rfl (hf190.cons 113 rfl (hf190.cons 114 rfl (hf190.cons 115 rfl (hf190.cons 116 rfl (hf190.cons 117 rfl (hf190.cons 118 rfl (hf190.cons 119 rfl (hf190.cons 120 rfl (hf190.cons 121 rfl (hf190.cons 122 rfl (hf190.cons 123 rfl (hf190.cons 124 rfl (hf190.cons 125 rfl (hf190.cons 126 rfl (hf190.cons 127 rfl (hf190.cons 128 rfl (hf190.cons 129 rfl (hf190.cons 130 rfl (hf190.cons 131 rfl hf190.nil))))))))))))))))))))))))))))))))))))))))))))))))))))))))))))))))))))))))))))))))))))))))))))))))))))))))))))))), ⟨hI20, (by have := of_decide_eq_true c132_2; omega)⟩, (by have := of_decide_eq_true c132_2; show 8 - (i + 1) < 8 - i; omega)⟩
    · have hf191 := hf137.know 132 (u := .bool false) rfl (congrArg Value.bool c132_2)
      refine wp_exit ?_
      refine then_exit ?_
      refine then_exit ?_
      refine block_here ?_
      refine then_normal ?_
      refine code_seq ?_
      refine code_seq ?_
      refine seq_start (l := [0, 1]) rfl ?_
      refine seq_one (op_val (v := .bool r6.head.ok) hf191 rfl rfl rfl rfl rfl rfl (r_move rfl) fun ac176 hf192 => ?_)
      refine seq_one (op_val (v := .bool (!r6.head.ok)) hf192 rfl rfl rfl rfl rfl rfl (r_not rfl) fun ac177 hf193 => ?_)
      refine seq_end ?_
      clear hf137 ac127 hf191 ac176 hf192
      refine then_normal ?_
      refine code_if hf193 rfl (fun c170_4 => ?_) (fun c170_4 => ?_)
      · have hf194 := hf193.know 170 (u := .bool true) rfl (congrArg Value.bool c170_4)
        refine code_seq ?_
        refine seq_start (l := [0, 1]) rfl ?_
        refine seq_one (op_pure hf194 rfl rfl rfl rfl ca_23 awake17_pur hI19 fun ac178 wd15 hI21 hf195 => ?_)
        refine seq_one (op_val (v := .bool true) hf195 rfl rfl rfl rfl rfl rfl (r_assign rfl) fun ac179 hf196 => ?_)
        refine seq_end ?_
        clear hf193 ac177 wd13 hI19 hf194 ac178 hf195
        refine then_normal ?_
        refine wp_ret ?_
        refine then_ret ?_
        refine post1 rfl hf196 rfl ⟨?_, hI21.done (fk_app (fresh_keys (ks := [b1, b2, b3, b4, b5, b6, b7]) rfl (fk_cons hb1 (fk_cons hb2 (fk_cons hb3 (fk_cons hb4 (fk_cons hb5 (fk_cons hb6 (fk_cons hb7 fk_nil)))))))) (fk_app (fk_app (fk_app (fk_app (fk_app hyq8 hyq9) hyq12) hyq13) hyq16) hyq17))⟩
        rfl
      · have hf197 := hf193.know 170 (u := .bool false) rfl (congrArg Value.bool c170_4)
        refine wp_skip ?_
        refine then_normal ?_
        refine code_seq ?_
        refine seq_start (l := [0, 1, 2, 3, 4, 5, 6, 7]) rfl ?_
        refine seq_one (op_val (v := .pointer (some ⟨b6, 0, none⟩)) hf197 rfl rfl rfl rfl rfl rfl (r_move rfl) fun ac180 hf198 => ?_)
        refine seq_one (op_val (v := .int .i64 r6.head.f) hf198 rfl rfl rfl rfl rfl rfl (r_move rfl) fun ac181 hf199 => ?_)
        refine seq_one (op_pureW hf199 rfl rfl rfl rfl ca_17 (credit_any (hI19.nd6 0 rfl rfl rfl rfl rfl rfl) r15 (Has.cons (hI19.at 0 rfl) (Has.cons (hI19.at 1 rfl) (Has.cons (hI19.at 2 rfl) (Has.cons (hI19.at 3 rfl) (Has.cons (hI19.at 4 rfl) (Has.cons (hI19.at 5 rfl) Has.nil)))))) r6.head.f) hI19 fun ac182 wd16 hI22 hf200 => ?_)
        refine seq_one (op_val (v := .tuple #[.int .i64 (r15.crV r6.head.f), .bool (r15.c.inn r6.head.f)]) hf200 rfl rfl rfl rfl rfl rfl (r_move rfl) fun ac183 hf201 => ?_)
        refine seq_one (op_val (v := .int .i64 (r15.crV r6.head.f)) hf201 rfl rfl rfl rfl rfl rfl (r_extract rfl rfl) fun ac184 hf202 => ?_)
        refine seq_one (op_val (v := .bool (r15.c.inn r6.head.f)) hf202 rfl rfl rfl rfl rfl rfl (r_extract rfl rfl) fun ac185 hf203 => ?_)
        refine seq_one (op_val (v := .int .i64 (r15.crV r6.head.f)) hf203 rfl rfl rfl rfl rfl rfl (r_assign rfl) fun ac186 hf204 => ?_)
        refine seq_one (op_val (v := .bool (r15.c.inn r6.head.f)) hf204 rfl rfl rfl rfl rfl rfl (r_assign rfl) fun ac187 hf205 => ?_)
        refine seq_end ?_
        clear hf193 ac177 hf197 ac180 hf198 ac181 wd13 hI19 hf199 ac182 hf200 ac183 hf201 ac184 hf202 ac185 hf203 ac186 hf204
        refine then_normal ?_
        refine code_seq ?_
        refine seq_start (l := [0, 1, 2, 3, 4, 5]) rfl ?_
        refine seq_one (op_bslice (s := 3) (cells := #[]) hf205 rfl rfl rfl rfl rfl (fun _ => by kernel_rfl) hI22 fun ac188 b18 wd17 hb18 hI23 hf206 => ?_)
        have hI24 : Inv w ([(b1, arr .i64 r15.c.lk, 103), (b2, arr .i64 r15.c.of, 3), (b3, arr .i64 r15.c.mn, 3), (b4, #[.slice (some ⟨b1, 0, none⟩) (8 + 2) (8 + 2), .slice (some ⟨b2, 0, none⟩) 8 8, .slice (some ⟨b3, 0, none⟩) 2 2], 79), (b5, arr .i64 r15.cr, 3), (b6, #[.pointer (some ⟨b4, 0, none⟩), .slice (some ⟨b5, 0, none⟩) 8 8, .int .i64 r15.q], 45), (b7, arr .i64 ws, 99), (b18, #[], 3)] ++ (((((Sq8 ++ Sq9) ++ Sq12) ++ Sq13) ++ Sq16) ++ Sq17)) wd17 := Inv.tail (A := [(b1, arr .i64 r15.c.lk, 103), (b2, arr .i64 r15.c.of, 3), (b3, arr .i64 r15.c.mn, 3), (b4, #[.slice (some ⟨b1, 0, none⟩) (8 + 2) (8 + 2), .slice (some ⟨b2, 0, none⟩) 8 8, .slice (some ⟨b3, 0, none⟩) 2 2], 79), (b5, arr .i64 r15.cr, 3), (b6, #[.pointer (some ⟨b4, 0, none⟩), .slice (some ⟨b5, 0, none⟩) 8 8, .int .i64 r15.q], 45), (b7, arr .i64 ws, 99)]) (T := (((((Sq8 ++ Sq9) ++ Sq12) ++ Sq13) ++ Sq16) ++ Sq17)) (N := [(b18, #[], 3)]) hI23
        refine seq_one (op_val (v := .slice q12 ((r11.c.lst 0).length) capq12) hf206 rfl rfl rfl rfl rfl rfl (r_move rfl) fun ac189 hf207 => ?_)
        have hI25 : Inv w ([(b1, arr .i64 r15.c.lk, 103), (b2, arr .i64 r15.c.of, 3), (b3, arr .i64 r15.c.mn, 3), (b4, #[.slice (some ⟨b1, 0, none⟩) (8 + 2) (8 + 2), .slice (some ⟨b2, 0, none⟩) 8 8, .slice (some ⟨b3, 0, none⟩) 2 2], 79), (b5, arr .i64 r15.cr, 3), (b6, #[.pointer (some ⟨b4, 0, none⟩), .slice (some ⟨b5, 0, none⟩) 8 8, .int .i64 r15.q], 45), (b7, arr .i64 ws, 99)] ++ ((((((Sq8 ++ Sq9) ++ Sq12) ++ Sq13) ++ Sq16) ++ Sq17) ++ [(b18, #[], 3)])) _ := Inv.tail (A := [(b1, arr .i64 r15.c.lk, 103), (b2, arr .i64 r15.c.of, 3), (b3, arr .i64 r15.c.mn, 3), (b4, #[.slice (some ⟨b1, 0, none⟩) (8 + 2) (8 + 2), .slice (some ⟨b2, 0, none⟩) 8 8, .slice (some ⟨b3, 0, none⟩) 2 2], 79), (b5, arr .i64 r15.cr, 3), (b6, #[.pointer (some ⟨b4, 0, none⟩), .slice (some ⟨b5, 0, none⟩) 8 8, .int .i64 r15.q], 45), (b7, arr .i64 ws, 99)]) (T := [(b18, #[], 3)]) (N := (((((Sq8 ++ Sq9) ++ Sq12) ++ Sq13) ++ Sq16) ++ Sq17)) hI24
        refine seq_one (op_appendN (A := ([(b1, arr .i64 r15.c.lk, 103), (b2, arr .i64 r15.c.of, 3), (b3, arr .i64 r15.c.mn, 3), (b4, #[.slice (some ⟨b1, 0, none⟩) (8 + 2) (8 + 2), .slice (some ⟨b2, 0, none⟩) 8 8, .slice (some ⟨b3, 0, none⟩) 2 2], 79), (b5, arr .i64 r15.cr, 3), (b6, #[.pointer (some ⟨b4, 0, none⟩), .slice (some ⟨b5, 0, none⟩) 8 8, .int .i64 r15.q], 45), (b7, arr .i64 ws, 99)] ++ (((((Sq8 ++ Sq9) ++ Sq12) ++ Sq13) ++ Sq16) ++ Sq17))) (S := [(b18, #[], 3)]) (xs := []) (ys := (r11.c.lst 0)) rfl rfl hf207 rfl rfl rfl us_27 if_3 rfl Sl.lit0 rfl (hsq12.rd hI25 (fun x hx => List.mem_append_right _ (List.mem_append_left _ (List.mem_append_left _ (List.mem_append_left _ (List.mem_append_left _ (List.mem_append_right _ hx))))))) hI25 (fun x hx => by simp only [List.mem_singleton] at hx; subst hx; exact hb18) (by simp only [List.length_append, List.length_nil, List.length_cons, maxLen]; have := Ch.lst_le r11.c 0; have := Ch.lst_le r11.c 1; omega) (by simp only [List.length_append, List.length_nil, List.length_cons, Nat.zero_add]; have := Ch.lst_le r11.c 0; have := Ch.lst_le r11.c 1; omega) fun ac190 p19 capp19 Sp19 wd18 hsp19 hzp19 hI26 hf208 => ?_)
        have hI27 : Inv w ([(b1, arr .i64 r15.c.lk, 103), (b2, arr .i64 r15.c.of, 3), (b3, arr .i64 r15.c.mn, 3), (b4, #[.slice (some ⟨b1, 0, none⟩) (8 + 2) (8 + 2), .slice (some ⟨b2, 0, none⟩) 8 8, .slice (some ⟨b3, 0, none⟩) 2 2], 79), (b5, arr .i64 r15.cr, 3), (b6, #[.pointer (some ⟨b4, 0, none⟩), .slice (some ⟨b5, 0, none⟩) 8 8, .int .i64 r15.q], 45), (b7, arr .i64 ws, 99)] ++ ((((((Sq8 ++ Sq9) ++ Sq12) ++ Sq13) ++ Sq16) ++ Sq17) ++ Sp19)) wd18 := hI26
        refine seq_one (op_val (v := .slice q13 ((r11.c.lst 1).length) capq13) hf208 rfl rfl rfl rfl rfl rfl (r_move rfl) fun ac191 hf209 => ?_)
        refine seq_one (op_appendN (A := ([(b1, arr .i64 r15.c.lk, 103), (b2, arr .i64 r15.c.of, 3), (b3, arr .i64 r15.c.mn, 3), (b4, #[.slice (some ⟨b1, 0, none⟩) (8 + 2) (8 + 2), .slice (some ⟨b2, 0, none⟩) 8 8, .slice (some ⟨b3, 0, none⟩) 2 2], 79), (b5, arr .i64 r15.cr, 3), (b6, #[.pointer (some ⟨b4, 0, none⟩), .slice (some ⟨b5, 0, none⟩) 8 8, .int .i64 r15.q], 45), (b7, arr .i64 ws, 99)] ++ (((((Sq8 ++ Sq9) ++ Sq12) ++ Sq13) ++ Sq16) ++ Sq17))) (S := Sp19) (xs := ([] ++ (r11.c.lst 0))) (ys := (r11.c.lst 1)) rfl rfl hf209 rfl rfl rfl us_27 if_3 rfl hsp19 rfl (hsq13.rd hI27 (fun x hx => List.mem_append_right _ (List.mem_append_left _ (List.mem_append_left _ (List.mem_append_left _ (List.mem_append_right _ hx)))))) hI27 hzp19 (by simp only [List.length_append, List.length_nil, List.length_cons, maxLen]; have := Ch.lst_le r11.c 0; have := Ch.lst_le r11.c 1; omega) (by simp only [List.length_append, List.length_nil, List.length_cons, Nat.zero_add]; have := Ch.lst_le r11.c 0; have := Ch.lst_le r11.c 1; omega) fun ac192 p20 capp20 Sp20 wd19 hsp20 hzp20 hI28 hf210 => ?_)
        obtain ⟨xs20, exs20⟩ : ∃ xs, xs = (([] ++ (r11.c.lst 0)) ++ (r11.c.lst 1)) := ⟨_, rfl⟩
        rw [← exs20] at hsp20 hf210
        have hI29 : Inv w ([(b1, arr .i64 r15.c.lk, 103), (b2, arr .i64 r15.c.of, 3), (b3, arr .i64 r15.c.mn, 3), (b4, #[.slice (some ⟨b1, 0, none⟩) (8 + 2) (8 + 2), .slice (some ⟨b2, 0, none⟩) 8 8, .slice (some ⟨b3, 0, none⟩) 2 2], 79), (b5, arr .i64 r15.cr, 3), (b6, #[.pointer (some ⟨b4, 0, none⟩), .slice (some ⟨b5, 0, none⟩) 8 8, .int .i64 r15.q], 45), (b7, arr .i64 ws, 99)] ++ ((((((Sq8 ++ Sq9) ++ Sq12) ++ Sq13) ++ Sq16) ++ Sq17) ++ Sp20)) wd19 := hI28
        refine seq_one (op_val (v := .slice p20 xs20.length capp20) hf210 rfl rfl rfl rfl rfl rfl (r_assign rfl) fun ac193 hf211 => ?_)
        refine seq_end ?_
        clear ac187 wd16 hI22 hf205 hI23 ac188 hf206 hI24 ac189 wd17 hI25 hf207 hI26 ac190 hf208 ac191 wd18 hI27 hf209 hI28 ac192 hf210
        refine then_normal ?_
        refine code_seq ?_
        refine seq_start (l := [0, 1, 2, 3, 4, 5, 6, 7, 8, 9, 10, 11, 12, 13, 14, 15, 16, 17, 18, 19, 20]) rfl ?_
        refine seq_one (op_val (v := .bool (r15.c.inn r6.head.f)) hf211 rfl rfl rfl rfl rfl rfl (r_move rfl) fun ac194 hf212 => ?_)
        refine seq_one (op_val (v := .bool (r15.c.inn r6.head.f)) hf212 rfl rfl rfl rfl rfl rfl (r_move rfl) fun ac195 hf213 => ?_)
        have hf214 := hf213.know 184 (u := .bool true) rfl (congrArg Value.bool ((Ro.t7 er11 er15 (by have := c170_4; simpa using this)).1))
        refine seq_one (op_val (v := .int .i64 (r15.crV r6.head.f)) hf214 rfl rfl rfl rfl rfl rfl (r_move rfl) fun ac196 hf215 => ?_)
        refine seq_one (op_val (v := .int .i64 r6.headC) hf215 rfl rfl rfl rfl rfl rfl (r_move rfl) fun ac197 hf216 => ?_)
        refine seq_one (op_val (v := .bool ((r15.crV r6.head.f) == r6.headC)) hf216 rfl rfl rfl rfl rfl rfl (r_eql rfl rfl) fun ac198 hf217 => ?_)
        refine seq_one (op_val (v := .bool ((r15.crV r6.head.f) == r6.headC)) hf217 rfl rfl rfl rfl rfl rfl (r_pickT rfl rfl) fun ac199 hf218 => ?_)
        refine seq_one (op_val (v := .bool ((r15.crV r6.head.f) == r6.headC)) hf218 rfl rfl rfl rfl rfl rfl (r_move rfl) fun ac200 hf219 => ?_)
        have hf220 := hf219.know 189 (u := .bool true) rfl (congrArg Value.bool (beq_iff_eq.2 (Ro.t7 er11 er15 (by have := c170_4; simpa using this)).2.1))
        refine seq_one (op_val (v := .int .i64 r6.headC) hf220 rfl rfl rfl rfl rfl rfl (r_move rfl) fun ac201 hf221 => ?_)
        refine seq_one (op_val (v := .bool (decide (r6.headC > 0))) hf221 rfl rfl rfl rfl rfl rfl (r_gtr rfl rfl) fun ac202 hf222 => ?_)
        refine seq_one (op_val (v := .bool (decide (r6.headC > 0))) hf222 rfl rfl rfl rfl rfl rfl (r_pickT rfl rfl) fun ac203 hf223 => ?_)
        refine seq_one (op_val (v := .bool (decide (r6.headC > 0))) hf223 rfl rfl rfl rfl rfl rfl (r_move rfl) fun ac204 hf224 => ?_)
        have hf225 := hf224.know 193 (u := .bool true) rfl (congrArg Value.bool (decide_eq_true (Ro.t7 er11 er15 (by have := c170_4; simpa using this)).2.2))
        refine seq_one (op_val (v := .slice p20 xs20.length capp20) hf225 rfl rfl rfl rfl rfl rfl (r_move rfl) fun ac205 hf226 => ?_)
        refine seq_one (op_val (v := .pointer (slAt p20 0)) hf226 rfl rfl rfl rfl rfl rfl (r_indexAddrV (i := 0) sl_27 rfl rfl rfl (Ro.t8 er11 (by have := c170_4; simpa using this) exs20).1 (let r := (hsp20.rd hI29 (fun x hx => List.mem_append_right _ (List.mem_append_right _ hx))) 0 (Ro.t8 er11 (by have := c170_4; simpa using this) exs20).1; ⟨r.choose, r.choose_spec.1⟩)) fun ac206 hf227 => ?_)
        refine seq_one (op_val (v := .int .i64 (xs20.getD 0 0)) hf227 rfl rfl rfl rfl rfl rfl (r_loadV ag_3 rfl (hsp20.rd hI29 (fun x hx => List.mem_append_right _ (List.mem_append_right _ hx))) (Ro.t8 er11 (by have := c170_4; simpa using this) exs20).1) fun ac207 hf228 => ?_)
        refine seq_one (op_val (v := .int .i64 r6.head.f) hf228 rfl rfl rfl rfl rfl rfl (r_move rfl) fun ac208 hf229 => ?_)
        refine seq_one (op_val (v := .bool ((xs20.getD 0 0) == r6.head.f)) hf229 rfl rfl rfl rfl rfl rfl (r_eql rfl rfl) fun ac209 hf230 => ?_)
        refine seq_one (op_val (v := .bool ((xs20.getD 0 0) == r6.head.f)) hf230 rfl rfl rfl rfl rfl rfl (r_pickT rfl rfl) fun ac210 hf231 => ?_)
        refine seq_one (op_val (v := .bool ((xs20.getD 0 0) == r6.head.f)) hf231 rfl rfl rfl rfl rfl rfl (r_move rfl) fun ac211 hf232 => ?_)
        have hf233 := hf232.know 200 (u := .bool true) rfl (congrArg Value.bool (beq_iff_eq.2 (Ro.t8 er11 (by have := c170_4; simpa using this) exs20).2))
        refine seq_one (op_pure hf233 rfl rfl rfl rfl ca_23 awake17_pur hI29 fun ac212 wd20 hI30 hf234 => ?_)
        refine seq_one (op_val (v := .bool true) hf234 rfl rfl rfl rfl rfl rfl (r_pickT rfl rfl) fun ac213 hf235 => ?_)
        refine seq_one (op_val (v := .bool true) hf235 rfl rfl rfl rfl rfl rfl (r_assign rfl) fun ac214 hf236 => ?_)
        refine seq_end ?_
        clear ac193 hf211 ac194 hf212 hf213 ac195 hf214 ac196 hf215 ac197 hf216 ac198 hf217 ac199 hf218 hf219 ac200 hf220 ac201 hf221 ac202 hf222 ac203 hf223 hf224 ac204 hf225 ac205 hf226 ac206 hf227 ac207 hf228 ac208 hf229 ac209 hf230 ac210 hf231 hf232 ac211 wd19 hI29 hf233 ac212 hf234 ac213 hf235
        refine then_normal ?_
        refine wp_ret ?_
        refine post1 rfl hf236 rfl ⟨?_, hI30.done (fk_app (fresh_keys (ks := [b1, b2, b3, b4, b5, b6, b7]) rfl (fk_cons hb1 (fk_cons hb2 (fk_cons hb3 (fk_cons hb4 (fk_cons hb5 (fk_cons hb6 (fk_cons hb7 fk_nil)))))))) (fk_app (fk_app (fk_app (fk_app (fk_app (fk_app hyq8 hyq9) hyq12) hyq13) hyq16) hyq17) hzp20))⟩
        rfl
end Go.Proofs.Ytjelaoblpchmmaa
