/-
  The walk of DrrLeaves.
-/
import Derived.Test.YtjelaoblpchmmaaPlain4
namespace Go.Proofs.Ytjelaoblpchmmaa
set_option linter.unusedVariables false
set_option linter.unusedSimpArgs false
set_option maxRecDepth 100000
open Go.RowKit
set_option maxHeartbeats 8000000 in
theorem drrLeaves_walk {p : Option Addr} {L cap : Nat} {rows : List (List Value)} (hl : rows.length = L) (hc : L ≤ cap) (ho : ∀ row ∈ rows, Oks opKinds row) {a q : Int} (eq : 64 + a = q) (hq : 64 ≤ q ∧ q ≤ 65599) {w : World} (hr : Rows_ w p 3 rows) : Calls Try.prog 3 [.int .u16 a, .slice p L cap].toArray w fun e w' => e = .returned (.bool true) ∧ Inv w [] w' := by
  have hI1 := Inv.start w
  refine enter (n := 149) Try.func3 rfl rfl rfl ?_
  intro ac1 hf1
  refine code_seq ?_
  refine seq_start (l := [0]) rfl ?_
  refine seq_one (op_val (v := .bool false) hf1 rfl rfl rfl rfl rfl rfl (r_assign rfl) fun ac2 hf2 => ?_)
  refine seq_end ?_
  clear ac1 hf1
  refine then_normal ?_
  refine code_seq ?_
  refine seq_start (l := [0, 1, 2, 3, 4, 5, 6, 7, 8, 9]) rfl ?_
  refine seq_one (op_val (v := .int .u16 a) hf2 rfl rfl rfl rfl rfl rfl (r_move rfl) fun ac3 hf3 => ?_)
  refine seq_one (op_val (v := .int .i64 a) hf3 rfl rfl rfl rfl rfl rfl (r_conv (c := a) ui_22 ui_3 rfl (wrap_i64 (by omega) (by omega))) fun ac4 hf4 => ?_)
  refine seq_one (op_val (v := .int .i64 q) hf4 rfl rfl rfl rfl rfl rfl (r_add (c := q) rfl rfl (by rw [eq]; exact wrap_i64 (by omega) (by omega))) fun ac5 hf5 => ?_)
  refine seq_one (op_val (v := .slice p L cap) hf5 rfl rfl rfl rfl rfl rfl (r_move rfl) fun ac6 hf6 => ?_)
  refine seq_one (op_call (R := fun v w' => ∃ lb ob mb cb rc rb, ∃ r : Ro 8, Array.size (World.heap w) ≤ lb ∧ Array.size (World.heap w) ≤ ob ∧ Array.size (World.heap w) ≤ mb ∧ Array.size (World.heap w) ≤ cb ∧ Array.size (World.heap w) ≤ rc ∧ Array.size (World.heap w) ≤ rb ∧ v = .tuple #[.pointer (some ⟨rb, 0, none⟩), .bool true] ∧ Inv w [(lb, arr .i64 r.c.lk, 103), (ob, arr .i64 r.c.of, 3), (mb, arr .i64 r.c.mn, 3), (cb, #[.slice (some ⟨lb, 0, none⟩) (8 + 2) (8 + 2), .slice (some ⟨ob, 0, none⟩) 8 8, .slice (some ⟨mb, 0, none⟩) 2 2], 79), (rc, arr .i64 r.cr, 3), (rb, #[.pointer (some ⟨cb, 0, none⟩), .slice (some ⟨rc, 0, none⟩) 8 8, .int .i64 r.q], 45)] w') hf6 rfl rfl rfl rfl ca_15 ((played17_walk ⟨hq.1, by omega⟩ hl hc ho (hr.old hI1 (fresh_keys (ks := []) rfl fk_nil))).mono fun e w' ⟨lb, ob, mb, cb, rc, rb, r, h1, h2, h3, h4, h5, h6, h7, h8⟩ => ⟨_, h7, lb, ob, mb, cb, rc, rb, r, h1, h2, h3, h4, h5, h6, rfl, h8⟩) fun ac7 v wd1 hR hf7 => ?_)
  obtain ⟨b1, b2, b3, b4, b5, b6, r6, hqb1, hqb2, hqb3, hqb4, hqb5, hqb6, rfl, hw6⟩ := hR
  have hb1 := Nat.le_trans hI1.size hqb1
  have hb2 := Nat.le_trans hI1.size hqb2
  have hb3 := Nat.le_trans hI1.size hqb3
  have hb4 := Nat.le_trans hI1.size hqb4
  have hb5 := Nat.le_trans hI1.size hqb5
  have hb6 := Nat.le_trans hI1.size hqb6
  have hI2 : Inv w [(b1, arr .i64 r6.c.lk, 103), (b2, arr .i64 r6.c.of, 3), (b3, arr .i64 r6.c.mn, 3), (b4, #[.slice (some ⟨b1, 0, none⟩) (8 + 2) (8 + 2), .slice (some ⟨b2, 0, none⟩) 8 8, .slice (some ⟨b3, 0, none⟩) 2 2], 79), (b5, arr .i64 r6.cr, 3), (b6, #[.pointer (some ⟨b4, 0, none⟩), .slice (some ⟨b5, 0, none⟩) 8 8, .int .i64 r6.q], 45)] _ := hI1.callN hw6 (fk6 hqb1 hqb2 hqb3 hqb4 hqb5 hqb6)
  refine seq_one (op_val (v := .tuple #[.pointer (some ⟨b6, 0, none⟩), .bool true]) hf7 rfl rfl rfl rfl rfl rfl (r_move rfl) fun ac8 hf8 => ?_)
  refine seq_one (op_val (v := .pointer (some ⟨b6, 0, none⟩)) hf8 rfl rfl rfl rfl rfl rfl (r_extract rfl rfl) fun ac9 hf9 => ?_)
  refine seq_one (op_val (v := .bool true) hf9 rfl rfl rfl rfl rfl rfl (r_extract rfl rfl) fun ac10 hf10 => ?_)
  refine seq_one (op_val (v := .pointer (some ⟨b6, 0, none⟩)) hf10 rfl rfl rfl rfl rfl rfl (r_assign rfl) fun ac11 hf11 => ?_)
  refine seq_one (op_val (v := .bool true) hf11 rfl rfl rfl rfl rfl rfl (r_assign rfl) fun ac12 hf12 => ?_)
  refine seq_end ?_
  clear ac2 hf2 ac3 hf3 ac4 hf4 ac5 hf5 ac6 hf6 hI1 hw6 hqb1 hqb2 hqb3 hqb4 hqb5 hqb6 ac7 hf7 ac8 hf8 ac9 hf9 ac10 hf10 ac11 hf11
  refine then_normal ?_
  refine code_seq ?_
  refine code_seq ?_
  refine seq_start (l := [0, 1]) rfl ?_
  refine seq_one (op_val (v := .bool true) hf12 rfl rfl rfl rfl rfl rfl (r_move rfl) fun ac13 hf13 => ?_)
  refine seq_one (op_val (v := .bool false) hf13 rfl rfl rfl rfl rfl rfl ((r_not (b := true) rfl).trans rfl) fun ac14 hf14 => ?_)
  refine seq_end ?_
  clear ac12 hf12 ac13 hf13
  refine then_normal ?_
  refine code_if_false hf14 rfl ?_
  refine wp_skip ?_
  refine then_normal ?_
  refine code_seq ?_
  refine seq_start (l := [0, 1, 2, 3, 4, 5, 6]) rfl ?_
  refine seq_one (op_val (v := .pointer (some ⟨b6, 0, none⟩)) hf14 rfl rfl rfl rfl rfl rfl (r_move rfl) fun ac15 hf15 => ?_)
  refine seq_one (op_call (R := fun v w' => ∃ S p cap T q caq, v = .tuple #[.slice p (r6.c.lst 0).length cap, .slice q (r6.c.lst 1).length caq] ∧ Sl 3 .i64 S p cap (r6.c.lst 0) ∧ Sl 3 .i64 T q caq (r6.c.lst 1) ∧ Inv _ (S ++ T) w' ∧ (∀ x ∈ S, Array.size (World.heap _) ≤ x.1) ∧ ∀ x ∈ T, Array.size (World.heap _) ≤ x.1) hf15 rfl rfl rfl rfl ca_16 ((lists_any (hI2.nd6 0 rfl rfl rfl rfl rfl rfl) r6 (Has.cons (hI2.at 0 rfl) (Has.cons (hI2.at 1 rfl) (Has.cons (hI2.at 2 rfl) (Has.cons (hI2.at 3 rfl) (Has.cons (hI2.at 4 rfl) (Has.cons (hI2.at 5 rfl) Has.nil))))))).mono fun _ _ ⟨S, p, cap, T, q, caq, he, h1, h2, h3, h4, h5⟩ => ⟨_, he, S, p, cap, T, q, caq, rfl, h1, h2, h3, h4, h5⟩) fun ac16 v wd2 hR hf16 => ?_)
  obtain ⟨Sq7, q7, capq7, Sq8, q8, capq8, rfl, hsq7, hsq8, hwq7, hzq7, hzq8⟩ := hR
  have hyq7 := fk_le hI2.size hzq7
  have hyq8 := fk_le hI2.size hzq8
  have hI3 := hI2.callN2 hwq7 hzq7 hzq8
  have hI4 : Inv w ([(b1, arr .i64 r6.c.lk, 103), (b2, arr .i64 r6.c.of, 3), (b3, arr .i64 r6.c.mn, 3), (b4, #[.slice (some ⟨b1, 0, none⟩) (8 + 2) (8 + 2), .slice (some ⟨b2, 0, none⟩) 8 8, .slice (some ⟨b3, 0, none⟩) 2 2], 79), (b5, arr .i64 r6.cr, 3), (b6, #[.pointer (some ⟨b4, 0, none⟩), .slice (some ⟨b5, 0, none⟩) 8 8, .int .i64 r6.q], 45)] ++ (Sq7 ++ Sq8)) _ := hI3
  refine seq_one (op_val (v := .tuple #[.slice q7 ((r6.c.lst 0).length) capq7, .slice q8 ((r6.c.lst 1).length) capq8]) hf16 rfl rfl rfl rfl rfl rfl (r_move rfl) fun ac17 hf17 => ?_)
  refine seq_one (op_val (v := .slice q7 ((r6.c.lst 0).length) capq7) hf17 rfl rfl rfl rfl rfl rfl (r_extract rfl rfl) fun ac18 hf18 => ?_)
  refine seq_one (op_val (v := .slice q8 ((r6.c.lst 1).length) capq8) hf18 rfl rfl rfl rfl rfl rfl (r_extract rfl rfl) fun ac19 hf19 => ?_)
  refine seq_one (op_val (v := .slice q7 ((r6.c.lst 0).length) capq7) hf19 rfl rfl rfl rfl rfl rfl (r_assign rfl) fun ac20 hf20 => ?_)
  refine seq_one (op_val (v := .slice q8 ((r6.c.lst 1).length) capq8) hf20 rfl rfl rfl rfl rfl rfl (r_assign rfl) fun ac21 hf21 => ?_)
  refine seq_end ?_
  clear ac14 hf14 ac15 wd1 hf15 hI2 hI3 hwq7 hzq7 hzq8 ac16 hf16 ac17 hf17 ac18 hf18 ac19 hf19 ac20 hf20
  refine then_normal ?_
  refine code_seq ?_
  refine seq_start (l := [0, 1, 2, 3, 4, 5]) rfl ?_
  refine seq_one (op_bslice (s := 3) (cells := #[]) hf21 rfl rfl rfl rfl rfl (fun _ => by kernel_rfl) hI4 fun ac22 b9 wd3 hb9 hI5 hf22 => ?_)
  have hI6 : Inv w ([(b1, arr .i64 r6.c.lk, 103), (b2, arr .i64 r6.c.of, 3), (b3, arr .i64 r6.c.mn, 3), (b4, #[.slice (some ⟨b1, 0, none⟩) (8 + 2) (8 + 2), .slice (some ⟨b2, 0, none⟩) 8 8, .slice (some ⟨b3, 0, none⟩) 2 2], 79), (b5, arr .i64 r6.cr, 3), (b6, #[.pointer (some ⟨b4, 0, none⟩), .slice (some ⟨b5, 0, none⟩) 8 8, .int .i64 r6.q], 45), (b9, #[], 3)] ++ (Sq7 ++ Sq8)) wd3 := Inv.tail (A := [(b1, arr .i64 r6.c.lk, 103), (b2, arr .i64 r6.c.of, 3), (b3, arr .i64 r6.c.mn, 3), (b4, #[.slice (some ⟨b1, 0, none⟩) (8 + 2) (8 + 2), .slice (some ⟨b2, 0, none⟩) 8 8, .slice (some ⟨b3, 0, none⟩) 2 2], 79), (b5, arr .i64 r6.cr, 3), (b6, #[.pointer (some ⟨b4, 0, none⟩), .slice (some ⟨b5, 0, none⟩) 8 8, .int .i64 r6.q], 45)]) (T := (Sq7 ++ Sq8)) (N := [(b9, #[], 3)]) hI5
  refine seq_one (op_val (v := .slice q7 ((r6.c.lst 0).length) capq7) hf22 rfl rfl rfl rfl rfl rfl (r_move rfl) fun ac23 hf23 => ?_)
  have hI7 : Inv w ([(b1, arr .i64 r6.c.lk, 103), (b2, arr .i64 r6.c.of, 3), (b3, arr .i64 r6.c.mn, 3), (b4, #[.slice (some ⟨b1, 0, none⟩) (8 + 2) (8 + 2), .slice (some ⟨b2, 0, none⟩) 8 8, .slice (some ⟨b3, 0, none⟩) 2 2], 79), (b5, arr .i64 r6.cr, 3), (b6, #[.pointer (some ⟨b4, 0, none⟩), .slice (some ⟨b5, 0, none⟩) 8 8, .int .i64 r6.q], 45)] ++ ((Sq7 ++ Sq8) ++ [(b9, #[], 3)])) _ := Inv.tail (A := [(b1, arr .i64 r6.c.lk, 103), (b2, arr .i64 r6.c.of, 3), (b3, arr .i64 r6.c.mn, 3), (b4, #[.slice (some ⟨b1, 0, none⟩) (8 + 2) (8 + 2), .slice (some ⟨b2, 0, none⟩) 8 8, .slice (some ⟨b3, 0, none⟩) 2 2], 79), (b5, arr .i64 r6.cr, 3), (b6, #[.pointer (some ⟨b4, 0, none⟩), .slice (some ⟨b5, 0, none⟩) 8 8, .int .i64 r6.q], 45)]) (T := [(b9, #[], 3)]) (N := (Sq7 ++ Sq8)) hI6
  refine seq_one (op_appendN (A := ([(b1, arr .i64 r6.c.lk, 103), (b2, arr .i64 r6.c.of, 3), (b3, arr .i64 r6.c.mn, 3), (b4, #[.slice (some ⟨b1, 0, none⟩) (8 + 2) (8 + 2), .slice (some ⟨b2, 0, none⟩) 8 8, .slice (some ⟨b3, 0, none⟩) 2 2], 79), (b5, arr .i64 r6.cr, 3), (b6, #[.pointer (some ⟨b4, 0, none⟩), .slice (some ⟨b5, 0, none⟩) 8 8, .int .i64 r6.q], 45)] ++ (Sq7 ++ Sq8))) (S := [(b9, #[], 3)]) (xs := []) (ys := (r6.c.lst 0)) rfl rfl hf23 rfl rfl rfl us_27 if_3 rfl Sl.lit0 rfl (hsq7.rd hI7 (fun x hx => List.mem_append_right _ (List.mem_append_left _ (List.mem_append_left _ hx)))) hI7 (fun x hx => by simp only [List.mem_singleton] at hx; subst hx; exact hb9) (by simp only [List.length_append, List.length_nil, List.length_cons, maxLen]; have := Ch.lst_le r6.c 0; have := Ch.lst_le r6.c 1; omega) (by simp only [List.length_append, List.length_nil, List.length_cons, Nat.zero_add]; have := Ch.lst_le r6.c 0; have := Ch.lst_le r6.c 1; omega) fun ac24 p10 capp10 Sp10 wd4 hsp10 hzp10 hI8 hf24 => ?_)
  have hI9 : Inv w ([(b1, arr .i64 r6.c.lk, 103), (b2, arr .i64 r6.c.of, 3), (b3, arr .i64 r6.c.mn, 3), (b4, #[.slice (some ⟨b1, 0, none⟩) (8 + 2) (8 + 2), .slice (some ⟨b2, 0, none⟩) 8 8, .slice (some ⟨b3, 0, none⟩) 2 2], 79), (b5, arr .i64 r6.cr, 3), (b6, #[.pointer (some ⟨b4, 0, none⟩), .slice (some ⟨b5, 0, none⟩) 8 8, .int .i64 r6.q], 45)] ++ ((Sq7 ++ Sq8) ++ Sp10)) wd4 := hI8
  refine seq_one (op_val (v := .slice q8 ((r6.c.lst 1).length) capq8) hf24 rfl rfl rfl rfl rfl rfl (r_move rfl) fun ac25 hf25 => ?_)
  refine seq_one (op_appendN (A := ([(b1, arr .i64 r6.c.lk, 103), (b2, arr .i64 r6.c.of, 3), (b3, arr .i64 r6.c.mn, 3), (b4, #[.slice (some ⟨b1, 0, none⟩) (8 + 2) (8 + 2), .slice (some ⟨b2, 0, none⟩) 8 8, .slice (some ⟨b3, 0, none⟩) 2 2], 79), (b5, arr .i64 r6.cr, 3), (b6, #[.pointer (some ⟨b4, 0, none⟩), .slice (some ⟨b5, 0, none⟩) 8 8, .int .i64 r6.q], 45)] ++ (Sq7 ++ Sq8))) (S := Sp10) (xs := ([] ++ (r6.c.lst 0))) (ys := (r6.c.lst 1)) rfl rfl hf25 rfl rfl rfl us_27 if_3 rfl hsp10 rfl (hsq8.rd hI9 (fun x hx => List.mem_append_right _ (List.mem_append_left _ (List.mem_append_right _ hx)))) hI9 hzp10 (by simp only [List.length_append, List.length_nil, List.length_cons, maxLen]; have := Ch.lst_le r6.c 0; have := Ch.lst_le r6.c 1; omega) (by simp only [List.length_append, List.length_nil, List.length_cons, Nat.zero_add]; have := Ch.lst_le r6.c 0; have := Ch.lst_le r6.c 1; omega) fun ac26 p11 capp11 Sp11 wd5 hsp11 hzp11 hI10 hf26 => ?_)
  obtain ⟨xs11, exs11⟩ : ∃ xs, xs = (([] ++ (r6.c.lst 0)) ++ (r6.c.lst 1)) := ⟨_, rfl⟩
  rw [← exs11] at hsp11 hf26
  have hxl := Ro.two_le r6.c
  rw [← exs11] at hxl
  have hI11 : Inv w ([(b1, arr .i64 r6.c.lk, 103), (b2, arr .i64 r6.c.of, 3), (b3, arr .i64 r6.c.mn, 3), (b4, #[.slice (some ⟨b1, 0, none⟩) (8 + 2) (8 + 2), .slice (some ⟨b2, 0, none⟩) 8 8, .slice (some ⟨b3, 0, none⟩) 2 2], 79), (b5, arr .i64 r6.cr, 3), (b6, #[.pointer (some ⟨b4, 0, none⟩), .slice (some ⟨b5, 0, none⟩) 8 8, .int .i64 r6.q], 45)] ++ ((Sq7 ++ Sq8) ++ Sp11)) wd5 := hI10
  refine seq_one (op_val (v := .slice p11 xs11.length capp11) hf26 rfl rfl rfl rfl rfl rfl (r_assign rfl) fun ac27 hf27 => ?_)
  refine seq_end ?_
  clear ac21 wd2 hI4 hf21 hI5 ac22 hf22 hI6 ac23 wd3 hI7 hf23 hI8 ac24 hf24 ac25 wd4 hI9 hf25 hI10 ac26 hf26
  refine then_normal ?_
  refine code_seq ?_
  refine code_seq ?_
  refine seq_start (l := [0, 1, 2]) rfl ?_
  refine seq_one (op_val (v := .slice p11 xs11.length capp11) hf27 rfl rfl rfl rfl rfl rfl (r_move rfl) fun ac28 hf28 => ?_)
  refine seq_one (op_val (v := .int .i64 (xs11.length : Int)) hf28 rfl rfl rfl rfl rfl rfl (r_len sl_27 rfl) fun ac29 hf29 => ?_)
  refine seq_one (op_val (v := .int .i64 0) hf29 rfl rfl rfl rfl rfl rfl (r_move rfl) fun ac30 hf30 => ?_)
  refine seq_end ?_
  clear ac27 hf27 ac28 hf28 ac29 hf29
  refine then_normal ?_
  refine wp_block ?_
  refine code_loop (α := Nat × (Ro 8)) (fun (x : Nat × (Ro 8)) => match x with | (i, s) => [(0, .int .u16 a), (1, .slice p L cap), (5, .pointer (some ⟨b6, 0, none⟩)), (6, .bool true), (7, .slice q7 ((r6.c.lst 0).length) capq7), (8, .slice q8 ((r6.c.lst 1).length) capq8), (9, .slice p11 xs11.length capp11), (30, .tuple #[.pointer (some ⟨b6, 0, none⟩), .bool true]), (31, .int .u16 a), (32, .int .i64 a), (33, .int .i64 q), (34, .slice p L cap), (35, .tuple #[.pointer (some ⟨b6, 0, none⟩), .bool true]), (36, .pointer (some ⟨b6, 0, none⟩)), (37, .bool true), (38, .bool true), (39, .bool false), (40, .tuple #[.slice q7 ((r6.c.lst 0).length) capq7, .slice q8 ((r6.c.lst 1).length) capq8]), (41, .pointer (some ⟨b6, 0, none⟩)), (42, .tuple #[.slice q7 ((r6.c.lst 0).length) capq7, .slice q8 ((r6.c.lst 1).length) capq8]), (43, .slice q7 ((r6.c.lst 0).length) capq7), (44, .slice q8 ((r6.c.lst 1).length) capq8), (45, .slice (some ⟨b9, 0, none⟩) 0 0), (46, .slice q7 ((r6.c.lst 0).length) capq7), (47, .slice p10 (([] ++ (r6.c.lst 0)).length) capp10), (48, .slice q8 ((r6.c.lst 1).length) capq8), (49, .slice p11 xs11.length capp11), (50, .slice p11 xs11.length capp11), (51, .int .i64 (xs11.length : Int)), (52, .int .i64 (i : Int))]) (fun (x : Nat × (Ro 8)) => match x with | (i, s) => fun wL => Inv w ([(b1, arr .i64 s.c.lk, 103), (b2, arr .i64 s.c.of, 3), (b3, arr .i64 s.c.mn, 3), (b4, #[.slice (some ⟨b1, 0, none⟩) (8 + 2) (8 + 2), .slice (some ⟨b2, 0, none⟩) 8 8, .slice (some ⟨b3, 0, none⟩) 2 2], 79), (b5, arr .i64 s.cr, 3), (b6, #[.pointer (some ⟨b4, 0, none⟩), .slice (some ⟨b5, 0, none⟩) 8 8, .int .i64 s.q], 45)] ++ ((Sq7 ++ Sq8) ++ Sp11)) wL ∧ (i ≤ xs11.length ∧ s.all = xs11.drop i)) (fun (x : Nat × (Ro 8)) => match x with | (i, s) => xs11.length - i) (0, r6) (hf30.cons 0 rfl (hf30.cons 1 rfl (hf30.cons 5 rfl (hf30.cons 6 rfl (hf30.cons 7 rfl (hf30.cons 8 rfl (hf30.cons 9 rfl (hf30.cons 30 rfl (hf30.cons 31 rfl (hf30.cons 32 rfl (hf30.cons 33 rfl (hf30.cons 34 rfl (hf30.cons 35 rfl (hf30.cons 36 rfl (hf30.cons 37 rfl (hf30.cons 38 rfl (hf30.cons 39 rfl (hf30.cons 40 rfl (hf30.cons 41 rfl (hf30.cons 42 rfl (hf30.cons 43 rfl (hf30.cons 44 rfl (hf30.cons 45 rfl (hf30.cons 46 rfl (hf30.cons 47 rfl (hf30.cons 48 rfl (hf30.cons 49 rfl (hf30.cons 50 rfl (hf30.cons 51 rfl (hf30.cons 52 rfl hf30.nil)))))))))))))))))))))))))))))) ⟨hI11, ⟨Nat.zero_le _, by rw [exs11]; rfl⟩⟩ ?_
  intro ⟨i, s⟩ ac31 wd6 hf31 hL1
  obtain ⟨hI12, hx1⟩ := hL1
  dsimp only at hf31 hI12 hx1
  clear ac30 wd5 hf30 hI11
  refine code_seq ?_
  refine seq_start (l := [0]) rfl ?_
  refine seq_one (op_val (v := .bool (decide ((i : Int) < (xs11.length : Int)))) hf31 rfl rfl rfl rfl rfl rfl (r_lss rfl rfl) fun ac32 hf32 => ?_)
  refine seq_end ?_
  clear ac31 hf31
  refine then_normal ?_
  refine code_seq ?_
  refine code_if hf32 rfl (fun c53_1 => ?_) (fun c53_1 => ?_)
  · have hf33 := hf32.know 53 (u := .bool true) rfl (congrArg Value.bool c53_1)
    refine wp_skip ?_
    refine then_normal ?_
    refine code_seq ?_
    refine wp_block ?_
    refine code_seq ?_
    refine seq_start (l := [0, 1, 2, 3, 4]) rfl ?_
    refine seq_one (op_val (v := .int .i64 (i : Int)) hf33 rfl rfl rfl rfl rfl rfl (r_move rfl) fun ac33 hf34 => ?_)
    refine seq_one (op_val (v := .pointer (slAt p11 i)) hf34 rfl rfl rfl rfl rfl rfl (r_indexAddrV (i := i) sl_27 rfl rfl rfl (by have := of_decide_eq_true c53_1; omega) (let r := (hsp11.rd hI12 (fun x hx => List.mem_append_right _ (List.mem_append_right _ hx))) i (by have := of_decide_eq_true c53_1; omega); ⟨r.choose, r.choose_spec.1⟩)) fun ac34 hf35 => ?_)
    refine seq_one (op_val (v := .int .i64 (xs11.getD i 0)) hf35 rfl rfl rfl rfl rfl rfl (r_loadV ag_3 rfl (hsp11.rd hI12 (fun x hx => List.mem_append_right _ (List.mem_append_right _ hx))) (by have := of_decide_eq_true c53_1; omega)) fun ac35 hf36 => ?_)
    refine seq_one (op_val (v := .int .i64 (i : Int)) hf36 rfl rfl rfl rfl rfl rfl (r_assign rfl) fun ac36 hf37 => ?_)
    refine seq_one (op_val (v := .int .i64 (xs11.getD i 0)) hf37 rfl rfl rfl rfl rfl rfl (r_assign rfl) fun ac37 hf38 => ?_)
    refine seq_end ?_
    clear hf32 ac32 hf33 ac33 hf34 ac34 hf35 ac35 hf36 ac36 hf37
    refine then_normal ?_
    refine code_seq ?_
    refine seq_start (l := [0, 1, 2, 3, 4, 5, 6, 7]) rfl ?_
    refine seq_one (op_val (v := .pointer (some ⟨b6, 0, none⟩)) hf38 rfl rfl rfl rfl rfl rfl (r_move rfl) fun ac38 hf39 => ?_)
    refine seq_one (op_val (v := .int .i64 (xs11.getD i 0)) hf39 rfl rfl rfl rfl rfl rfl (r_move rfl) fun ac39 hf40 => ?_)
    refine seq_one (op_pureW hf40 rfl rfl rfl rfl ca_17 (credit_any (hI12.nd6 0 rfl rfl rfl rfl rfl rfl) s (Has.cons (hI12.at 0 rfl) (Has.cons (hI12.at 1 rfl) (Has.cons (hI12.at 2 rfl) (Has.cons (hI12.at 3 rfl) (Has.cons (hI12.at 4 rfl) (Has.cons (hI12.at 5 rfl) Has.nil)))))) (xs11.getD i 0)) hI12 fun ac40 wd7 hI13 hf41 => ?_)
    refine seq_one (op_val (v := .tuple #[.int .i64 (s.crV (xs11.getD i 0)), .bool (s.c.inn (xs11.getD i 0))]) hf41 rfl rfl rfl rfl rfl rfl (r_move rfl) fun ac41 hf42 => ?_)
    refine seq_one (op_val (v := .int .i64 (s.crV (xs11.getD i 0))) hf42 rfl rfl rfl rfl rfl rfl (r_extract rfl rfl) fun ac42 hf43 => ?_)
    refine seq_one (op_val (v := .bool (s.c.inn (xs11.getD i 0))) hf43 rfl rfl rfl rfl rfl rfl (r_extract rfl rfl) fun ac43 hf44 => ?_)
    refine seq_one (op_val (v := .int .i64 (s.crV (xs11.getD i 0))) hf44 rfl rfl rfl rfl rfl rfl (r_assign rfl) fun ac44 hf45 => ?_)
    refine seq_one (op_val (v := .bool (s.c.inn (xs11.getD i 0))) hf45 rfl rfl rfl rfl rfl rfl (r_assign rfl) fun ac45 hf46 => ?_)
    refine seq_end ?_
    clear ac37 hf38 ac38 hf39 ac39 wd6 hI12 hf40 ac40 hf41 ac41 hf42 ac42 hf43 ac43 hf44 ac44 hf45
    refine then_normal ?_
    refine code_seq ?_
    refine seq_start (l := [0, 1, 2, 3, 4, 5, 6, 7, 8]) rfl ?_
    refine seq_one (op_val (v := .pointer (some ⟨b6, 0, none⟩)) hf46 rfl rfl rfl rfl rfl rfl (r_move rfl) fun ac46 hf47 => ?_)
    refine seq_one (op_call (R := fun v w' => v = .tuple #[.int .i64 s.f, .int .i64 s.leaveC, .bool s.ok] ∧ Inv _ [(b1, arr .i64 s.leave.c.lk, 103), (b2, arr .i64 s.leave.c.of, 3), (b3, arr .i64 s.leave.c.mn, 3), (b4, #[.slice (some ⟨b1, 0, none⟩) (8 + 2) (8 + 2), .slice (some ⟨b2, 0, none⟩) 8 8, .slice (some ⟨b3, 0, none⟩) 2 2], 79), (b5, arr .i64 s.leave.cr, 3), (b6, #[.pointer (some ⟨b4, 0, none⟩), .slice (some ⟨b5, 0, none⟩) 8 8, .int .i64 s.leave.q], 45)] w') hf47 rfl rfl rfl rfl ca_18 ((leave_any (hI13.nd6 0 rfl rfl rfl rfl rfl rfl) s (Has.cons (hI13.at 0 rfl) (Has.cons (hI13.at 1 rfl) (Has.cons (hI13.at 2 rfl) (Has.cons (hI13.at 3 rfl) (Has.cons (hI13.at 4 rfl) (Has.cons (hI13.at 5 rfl) Has.nil)))))) ).mono fun _ _ h => ⟨_, h.1, rfl, h.2⟩) fun ac47 v wd8 hR12 hf48 => ?_)
    obtain ⟨rfl, hR12⟩ := hR12
    have hI14 : Inv w ([(b1, arr .i64 s.leave.c.lk, 103), (b2, arr .i64 s.leave.c.of, 3), (b3, arr .i64 s.leave.c.mn, 3), (b4, #[.slice (some ⟨b1, 0, none⟩) (8 + 2) (8 + 2), .slice (some ⟨b2, 0, none⟩) 8 8, .slice (some ⟨b3, 0, none⟩) 2 2], 79), (b5, arr .i64 s.leave.cr, 3), (b6, #[.pointer (some ⟨b4, 0, none⟩), .slice (some ⟨b5, 0, none⟩) 8 8, .int .i64 s.leave.q], 45)] ++ ((Sq7 ++ Sq8) ++ Sp11)) _ := Inv.callST (A := []) (S := [(b1, arr .i64 s.c.lk, 103), (b2, arr .i64 s.c.of, 3), (b3, arr .i64 s.c.mn, 3), (b4, #[.slice (some ⟨b1, 0, none⟩) (8 + 2) (8 + 2), .slice (some ⟨b2, 0, none⟩) 8 8, .slice (some ⟨b3, 0, none⟩) 2 2], 79), (b5, arr .i64 s.cr, 3), (b6, #[.pointer (some ⟨b4, 0, none⟩), .slice (some ⟨b5, 0, none⟩) 8 8, .int .i64 s.q], 45)]) (S' := [(b1, arr .i64 s.leave.c.lk, 103), (b2, arr .i64 s.leave.c.of, 3), (b3, arr .i64 s.leave.c.mn, 3), (b4, #[.slice (some ⟨b1, 0, none⟩) (8 + 2) (8 + 2), .slice (some ⟨b2, 0, none⟩) 8 8, .slice (some ⟨b3, 0, none⟩) 2 2], 79), (b5, arr .i64 s.leave.cr, 3), (b6, #[.pointer (some ⟨b4, 0, none⟩), .slice (some ⟨b5, 0, none⟩) 8 8, .int .i64 s.leave.q], 45)]) (L := []) (N := []) (T := ((Sq7 ++ Sq8) ++ Sp11)) hI13 hR12 rfl (fun _ h => by cases h)
    obtain ⟨r13, er13⟩ : ∃ r : Ro 8, r = s.leave := ⟨_, rfl⟩
    rw [← er13] at hI14
    refine seq_one (op_val (v := .tuple #[.int .i64 s.f, .int .i64 s.leaveC, .bool s.ok]) hf48 rfl rfl rfl rfl rfl rfl (r_move rfl) fun ac48 hf49 => ?_)
    refine seq_one (op_val (v := .int .i64 s.f) hf49 rfl rfl rfl rfl rfl rfl (r_extract rfl rfl) fun ac49 hf50 => ?_)
    refine seq_one (op_val (v := .int .i64 s.leaveC) hf50 rfl rfl rfl rfl rfl rfl (r_extract rfl rfl) fun ac50 hf51 => ?_)
    refine seq_one (op_val (v := .bool s.ok) hf51 rfl rfl rfl rfl rfl rfl (r_extract rfl rfl) fun ac51 hf52 => ?_)
    refine seq_one (op_val (v := .int .i64 s.f) hf52 rfl rfl rfl rfl rfl rfl (r_assign rfl) fun ac52 hf53 => ?_)
    refine seq_one (op_val (v := .int .i64 s.leaveC) hf53 rfl rfl rfl rfl rfl rfl (r_assign rfl) fun ac53 hf54 => ?_)
    refine seq_one (op_val (v := .bool s.ok) hf54 rfl rfl rfl rfl rfl rfl (r_assign rfl) fun ac54 hf55 => ?_)
    refine seq_end ?_
    clear ac45 hf46 ac46 wd7 hf47 hI13 hR12 ac47 hf48 ac48 hf49 ac49 hf50 ac50 hf51 ac51 hf52 ac52 hf53 ac53 hf54
    refine then_normal ?_
    refine code_seq ?_
    refine seq_start (l := [0, 1, 2, 3, 4, 5, 6, 7]) rfl ?_
    refine seq_one (op_val (v := .pointer (some ⟨b6, 0, none⟩)) hf55 rfl rfl rfl rfl rfl rfl (r_move rfl) fun ac55 hf56 => ?_)
    refine seq_one (op_val (v := .int .i64 (xs11.getD i 0)) hf56 rfl rfl rfl rfl rfl rfl (r_move rfl) fun ac56 hf57 => ?_)
    refine seq_one (op_pureW hf57 rfl rfl rfl rfl ca_17 (credit_any (hI14.nd6 0 rfl rfl rfl rfl rfl rfl) r13 (Has.cons (hI14.at 0 rfl) (Has.cons (hI14.at 1 rfl) (Has.cons (hI14.at 2 rfl) (Has.cons (hI14.at 3 rfl) (Has.cons (hI14.at 4 rfl) (Has.cons (hI14.at 5 rfl) Has.nil)))))) (xs11.getD i 0)) hI14 fun ac57 wd9 hI15 hf58 => ?_)
    refine seq_one (op_val (v := .tuple #[.int .i64 (r13.crV (xs11.getD i 0)), .bool (r13.c.inn (xs11.getD i 0))]) hf58 rfl rfl rfl rfl rfl rfl (r_move rfl) fun ac58 hf59 => ?_)
    refine seq_one (op_val (v := .int .i64 (r13.crV (xs11.getD i 0))) hf59 rfl rfl rfl rfl rfl rfl (r_extract rfl rfl) fun ac59 hf60 => ?_)
    refine seq_one (op_val (v := .bool (r13.c.inn (xs11.getD i 0))) hf60 rfl rfl rfl rfl rfl rfl (r_extract rfl rfl) fun ac60 hf61 => ?_)
    refine seq_one (op_val (v := .int .i64 (r13.crV (xs11.getD i 0))) hf61 rfl rfl rfl rfl rfl rfl (r_assign rfl) fun ac61 hf62 => ?_)
    refine seq_one (op_val (v := .bool (r13.c.inn (xs11.getD i 0))) hf62 rfl rfl rfl rfl rfl rfl (r_assign rfl) fun ac62 hf63 => ?_)
    refine seq_end ?_
    clear ac54 hf55 ac55 hf56 ac56 wd8 hI14 hf57 ac57 hf58 ac58 hf59 ac59 hf60 ac60 hf61 ac61 hf62
    refine then_normal ?_
    refine code_seq ?_
    refine seq_start (l := [0, 1, 2, 3, 4, 5, 6]) rfl ?_
    refine seq_one (op_val (v := .pointer (some ⟨b6, 0, none⟩)) hf63 rfl rfl rfl rfl rfl rfl (r_move rfl) fun ac63 hf64 => ?_)
    refine seq_one (op_call (R := fun v w' => ∃ S p cap T q caq, v = .tuple #[.slice p (r13.c.lst 0).length cap, .slice q (r13.c.lst 1).length caq] ∧ Sl 3 .i64 S p cap (r13.c.lst 0) ∧ Sl 3 .i64 T q caq (r13.c.lst 1) ∧ Inv _ (S ++ T) w' ∧ (∀ x ∈ S, Array.size (World.heap _) ≤ x.1) ∧ ∀ x ∈ T, Array.size (World.heap _) ≤ x.1) hf64 rfl rfl rfl rfl ca_16 ((lists_any (hI15.nd6 0 rfl rfl rfl rfl rfl rfl) r13 (Has.cons (hI15.at 0 rfl) (Has.cons (hI15.at 1 rfl) (Has.cons (hI15.at 2 rfl) (Has.cons (hI15.at 3 rfl) (Has.cons (hI15.at 4 rfl) (Has.cons (hI15.at 5 rfl) Has.nil))))))).mono fun _ _ ⟨S, p, cap, T, q, caq, he, h1, h2, h3, h4, h5⟩ => ⟨_, he, S, p, cap, T, q, caq, rfl, h1, h2, h3, h4, h5⟩) fun ac64 v wd10 hR hf65 => ?_)
    obtain ⟨Sq14, q14, capq14, Sq15, q15, capq15, rfl, hsq14, hsq15, hwq14, hzq14, hzq15⟩ := hR
    have hyq14 := fk_le hI15.size hzq14
    have hyq15 := fk_le hI15.size hzq15
    have hI16 := hI15.callN2 hwq14 hzq14 hzq15
    have hI17 : Inv w ([(b1, arr .i64 r13.c.lk, 103), (b2, arr .i64 r13.c.of, 3), (b3, arr .i64 r13.c.mn, 3), (b4, #[.slice (some ⟨b1, 0, none⟩) (8 + 2) (8 + 2), .slice (some ⟨b2, 0, none⟩) 8 8, .slice (some ⟨b3, 0, none⟩) 2 2], 79), (b5, arr .i64 r13.cr, 3), (b6, #[.pointer (some ⟨b4, 0, none⟩), .slice (some ⟨b5, 0, none⟩) 8 8, .int .i64 r13.q], 45)] ++ ((((Sq7 ++ Sq8) ++ Sp11) ++ Sq14) ++ Sq15)) _ := hI16
    refine seq_one (op_val (v := .tuple #[.slice q14 ((r13.c.lst 0).length) capq14, .slice q15 ((r13.c.lst 1).length) capq15]) hf65 rfl rfl rfl rfl rfl rfl (r_move rfl) fun ac65 hf66 => ?_)
    refine seq_one (op_val (v := .slice q14 ((r13.c.lst 0).length) capq14) hf66 rfl rfl rfl rfl rfl rfl (r_extract rfl rfl) fun ac66 hf67 => ?_)
    refine seq_one (op_val (v := .slice q15 ((r13.c.lst 1).length) capq15) hf67 rfl rfl rfl rfl rfl rfl (r_extract rfl rfl) fun ac67 hf68 => ?_)
    refine seq_one (op_val (v := .slice q14 ((r13.c.lst 0).length) capq14) hf68 rfl rfl rfl rfl rfl rfl (r_assign rfl) fun ac68 hf69 => ?_)
    refine seq_one (op_val (v := .slice q15 ((r13.c.lst 1).length) capq15) hf69 rfl rfl rfl rfl rfl rfl (r_assign rfl) fun ac69 hf70 => ?_)
    refine seq_end ?_
    clear ac62 hf63 ac63 wd9 hf64 hI15 hI16 hwq14 hzq14 hzq15 ac64 hf65 ac65 hf66 ac66 hf67 ac67 hf68 ac68 hf69
    refine then_normal ?_
    refine code_seq ?_
    refine any_start (fun w => Has [] w) follows (Has.drew Has.nil) ?_
    have hS1 : ∀ {w : World}, Has [] w := Has.nil
    have hI18 := hI17.drew
    refine any_val (i := 0) (v := .bool (s.c.inn (xs11.getD i 0))) hf70 rfl rfl rfl rfl rfl rfl (fun _ _ _ h => h) (by kernel_rfl) (by kernel_rfl) (by kernel_rfl) (fun wd10 hS1 => (r_move rfl)) hS1 fun ac70 hf71 => ?_
    refine any_val (i := 1) (v := .bool (!(s.c.inn (xs11.getD i 0)))) hf71 rfl rfl rfl rfl rfl rfl (fun _ _ _ h => h) (by kernel_rfl) (by kernel_rfl) (by kernel_rfl) (fun wd10 hS1 => (r_not rfl)) hS1 fun ac71 hf72 => ?_
    refine any_val (i := 2) (v := .bool (!(s.c.inn (xs11.getD i 0)))) hf72 rfl rfl rfl rfl rfl rfl (fun _ _ _ h => h) (by kernel_rfl) (by kernel_rfl) (by kernel_rfl) (fun wd10 hS1 => (r_move rfl)) hS1 fun ac72 hf73 => ?_
    have hf74 := hf73.know 82 (u := .bool false) rfl (congrArg Value.bool (by rw [(Ro.leaves hx1.2 (by have := of_decide_eq_true c53_1; omega)).2.2.1]; rfl))
    refine any_val (i := 3) (v := .int .i64 s.f) hf74 rfl rfl rfl rfl rfl rfl (fun _ _ _ h => h) (by kernel_rfl) (by kernel_rfl) (by kernel_rfl) (fun wd10 hS1 => (r_move rfl)) hS1 fun ac73 hf75 => ?_
    refine any_val (i := 4) (v := .int .i64 (xs11.getD i 0)) hf75 rfl rfl rfl rfl rfl rfl (fun _ _ _ h => h) (by kernel_rfl) (by kernel_rfl) (by kernel_rfl) (fun wd10 hS1 => (r_move rfl)) hS1 fun ac74 hf76 => ?_
    refine any_val (i := 5) (v := .bool (s.f != (xs11.getD i 0))) hf76 rfl rfl rfl rfl rfl rfl (fun _ _ _ h => h) (by kernel_rfl) (by kernel_rfl) (by kernel_rfl) (fun wd10 hS1 => (r_neq rfl rfl)) hS1 fun ac75 hf77 => ?_
    refine any_val (i := 6) (v := .bool (s.f != (xs11.getD i 0))) hf77 rfl rfl rfl rfl rfl rfl (fun _ _ _ h => h) (by kernel_rfl) (by kernel_rfl) (by kernel_rfl) (fun wd10 hS1 => (r_pickF rfl rfl)) hS1 fun ac76 hf78 => ?_
    refine any_val (i := 7) (v := .bool (s.f != (xs11.getD i 0))) hf78 rfl rfl rfl rfl rfl rfl (fun _ _ _ h => h) (by kernel_rfl) (by kernel_rfl) (by kernel_rfl) (fun wd10 hS1 => (r_move rfl)) hS1 fun ac77 hf79 => ?_
    have hf80 := hf79.know 87 (u := .bool false) rfl (congrArg Value.bool (bne_eq_false_iff_eq.2 (Ro.leaves hx1.2 (by have := of_decide_eq_true c53_1; omega)).2.1))
    refine any_val (i := 8) (v := .int .i64 s.leaveC) hf80 rfl rfl rfl rfl rfl rfl (fun _ _ _ h => h) (by kernel_rfl) (by kernel_rfl) (by kernel_rfl) (fun wd10 hS1 => (r_move rfl)) hS1 fun ac78 hf81 => ?_
    refine any_val (i := 9) (v := .int .i64 (s.crV (xs11.getD i 0))) hf81 rfl rfl rfl rfl rfl rfl (fun _ _ _ h => h) (by kernel_rfl) (by kernel_rfl) (by kernel_rfl) (fun wd10 hS1 => (r_move rfl)) hS1 fun ac79 hf82 => ?_
    refine any_val (i := 10) (v := .bool (s.leaveC != (s.crV (xs11.getD i 0)))) hf82 rfl rfl rfl rfl rfl rfl (fun _ _ _ h => h) (by kernel_rfl) (by kernel_rfl) (by kernel_rfl) (fun wd10 hS1 => (r_neq rfl rfl)) hS1 fun ac80 hf83 => ?_
    refine any_val (i := 11) (v := .bool (s.leaveC != (s.crV (xs11.getD i 0)))) hf83 rfl rfl rfl rfl rfl rfl (fun _ _ _ h => h) (by kernel_rfl) (by kernel_rfl) (by kernel_rfl) (fun wd10 hS1 => (r_pickF rfl rfl)) hS1 fun ac81 hf84 => ?_
    refine any_val (i := 12) (v := .bool (s.leaveC != (s.crV (xs11.getD i 0)))) hf84 rfl rfl rfl rfl rfl rfl (fun _ _ _ h => h) (by kernel_rfl) (by kernel_rfl) (by kernel_rfl) (fun wd10 hS1 => (r_move rfl)) hS1 fun ac82 hf85 => ?_
    have hf86 := hf85.know 92 (u := .bool false) rfl (congrArg Value.bool (bne_eq_false_iff_eq.2 (Ro.leaves hx1.2 (by have := of_decide_eq_true c53_1; omega)).2.2.2.1))
    refine any_val (i := 13) (v := .bool s.ok) hf86 rfl rfl rfl rfl rfl rfl (fun _ _ _ h => h) (by kernel_rfl) (by kernel_rfl) (by kernel_rfl) (fun wd10 hS1 => (r_move rfl)) hS1 fun ac83 hf87 => ?_
    refine any_val (i := 14) (v := .bool (!s.ok)) hf87 rfl rfl rfl rfl rfl rfl (fun _ _ _ h => h) (by kernel_rfl) (by kernel_rfl) (by kernel_rfl) (fun wd10 hS1 => (r_not rfl)) hS1 fun ac84 hf88 => ?_
    refine any_val (i := 15) (v := .bool (!s.ok)) hf88 rfl rfl rfl rfl rfl rfl (fun _ _ _ h => h) (by kernel_rfl) (by kernel_rfl) (by kernel_rfl) (fun wd10 hS1 => (r_pickF rfl rfl)) hS1 fun ac85 hf89 => ?_
    refine any_val (i := 16) (v := .bool (!s.ok)) hf89 rfl rfl rfl rfl rfl rfl (fun _ _ _ h => h) (by kernel_rfl) (by kernel_rfl) (by kernel_rfl) (fun wd10 hS1 => (r_move rfl)) hS1 fun ac86 hf90 => ?_
    have hf91 := hf90.know 96 (u := .bool false) rfl (congrArg Value.bool (by rw [(Ro.leaves hx1.2 (by have := of_decide_eq_true c53_1; omega)).1]; rfl))
    refine any_val (i := 17) (v := .bool (r13.c.inn (xs11.getD i 0))) hf91 rfl rfl rfl rfl rfl rfl (fun _ _ _ h => h) (by kernel_rfl) (by kernel_rfl) (by kernel_rfl) (fun wd10 hS1 => (r_move rfl)) hS1 fun ac87 hf92 => ?_
    refine any_val (i := 18) (v := .bool (r13.c.inn (xs11.getD i 0))) hf92 rfl rfl rfl rfl rfl rfl (fun _ _ _ h => h) (by kernel_rfl) (by kernel_rfl) (by kernel_rfl) (fun wd10 hS1 => (r_pickF rfl rfl)) hS1 fun ac88 hf93 => ?_
    refine any_val (i := 19) (v := .bool (r13.c.inn (xs11.getD i 0))) hf93 rfl rfl rfl rfl rfl rfl (fun _ _ _ h => h) (by kernel_rfl) (by kernel_rfl) (by kernel_rfl) (fun wd10 hS1 => (r_move rfl)) hS1 fun ac89 hf94 => ?_
    have hf95 := hf94.know 99 (u := .bool false) rfl (congrArg Value.bool (by rw [er13]; exact (Ro.leaves hx1.2 (by have := of_decide_eq_true c53_1; omega)).2.2.2.2.1))
    refine any_val (i := 21) (v := .slice q14 ((r13.c.lst 0).length) capq14) hf95 rfl rfl rfl rfl rfl rfl (fun _ _ _ h => h) (by kernel_rfl) (by kernel_rfl) (by kernel_rfl) (fun wd10 hS1 => (r_move rfl)) hS1 fun ac90 hf96 => ?_
    refine any_val (i := 23) (v := .slice q15 ((r13.c.lst 1).length) capq15) hf96 rfl rfl rfl rfl rfl rfl (fun _ _ _ h => h) (by kernel_rfl) (by kernel_rfl) (by kernel_rfl) (fun wd10 hS1 => (r_move rfl)) hS1 fun ac91 hf97 => ?_
    refine any_val (i := 25) (v := .slice p11 xs11.length capp11) hf97 rfl rfl rfl rfl rfl rfl (fun _ _ _ h => h) (by kernel_rfl) (by kernel_rfl) (by kernel_rfl) (fun wd10 hS1 => (r_move rfl)) hS1 fun ac92 hf98 => ?_
    refine any_val (i := 26) (v := .int .i64 (i : Int)) hf98 rfl rfl rfl rfl rfl rfl (fun _ _ _ h => h) (by kernel_rfl) (by kernel_rfl) (by kernel_rfl) (fun wd10 hS1 => (r_move rfl)) hS1 fun ac93 hf99 => ?_
    refine any_val (i := 27) (v := .int .i64 ((i + 1 : Nat) : Int)) hf99 rfl rfl rfl rfl rfl rfl (fun _ _ _ h => h) (by kernel_rfl) (by kernel_rfl) (by kernel_rfl) (fun wd10 hS1 => (r_add (c := ((i + 1 : Nat) : Int)) rfl rfl (wrap_i64 (by omega) (by have := hx1.1; omega)))) hS1 fun ac94 hf100 => ?_
    refine any_val (i := 28) (v := .slice (loP p11 capp11 (i + 1) 1) (xs11.length - (i + 1)) (capp11 - (i + 1))) hf100 rfl rfl rfl rfl rfl rfl (fun _ _ _ h => h) (by kernel_rfl) (by kernel_rfl) (by kernel_rfl) (fun wd10 hS1 => (r_sliceL (j := (i + 1)) sl_27 rfl rfl rfl (by have := of_decide_eq_true c53_1; omega))) hS1 fun ac95 hf101 => ?_
    refine any_one (i := 20) (by kernel_rfl) ?_
    refine (op_bslice (s := 3) (cells := #[]) hf101 rfl rfl rfl rfl rfl (fun _ => by kernel_rfl) hI18 fun ac96 b16 wd11 hb16 hI19 hf102 => ⟨?_, ?_⟩)
    · exact Has.nil
    have hI20 : Inv w ([(b1, arr .i64 r13.c.lk, 103), (b2, arr .i64 r13.c.of, 3), (b3, arr .i64 r13.c.mn, 3), (b4, #[.slice (some ⟨b1, 0, none⟩) (8 + 2) (8 + 2), .slice (some ⟨b2, 0, none⟩) 8 8, .slice (some ⟨b3, 0, none⟩) 2 2], 79), (b5, arr .i64 r13.cr, 3), (b6, #[.pointer (some ⟨b4, 0, none⟩), .slice (some ⟨b5, 0, none⟩) 8 8, .int .i64 r13.q], 45), (b16, #[], 3)] ++ ((((Sq7 ++ Sq8) ++ Sp11) ++ Sq14) ++ Sq15)) wd11 := Inv.tail (A := [(b1, arr .i64 r13.c.lk, 103), (b2, arr .i64 r13.c.of, 3), (b3, arr .i64 r13.c.mn, 3), (b4, #[.slice (some ⟨b1, 0, none⟩) (8 + 2) (8 + 2), .slice (some ⟨b2, 0, none⟩) 8 8, .slice (some ⟨b3, 0, none⟩) 2 2], 79), (b5, arr .i64 r13.cr, 3), (b6, #[.pointer (some ⟨b4, 0, none⟩), .slice (some ⟨b5, 0, none⟩) 8 8, .int .i64 r13.q], 45)]) (T := ((((Sq7 ++ Sq8) ++ Sp11) ++ Sq14) ++ Sq15)) (N := [(b16, #[], 3)]) hI19
    have hS2 : ∀ {w : World}, Has [] w := Has.nil
    refine any_one (i := 22) (by kernel_rfl) ?_
    have hI21 : Inv w ([(b1, arr .i64 r13.c.lk, 103), (b2, arr .i64 r13.c.of, 3), (b3, arr .i64 r13.c.mn, 3), (b4, #[.slice (some ⟨b1, 0, none⟩) (8 + 2) (8 + 2), .slice (some ⟨b2, 0, none⟩) 8 8, .slice (some ⟨b3, 0, none⟩) 2 2], 79), (b5, arr .i64 r13.cr, 3), (b6, #[.pointer (some ⟨b4, 0, none⟩), .slice (some ⟨b5, 0, none⟩) 8 8, .int .i64 r13.q], 45)] ++ (((((Sq7 ++ Sq8) ++ Sp11) ++ Sq14) ++ Sq15) ++ [(b16, #[], 3)])) _ := Inv.tail (A := [(b1, arr .i64 r13.c.lk, 103), (b2, arr .i64 r13.c.of, 3), (b3, arr .i64 r13.c.mn, 3), (b4, #[.slice (some ⟨b1, 0, none⟩) (8 + 2) (8 + 2), .slice (some ⟨b2, 0, none⟩) 8 8, .slice (some ⟨b3, 0, none⟩) 2 2], 79), (b5, arr .i64 r13.cr, 3), (b6, #[.pointer (some ⟨b4, 0, none⟩), .slice (some ⟨b5, 0, none⟩) 8 8, .int .i64 r13.q], 45)]) (T := [(b16, #[], 3)]) (N := ((((Sq7 ++ Sq8) ++ Sp11) ++ Sq14) ++ Sq15)) hI20
    refine (op_appendN (A := ([(b1, arr .i64 r13.c.lk, 103), (b2, arr .i64 r13.c.of, 3), (b3, arr .i64 r13.c.mn, 3), (b4, #[.slice (some ⟨b1, 0, none⟩) (8 + 2) (8 + 2), .slice (some ⟨b2, 0, none⟩) 8 8, .slice (some ⟨b3, 0, none⟩) 2 2], 79), (b5, arr .i64 r13.cr, 3), (b6, #[.pointer (some ⟨b4, 0, none⟩), .slice (some ⟨b5, 0, none⟩) 8 8, .int .i64 r13.q], 45)] ++ ((((Sq7 ++ Sq8) ++ Sp11) ++ Sq14) ++ Sq15))) (S := [(b16, #[], 3)]) (xs := []) (ys := (r13.c.lst 0)) rfl rfl hf102 rfl rfl rfl us_27 if_3 rfl Sl.lit0 rfl (hsq14.rd hI21 (fun x hx => List.mem_append_right _ (List.mem_append_left _ (List.mem_append_left _ (List.mem_append_right _ hx))))) hI21 (fun x hx => by simp only [List.mem_singleton] at hx; subst hx; exact hb16) (by simp only [List.length_append, List.length_nil, List.length_cons, maxLen]; have := Ch.lst_le r13.c 0; have := Ch.lst_le r13.c 1; omega) (by simp only [List.length_append, List.length_nil, List.length_cons, Nat.zero_add]; have := Ch.lst_le r13.c 0; have := Ch.lst_le r13.c 1; omega) fun ac97 p17 capp17 Sp17 wd12 hsp17 hzp17 hI22 hf103 => ⟨?_, ?_⟩)
    · exact Has.nil
    have hI23 : Inv w ([(b1, arr .i64 r13.c.lk, 103), (b2, arr .i64 r13.c.of, 3), (b3, arr .i64 r13.c.mn, 3), (b4, #[.slice (some ⟨b1, 0, none⟩) (8 + 2) (8 + 2), .slice (some ⟨b2, 0, none⟩) 8 8, .slice (some ⟨b3, 0, none⟩) 2 2], 79), (b5, arr .i64 r13.cr, 3), (b6, #[.pointer (some ⟨b4, 0, none⟩), .slice (some ⟨b5, 0, none⟩) 8 8, .int .i64 r13.q], 45)] ++ (((((Sq7 ++ Sq8) ++ Sp11) ++ Sq14) ++ Sq15) ++ Sp17)) wd12 := hI22
    have hS3 : ∀ {w : World}, Has [] w := Has.nil
    refine any_one (i := 24) (by kernel_rfl) ?_
    refine (op_appendN (A := ([(b1, arr .i64 r13.c.lk, 103), (b2, arr .i64 r13.c.of, 3), (b3, arr .i64 r13.c.mn, 3), (b4, #[.slice (some ⟨b1, 0, none⟩) (8 + 2) (8 + 2), .slice (some ⟨b2, 0, none⟩) 8 8, .slice (some ⟨b3, 0, none⟩) 2 2], 79), (b5, arr .i64 r13.cr, 3), (b6, #[.pointer (some ⟨b4, 0, none⟩), .slice (some ⟨b5, 0, none⟩) 8 8, .int .i64 r13.q], 45)] ++ ((((Sq7 ++ Sq8) ++ Sp11) ++ Sq14) ++ Sq15))) (S := Sp17) (xs := ([] ++ (r13.c.lst 0))) (ys := (r13.c.lst 1)) rfl rfl hf103 rfl rfl rfl us_27 if_3 rfl hsp17 rfl (hsq15.rd hI23 (fun x hx => List.mem_append_right _ (List.mem_append_left _ (List.mem_append_right _ hx)))) hI23 hzp17 (by simp only [List.length_append, List.length_nil, List.length_cons, maxLen]; have := Ch.lst_le r13.c 0; have := Ch.lst_le r13.c 1; omega) (by simp only [List.length_append, List.length_nil, List.length_cons, Nat.zero_add]; have := Ch.lst_le r13.c 0; have := Ch.lst_le r13.c 1; omega) fun ac98 p18 capp18 Sp18 wd13 hsp18 hzp18 hI24 hf104 => ⟨?_, ?_⟩)
    · exact Has.nil
    have hI25 : Inv w ([(b1, arr .i64 r13.c.lk, 103), (b2, arr .i64 r13.c.of, 3), (b3, arr .i64 r13.c.mn, 3), (b4, #[.slice (some ⟨b1, 0, none⟩) (8 + 2) (8 + 2), .slice (some ⟨b2, 0, none⟩) 8 8, .slice (some ⟨b3, 0, none⟩) 2 2], 79), (b5, arr .i64 r13.cr, 3), (b6, #[.pointer (some ⟨b4, 0, none⟩), .slice (some ⟨b5, 0, none⟩) 8 8, .int .i64 r13.q], 45)] ++ (((((Sq7 ++ Sq8) ++ Sp11) ++ Sq14) ++ Sq15) ++ Sp18)) wd13 := hI24
    have hS4 : ∀ {w : World}, Has [] w := Has.nil
    refine any_one (i := 29) (by kernel_rfl) ?_
    refine (op_pureW hf104 rfl rfl rfl rfl ca_19 (ints_walk (xs := (([] ++ (r13.c.lst 0)) ++ (r13.c.lst 1))) (ys := (xs11.drop (i + 1))) rfl List.length_drop (Ro.two_le _) (hsp18.rd hI25 (fun x hx => List.mem_append_right _ (List.mem_append_right _ hx))) ((hsp11.rd hI25 (fun x hx => List.mem_append_right _ (List.mem_append_left _ (List.mem_append_left _ (List.mem_append_left _ (List.mem_append_right _ hx)))))).low (Sl.le hsp11))) hI25 fun ac99 wd14 hI26 hf105 => ⟨?_, ?_⟩)
    · exact Has.nil
    have hS5 : ∀ {w : World}, Has [] w := Has.nil
    refine any_val (i := 30) (v := .bool (!((([] ++ (r13.c.lst 0)) ++ (r13.c.lst 1)) == (xs11.drop (i + 1))))) hf105 rfl rfl rfl rfl rfl rfl (fun _ _ _ h => h) (by kernel_rfl) (by kernel_rfl) (by kernel_rfl) (fun wd14 hS5 => (r_not rfl)) hS5 fun ac100 hf106 => ?_
    refine any_val (i := 31) (v := .bool (!((([] ++ (r13.c.lst 0)) ++ (r13.c.lst 1)) == (xs11.drop (i + 1))))) hf106 rfl rfl rfl rfl rfl rfl (fun _ _ _ h => h) (by kernel_rfl) (by kernel_rfl) (by kernel_rfl) (fun wd14 hS5 => (r_pickF rfl rfl)) hS5 fun ac101 hf107 => ?_
    refine any_end (by kernel_rfl) ?_
    clear hI17 ac69 hf70 ac70 hf71 ac71 hf72 hf73 ac72 hf74 ac73 hf75 ac74 hf76 ac75 hf77 ac76 hf78 hf79 ac77 hf80 ac78 hf81 ac79 hf82 ac80 hf83 ac81 hf84 hf85 ac82 hf86 ac83 hf87 ac84 hf88 ac85 hf89 hf90 ac86 hf91 ac87 hf92 ac88 hf93 hf94 ac89 hf95 ac90 hf96 ac91 hf97 ac92 hf98 ac93 hf99 ac94 hf100 ac95 wd10 hI18 hf101 hI19 hS1 hI20 ac96 wd11 hI21 hf102 hI22 hS2 ac97 wd12 hI23 hf103 hI24 hS3 ac98 wd13 hI25 hf104 hS4 ac99 hf105 ac100 hf106 hS5
    refine then_normal ?_
    have hf108 := hf107.know 111 (u := .bool false) rfl (congrArg Value.bool (congrArg Bool.not (Ro.two_eq (by rw [er13]; exact (Ro.leaves hx1.2 (by have := of_decide_eq_true c53_1; omega)).2.2.2.2.2))))
    refine code_if_false hf108 rfl ?_
    refine wp_skip ?_
    refine block_normal ?_
    refine then_normal ?_
    refine seq_start (l := [0, 1]) rfl ?_
    refine seq_one (op_val (v := .int .i64 ((i + 1 : Nat) : Int)) hf108 rfl rfl rfl rfl rfl rfl (r_add (c := ((i + 1 : Nat) : Int)) rfl rfl (wrap_i64 (by omega) (by have := hx1.1; omega))) fun ac102 hf109 => ?_)
    refine seq_one (op_val (v := .int .i64 ((i + 1 : Nat) : Int)) hf109 rfl rfl rfl rfl rfl rfl (r_move rfl) fun ac103 hf110 => ?_)
    refine seq_end ?_
    clear hf107 ac101 hf108 ac102 hf109
    refine then_normal ?_
    have hI27 : Inv w ([(b1, arr .i64 r13.c.lk, 103), (b2, arr .i64 r13.c.of, 3), (b3, arr .i64 r13.c.mn, 3), (b4, #[.slice (some ⟨b1, 0, none⟩) (8 + 2) (8 + 2), .slice (some ⟨b2, 0, none⟩) 8 8, .slice (some ⟨b3, 0, none⟩) 2 2], 79), (b5, arr .i64 r13.cr, 3), (b6, #[.pointer (some ⟨b4, 0, none⟩), .slice (some ⟨b5, 0, none⟩) 8 8, .int .i64 r13.q], 45)] ++ ((((Sq7 ++ Sq8) ++ Sp11) ++ Sq14) ++ Sq15)) _ := Inv.drop (A := ([(b1, arr .i64 r13.c.lk, 103), (b2, arr .i64 r13.c.of, 3), (b3, arr .i64 r13.c.mn, 3), (b4, #[.slice (some ⟨b1, 0, none⟩) (8 + 2) (8 + 2), .slice (some ⟨b2, 0, none⟩) 8 8, .slice (some ⟨b3, 0, none⟩) 2 2], 79), (b5, arr .i64 r13.cr, 3), (b6, #[.pointer (some ⟨b4, 0, none⟩), .slice (some ⟨b5, 0, none⟩) 8 8, .int .i64 r13.q], 45)] ++ ((((Sq7 ++ Sq8) ++ Sp11) ++ Sq14) ++ Sq15))) (B := Sp18) hI26 hzp18
    have hI28 : Inv w ([(b1, arr .i64 r13.c.lk, 103), (b2, arr .i64 r13.c.of, 3), (b3, arr .i64 r13.c.mn, 3), (b4, #[.slice (some ⟨b1, 0, none⟩) (8 + 2) (8 + 2), .slice (some ⟨b2, 0, none⟩) 8 8, .slice (some ⟨b3, 0, none⟩) 2 2], 79), (b5, arr .i64 r13.cr, 3), (b6, #[.pointer (some ⟨b4, 0, none⟩), .slice (some ⟨b5, 0, none⟩) 8 8, .int .i64 r13.q], 45)] ++ (((Sq7 ++ Sq8) ++ Sp11) ++ Sq14)) _ := Inv.drop (A := ([(b1, arr .i64 r13.c.lk, 103), (b2, arr .i64 r13.c.of, 3), (b3, arr .i64 r13.c.mn, 3), (b4, #[.slice (some ⟨b1, 0, none⟩) (8 + 2) (8 + 2), .slice (some ⟨b2, 0, none⟩) 8 8, .slice (some ⟨b3, 0, none⟩) 2 2], 79), (b5, arr .i64 r13.cr, 3), (b6, #[.pointer (some ⟨b4, 0, none⟩), .slice (some ⟨b5, 0, none⟩) 8 8, .int .i64 r13.q], 45)] ++ (((Sq7 ++ Sq8) ++ Sp11) ++ Sq14))) (B := Sq15) hI27 hyq15
    have hI29 : Inv w ([(b1, arr .i64 r13.c.lk, 103), (b2, arr .i64 r13.c.of, 3), (b3, arr .i64 r13.c.mn, 3), (b4, #[.slice (some ⟨b1, 0, none⟩) (8 + 2) (8 + 2), .slice (some ⟨b2, 0, none⟩) 8 8, .slice (some ⟨b3, 0, none⟩) 2 2], 79), (b5, arr .i64 r13.cr, 3), (b6, #[.pointer (some ⟨b4, 0, none⟩), .slice (some ⟨b5, 0, none⟩) 8 8, .int .i64 r13.q], 45)] ++ ((Sq7 ++ Sq8) ++ Sp11)) _ := Inv.drop (A := ([(b1, arr .i64 r13.c.lk, 103), (b2, arr .i64 r13.c.of, 3), (b3, arr .i64 r13.c.mn, 3), (b4, #[.slice (some ⟨b1, 0, none⟩) (8 + 2) (8 + 2), .slice (some ⟨b2, 0, none⟩) 8 8, .slice (some ⟨b3, 0, none⟩) 2 2], 79), (b5, arr .i64 r13.cr, 3), (b6, #[.pointer (some ⟨b4, 0, none⟩), .slice (some ⟨b5, 0, none⟩) 8 8, .int .i64 r13.q], 45)] ++ ((Sq7 ++ Sq8) ++ Sp11))) (B := Sq14) hI28 hyq14
    exact ⟨(i + 1, r13), (hf110.cons 0 rfl (hf110.cons 1 rfl (hf110.cons 5 rfl (hf110.cons 6 rfl (hf110.cons 7 rfl (hf110.cons 8 rfl (hf110.cons 9 rfl (hf110.cons 30 rfl (hf110.cons 31 rfl (hf110.cons 32 rfl (hf110.cons 33 rfl (hf110.cons 34 rfl (hf110.cons 35 rfl (hf110.cons 36 rfl (hf110.cons 37 rfl (hf110.cons 38 rfl (hf110.cons 39 rfl (hf110.cons 40 rfl (hf110.cons 41 rfl (hf110.cons 42 rfl (hf110.cons 43 rfl (hf110.cons 44 rfl (hf110.cons 45 rfl (hf110.cons 46 rfl (hf110.cons 47 rfl (hf110.cons 48 rfl (hf110.cons 49 rfl (hf110.cons 50 rfl (hf110.cons 51 rfl (hf110.cons 52 rfl hf110.nil)))))))))))))))))))))))))))))), ⟨hI29, ⟨by have := of_decide_eq_true c53_1; omega, (by rw [er13]; exact (Ro.leaves hx1.2 (by have := of_decide_eq_true c53_1; omega)).2.2.2.2.2)⟩⟩, (by have := of_decide_eq_true c53_1; show xs11.length - (i + 1) < xs11.length - i; omega)⟩
  · have hf111 := hf32.know 53 (u := .bool false) rfl (congrArg Value.bool c53_1)
    refine wp_exit ?_
    refine then_exit ?_
    refine then_exit ?_
    refine block_here ?_
    refine then_normal ?_
    refine code_seq ?_
    refine seq_start (l := [0, 1, 2, 3, 4, 5, 6, 7, 8]) rfl ?_
    refine seq_one (op_val (v := .pointer (some ⟨b6, 0, none⟩)) hf111 rfl rfl rfl rfl rfl rfl (r_move rfl) fun ac104 hf112 => ?_)
    refine seq_one (op_call (R := fun v w' => v = .tuple #[.int .i64 s.head.f, .int .i64 s.headC, .bool s.head.ok] ∧ Inv _ [(b1, arr .i64 s.head.c.lk, 103), (b2, arr .i64 s.head.c.of, 3), (b3, arr .i64 s.head.c.mn, 3), (b4, #[.slice (some ⟨b1, 0, none⟩) (8 + 2) (8 + 2), .slice (some ⟨b2, 0, none⟩) 8 8, .slice (some ⟨b3, 0, none⟩) 2 2], 79), (b5, arr .i64 s.head.cr, 3), (b6, #[.pointer (some ⟨b4, 0, none⟩), .slice (some ⟨b5, 0, none⟩) 8 8, .int .i64 s.head.q], 45)] w') hf112 rfl rfl rfl rfl ca_20 ((head_any (hI12.nd6 0 rfl rfl rfl rfl rfl rfl) s (Has.cons (hI12.at 0 rfl) (Has.cons (hI12.at 1 rfl) (Has.cons (hI12.at 2 rfl) (Has.cons (hI12.at 3 rfl) (Has.cons (hI12.at 4 rfl) (Has.cons (hI12.at 5 rfl) Has.nil)))))) ).mono fun _ _ h => ⟨_, h.1, rfl, h.2⟩) fun ac105 v wd15 hR12 hf113 => ?_)
    obtain ⟨rfl, hR12⟩ := hR12
    have hI30 : Inv w ([(b1, arr .i64 s.head.c.lk, 103), (b2, arr .i64 s.head.c.of, 3), (b3, arr .i64 s.head.c.mn, 3), (b4, #[.slice (some ⟨b1, 0, none⟩) (8 + 2) (8 + 2), .slice (some ⟨b2, 0, none⟩) 8 8, .slice (some ⟨b3, 0, none⟩) 2 2], 79), (b5, arr .i64 s.head.cr, 3), (b6, #[.pointer (some ⟨b4, 0, none⟩), .slice (some ⟨b5, 0, none⟩) 8 8, .int .i64 s.head.q], 45)] ++ ((Sq7 ++ Sq8) ++ Sp11)) _ := Inv.callST (A := []) (S := [(b1, arr .i64 s.c.lk, 103), (b2, arr .i64 s.c.of, 3), (b3, arr .i64 s.c.mn, 3), (b4, #[.slice (some ⟨b1, 0, none⟩) (8 + 2) (8 + 2), .slice (some ⟨b2, 0, none⟩) 8 8, .slice (some ⟨b3, 0, none⟩) 2 2], 79), (b5, arr .i64 s.cr, 3), (b6, #[.pointer (some ⟨b4, 0, none⟩), .slice (some ⟨b5, 0, none⟩) 8 8, .int .i64 s.q], 45)]) (S' := [(b1, arr .i64 s.head.c.lk, 103), (b2, arr .i64 s.head.c.of, 3), (b3, arr .i64 s.head.c.mn, 3), (b4, #[.slice (some ⟨b1, 0, none⟩) (8 + 2) (8 + 2), .slice (some ⟨b2, 0, none⟩) 8 8, .slice (some ⟨b3, 0, none⟩) 2 2], 79), (b5, arr .i64 s.head.cr, 3), (b6, #[.pointer (some ⟨b4, 0, none⟩), .slice (some ⟨b5, 0, none⟩) 8 8, .int .i64 s.head.q], 45)]) (L := []) (N := []) (T := ((Sq7 ++ Sq8) ++ Sp11)) hI12 hR12 rfl (fun _ h => by cases h)
    obtain ⟨r13, er13⟩ : ∃ r : Ro 8, r = s.head := ⟨_, rfl⟩
    rw [← er13] at hI30
    refine seq_one (op_val (v := .tuple #[.int .i64 s.head.f, .int .i64 s.headC, .bool s.head.ok]) hf113 rfl rfl rfl rfl rfl rfl (r_move rfl) fun ac106 hf114 => ?_)
    refine seq_one (op_val (v := .int .i64 s.head.f) hf114 rfl rfl rfl rfl rfl rfl (r_extract rfl rfl) fun ac107 hf115 => ?_)
    refine seq_one (op_val (v := .int .i64 s.headC) hf115 rfl rfl rfl rfl rfl rfl (r_extract rfl rfl) fun ac108 hf116 => ?_)
    refine seq_one (op_val (v := .bool s.head.ok) hf116 rfl rfl rfl rfl rfl rfl (r_extract rfl rfl) fun ac109 hf117 => ?_)
    refine seq_one (op_val (v := .int .i64 s.head.f) hf117 rfl rfl rfl rfl rfl rfl (r_assign rfl) fun ac110 hf118 => ?_)
    refine seq_one (op_val (v := .int .i64 s.headC) hf118 rfl rfl rfl rfl rfl rfl (r_assign rfl) fun ac111 hf119 => ?_)
    refine seq_one (op_val (v := .bool s.head.ok) hf119 rfl rfl rfl rfl rfl rfl (r_assign rfl) fun ac112 hf120 => ?_)
    refine seq_end ?_
    clear hf32 ac32 hf111 ac104 wd6 hf112 hI12 hR12 ac105 hf113 ac106 hf114 ac107 hf115 ac108 hf116 ac109 hf117 ac110 hf118 ac111 hf119
    refine then_normal ?_
    refine code_seq ?_
    refine seq_start (l := [0, 1, 2, 3, 4, 5, 6, 7, 8]) rfl ?_
    refine seq_one (op_val (v := .pointer (some ⟨b6, 0, none⟩)) hf120 rfl rfl rfl rfl rfl rfl (r_move rfl) fun ac113 hf121 => ?_)
    refine seq_one (op_call (R := fun v w' => v = .tuple #[.int .i64 r13.f, .int .i64 r13.leaveC, .bool r13.ok] ∧ Inv _ [(b1, arr .i64 r13.leave.c.lk, 103), (b2, arr .i64 r13.leave.c.of, 3), (b3, arr .i64 r13.leave.c.mn, 3), (b4, #[.slice (some ⟨b1, 0, none⟩) (8 + 2) (8 + 2), .slice (some ⟨b2, 0, none⟩) 8 8, .slice (some ⟨b3, 0, none⟩) 2 2], 79), (b5, arr .i64 r13.leave.cr, 3), (b6, #[.pointer (some ⟨b4, 0, none⟩), .slice (some ⟨b5, 0, none⟩) 8 8, .int .i64 r13.leave.q], 45)] w') hf121 rfl rfl rfl rfl ca_18 ((leave_any (hI30.nd6 0 rfl rfl rfl rfl rfl rfl) r13 (Has.cons (hI30.at 0 rfl) (Has.cons (hI30.at 1 rfl) (Has.cons (hI30.at 2 rfl) (Has.cons (hI30.at 3 rfl) (Has.cons (hI30.at 4 rfl) (Has.cons (hI30.at 5 rfl) Has.nil)))))) ).mono fun _ _ h => ⟨_, h.1, rfl, h.2⟩) fun ac114 v wd16 hR14 hf122 => ?_)
    obtain ⟨rfl, hR14⟩ := hR14
    have hI31 : Inv w ([(b1, arr .i64 r13.leave.c.lk, 103), (b2, arr .i64 r13.leave.c.of, 3), (b3, arr .i64 r13.leave.c.mn, 3), (b4, #[.slice (some ⟨b1, 0, none⟩) (8 + 2) (8 + 2), .slice (some ⟨b2, 0, none⟩) 8 8, .slice (some ⟨b3, 0, none⟩) 2 2], 79), (b5, arr .i64 r13.leave.cr, 3), (b6, #[.pointer (some ⟨b4, 0, none⟩), .slice (some ⟨b5, 0, none⟩) 8 8, .int .i64 r13.leave.q], 45)] ++ ((Sq7 ++ Sq8) ++ Sp11)) _ := Inv.callST (A := []) (S := [(b1, arr .i64 r13.c.lk, 103), (b2, arr .i64 r13.c.of, 3), (b3, arr .i64 r13.c.mn, 3), (b4, #[.slice (some ⟨b1, 0, none⟩) (8 + 2) (8 + 2), .slice (some ⟨b2, 0, none⟩) 8 8, .slice (some ⟨b3, 0, none⟩) 2 2], 79), (b5, arr .i64 r13.cr, 3), (b6, #[.pointer (some ⟨b4, 0, none⟩), .slice (some ⟨b5, 0, none⟩) 8 8, .int .i64 r13.q], 45)]) (S' := [(b1, arr .i64 r13.leave.c.lk, 103), (b2, arr .i64 r13.leave.c.of, 3), (b3, arr .i64 r13.leave.c.mn, 3), (b4, #[.slice (some ⟨b1, 0, none⟩) (8 + 2) (8 + 2), .slice (some ⟨b2, 0, none⟩) 8 8, .slice (some ⟨b3, 0, none⟩) 2 2], 79), (b5, arr .i64 r13.leave.cr, 3), (b6, #[.pointer (some ⟨b4, 0, none⟩), .slice (some ⟨b5, 0, none⟩) 8 8, .int .i64 r13.leave.q], 45)]) (L := []) (N := []) (T := ((Sq7 ++ Sq8) ++ Sp11)) hI30 hR14 rfl (fun _ h => by cases h)
    obtain ⟨r15, er15⟩ : ∃ r : Ro 8, r = r13.leave := ⟨_, rfl⟩
    rw [← er15] at hI31
    refine seq_one (op_val (v := .tuple #[.int .i64 r13.f, .int .i64 r13.leaveC, .bool r13.ok]) hf122 rfl rfl rfl rfl rfl rfl (r_move rfl) fun ac115 hf123 => ?_)
    refine seq_one (op_val (v := .int .i64 r13.f) hf123 rfl rfl rfl rfl rfl rfl (r_extract rfl rfl) fun ac116 hf124 => ?_)
    refine seq_one (op_val (v := .int .i64 r13.leaveC) hf124 rfl rfl rfl rfl rfl rfl (r_extract rfl rfl) fun ac117 hf125 => ?_)
    refine seq_one (op_val (v := .bool r13.ok) hf125 rfl rfl rfl rfl rfl rfl (r_extract rfl rfl) fun ac118 hf126 => ?_)
    refine seq_one (op_val (v := .int .i64 r13.f) hf126 rfl rfl rfl rfl rfl rfl (r_assign rfl) fun ac119 hf127 => ?_)
    refine seq_one (op_val (v := .int .i64 r13.leaveC) hf127 rfl rfl rfl rfl rfl rfl (r_assign rfl) fun ac120 hf128 => ?_)
    refine seq_one (op_val (v := .bool r13.ok) hf128 rfl rfl rfl rfl rfl rfl (r_assign rfl) fun ac121 hf129 => ?_)
    refine seq_end ?_
    clear ac112 hf120 ac113 wd15 hf121 hI30 hR14 ac114 hf122 ac115 hf123 ac116 hf124 ac117 hf125 ac118 hf126 ac119 hf127 ac120 hf128
    refine then_normal ?_
    refine code_seq ?_
    refine seq_start (l := [0, 1, 2, 3, 4, 5, 6, 7, 8]) rfl ?_
    refine seq_one (op_val (v := .pointer (some ⟨b6, 0, none⟩)) hf129 rfl rfl rfl rfl rfl rfl (r_move rfl) fun ac122 hf130 => ?_)
    refine seq_one (op_call (R := fun v w' => v = .tuple #[.int .i64 r15.f, .bool r15.idleL, .bool r15.ok] ∧ Inv _ [(b1, arr .i64 r15.idle.c.lk, 103), (b2, arr .i64 r15.idle.c.of, 3), (b3, arr .i64 r15.idle.c.mn, 3), (b4, #[.slice (some ⟨b1, 0, none⟩) (8 + 2) (8 + 2), .slice (some ⟨b2, 0, none⟩) 8 8, .slice (some ⟨b3, 0, none⟩) 2 2], 79), (b5, arr .i64 r15.idle.cr, 3), (b6, #[.pointer (some ⟨b4, 0, none⟩), .slice (some ⟨b5, 0, none⟩) 8 8, .int .i64 r15.idle.q], 45)] w') hf130 rfl rfl rfl rfl ca_21 ((idle_any (hI31.nd6 0 rfl rfl rfl rfl rfl rfl) r15 (Has.cons (hI31.at 0 rfl) (Has.cons (hI31.at 1 rfl) (Has.cons (hI31.at 2 rfl) (Has.cons (hI31.at 3 rfl) (Has.cons (hI31.at 4 rfl) (Has.cons (hI31.at 5 rfl) Has.nil)))))) ).mono fun _ _ h => ⟨_, h.1, rfl, h.2⟩) fun ac123 v wd17 hR16 hf131 => ?_)
    obtain ⟨rfl, hR16⟩ := hR16
    have hI32 : Inv w ([(b1, arr .i64 r15.idle.c.lk, 103), (b2, arr .i64 r15.idle.c.of, 3), (b3, arr .i64 r15.idle.c.mn, 3), (b4, #[.slice (some ⟨b1, 0, none⟩) (8 + 2) (8 + 2), .slice (some ⟨b2, 0, none⟩) 8 8, .slice (some ⟨b3, 0, none⟩) 2 2], 79), (b5, arr .i64 r15.idle.cr, 3), (b6, #[.pointer (some ⟨b4, 0, none⟩), .slice (some ⟨b5, 0, none⟩) 8 8, .int .i64 r15.idle.q], 45)] ++ ((Sq7 ++ Sq8) ++ Sp11)) _ := Inv.callST (A := []) (S := [(b1, arr .i64 r15.c.lk, 103), (b2, arr .i64 r15.c.of, 3), (b3, arr .i64 r15.c.mn, 3), (b4, #[.slice (some ⟨b1, 0, none⟩) (8 + 2) (8 + 2), .slice (some ⟨b2, 0, none⟩) 8 8, .slice (some ⟨b3, 0, none⟩) 2 2], 79), (b5, arr .i64 r15.cr, 3), (b6, #[.pointer (some ⟨b4, 0, none⟩), .slice (some ⟨b5, 0, none⟩) 8 8, .int .i64 r15.q], 45)]) (S' := [(b1, arr .i64 r15.idle.c.lk, 103), (b2, arr .i64 r15.idle.c.of, 3), (b3, arr .i64 r15.idle.c.mn, 3), (b4, #[.slice (some ⟨b1, 0, none⟩) (8 + 2) (8 + 2), .slice (some ⟨b2, 0, none⟩) 8 8, .slice (some ⟨b3, 0, none⟩) 2 2], 79), (b5, arr .i64 r15.idle.cr, 3), (b6, #[.pointer (some ⟨b4, 0, none⟩), .slice (some ⟨b5, 0, none⟩) 8 8, .int .i64 r15.idle.q], 45)]) (L := []) (N := []) (T := ((Sq7 ++ Sq8) ++ Sp11)) hI31 hR16 rfl (fun _ h => by cases h)
    obtain ⟨r17, er17⟩ : ∃ r : Ro 8, r = r15.idle := ⟨_, rfl⟩
    rw [← er17] at hI32
    refine seq_one (op_val (v := .tuple #[.int .i64 r15.f, .bool r15.idleL, .bool r15.ok]) hf131 rfl rfl rfl rfl rfl rfl (r_move rfl) fun ac124 hf132 => ?_)
    refine seq_one (op_val (v := .int .i64 r15.f) hf132 rfl rfl rfl rfl rfl rfl (r_extract rfl rfl) fun ac125 hf133 => ?_)
    refine seq_one (op_val (v := .bool r15.idleL) hf133 rfl rfl rfl rfl rfl rfl (r_extract rfl rfl) fun ac126 hf134 => ?_)
    refine seq_one (op_val (v := .bool r15.ok) hf134 rfl rfl rfl rfl rfl rfl (r_extract rfl rfl) fun ac127 hf135 => ?_)
    refine seq_one (op_val (v := .int .i64 r15.f) hf135 rfl rfl rfl rfl rfl rfl (r_assign rfl) fun ac128 hf136 => ?_)
    refine seq_one (op_val (v := .bool r15.idleL) hf136 rfl rfl rfl rfl rfl rfl (r_assign rfl) fun ac129 hf137 => ?_)
    refine seq_one (op_val (v := .bool r15.ok) hf137 rfl rfl rfl rfl rfl rfl (r_assign rfl) fun ac130 hf138 => ?_)
    refine seq_end ?_
    clear ac121 hf129 ac122 wd16 hf130 hI31 hR16 ac123 hf131 ac124 hf132 ac125 hf133 ac126 hf134 ac127 hf135 ac128 hf136 ac129 hf137
    refine then_normal ?_
    refine code_seq ?_
    refine seq_start (l := [0, 1, 2, 3, 4, 5, 6, 7, 8, 9, 10, 11, 12, 13, 14, 15, 16, 17, 18]) rfl ?_
    refine seq_one (op_val (v := .bool s.head.ok) hf138 rfl rfl rfl rfl rfl rfl (r_move rfl) fun ac131 hf139 => ?_)
    refine seq_one (op_val (v := .bool (!s.head.ok)) hf139 rfl rfl rfl rfl rfl rfl (r_not rfl) fun ac132 hf140 => ?_)
    refine seq_one (op_val (v := .bool (!s.head.ok)) hf140 rfl rfl rfl rfl rfl rfl (r_move rfl) fun ac133 hf141 => ?_)
    have hf142 := hf141.know 133 (u := .bool true) rfl (congrArg Value.bool (by rw [(Ro.gone hx1.2 (by have := of_decide_eq_false c53_1; omega)).1]; rfl))
    refine seq_one (op_val (v := .bool r13.ok) hf142 rfl rfl rfl rfl rfl rfl (r_move rfl) fun ac134 hf143 => ?_)
    refine seq_one (op_val (v := .bool (!r13.ok)) hf143 rfl rfl rfl rfl rfl rfl (r_not rfl) fun ac135 hf144 => ?_)
    refine seq_one (op_val (v := .bool (!r13.ok)) hf144 rfl rfl rfl rfl rfl rfl (r_pickT rfl rfl) fun ac136 hf145 => ?_)
    refine seq_one (op_val (v := .bool (!r13.ok)) hf145 rfl rfl rfl rfl rfl rfl (r_move rfl) fun ac137 hf146 => ?_)
    have hf147 := hf146.know 137 (u := .bool true) rfl (congrArg Value.bool (by rw [er13, (Ro.gone hx1.2 (by have := of_decide_eq_false c53_1; omega)).1]; rfl))
    refine seq_one (op_val (v := .bool r15.ok) hf147 rfl rfl rfl rfl rfl rfl (r_move rfl) fun ac138 hf148 => ?_)
    refine seq_one (op_val (v := .bool (!r15.ok)) hf148 rfl rfl rfl rfl rfl rfl (r_not rfl) fun ac139 hf149 => ?_)
    refine seq_one (op_val (v := .bool (!r15.ok)) hf149 rfl rfl rfl rfl rfl rfl (r_pickT rfl rfl) fun ac140 hf150 => ?_)
    refine seq_one (op_val (v := .bool (!r15.ok)) hf150 rfl rfl rfl rfl rfl rfl (r_move rfl) fun ac141 hf151 => ?_)
    have hf152 := hf151.know 141 (u := .bool true) rfl (congrArg Value.bool ((by rw [er15, er13, (Ro.gone hx1.2 (by have := of_decide_eq_false c53_1; omega)).2.1]; rfl)))
    refine seq_one (op_val (v := .pointer (some ⟨b6, 0, none⟩)) hf152 rfl rfl rfl rfl rfl rfl (r_move rfl) fun ac142 hf153 => ?_)
    refine seq_one (op_call (R := fun v w' => v = .int .i64 (r17.setE 1) ∧ Inv _ [(b1, arr .i64 ((r17.set 1).c).lk, 103), (b2, arr .i64 ((r17.set 1).c).of, 3), (b3, arr .i64 ((r17.set 1).c).mn, 3), (b4, #[.slice (some ⟨b1, 0, none⟩) (8 + 2) (8 + 2), .slice (some ⟨b2, 0, none⟩) 8 8, .slice (some ⟨b3, 0, none⟩) 2 2], 79), (b5, arr .i64 (r17.set 1).cr, 3), (b6, #[.pointer (some ⟨b4, 0, none⟩), .slice (some ⟨b5, 0, none⟩) 8 8, .int .i64 ((r17.set 1).q)], 45)] w') hf153 rfl rfl rfl rfl ca_22 ((set_any (hI32.nd6 0 rfl rfl rfl rfl rfl rfl) r17 (Has.cons (hI32.at 0 rfl) (Has.cons (hI32.at 1 rfl) (Has.cons (hI32.at 2 rfl) (Has.cons (hI32.at 3 rfl) (Has.cons (hI32.at 4 rfl) (Has.cons (hI32.at 5 rfl) Has.nil)))))) 1).mono fun _ _ h => ⟨_, h.1, rfl, h.2⟩) fun ac143 v wd18 hR18 hf154 => ?_)
    obtain ⟨rfl, hR18⟩ := hR18
    have hI33 : Inv w ([(b1, arr .i64 ((r17.set 1).c).lk, 103), (b2, arr .i64 ((r17.set 1).c).of, 3), (b3, arr .i64 ((r17.set 1).c).mn, 3), (b4, #[.slice (some ⟨b1, 0, none⟩) (8 + 2) (8 + 2), .slice (some ⟨b2, 0, none⟩) 8 8, .slice (some ⟨b3, 0, none⟩) 2 2], 79), (b5, arr .i64 (r17.set 1).cr, 3), (b6, #[.pointer (some ⟨b4, 0, none⟩), .slice (some ⟨b5, 0, none⟩) 8 8, .int .i64 ((r17.set 1).q)], 45)] ++ ((Sq7 ++ Sq8) ++ Sp11)) _ := Inv.callST (A := []) (S := [(b1, arr .i64 r17.c.lk, 103), (b2, arr .i64 r17.c.of, 3), (b3, arr .i64 r17.c.mn, 3), (b4, #[.slice (some ⟨b1, 0, none⟩) (8 + 2) (8 + 2), .slice (some ⟨b2, 0, none⟩) 8 8, .slice (some ⟨b3, 0, none⟩) 2 2], 79), (b5, arr .i64 r17.cr, 3), (b6, #[.pointer (some ⟨b4, 0, none⟩), .slice (some ⟨b5, 0, none⟩) 8 8, .int .i64 r17.q], 45)]) (S' := [(b1, arr .i64 ((r17.set 1).c).lk, 103), (b2, arr .i64 ((r17.set 1).c).of, 3), (b3, arr .i64 ((r17.set 1).c).mn, 3), (b4, #[.slice (some ⟨b1, 0, none⟩) (8 + 2) (8 + 2), .slice (some ⟨b2, 0, none⟩) 8 8, .slice (some ⟨b3, 0, none⟩) 2 2], 79), (b5, arr .i64 (r17.set 1).cr, 3), (b6, #[.pointer (some ⟨b4, 0, none⟩), .slice (some ⟨b5, 0, none⟩) 8 8, .int .i64 ((r17.set 1).q)], 45)]) (L := []) (N := []) (T := ((Sq7 ++ Sq8) ++ Sp11)) hI32 hR18 rfl (fun _ h => by cases h)
    obtain ⟨r19, er19⟩ : ∃ r : Ro 8, r = (r17.set 1) := ⟨_, rfl⟩
    rw [← er19] at hI33
    refine seq_one (op_val (v := .bool ((r17.setE 1) == 2)) hf154 rfl rfl rfl rfl rfl rfl (r_eql rfl rfl) fun ac144 hf155 => ?_)
    refine seq_one (op_val (v := .bool ((r17.setE 1) == 2)) hf155 rfl rfl rfl rfl rfl rfl (r_pickT rfl rfl) fun ac145 hf156 => ?_)
    refine seq_one (op_val (v := .bool ((r17.setE 1) == 2)) hf156 rfl rfl rfl rfl rfl rfl (r_move rfl) fun ac146 hf157 => ?_)
    have hf158 := hf157.know 146 (u := .bool true) rfl (congrArg Value.bool (beq_iff_eq.2 (by rw [er17, er15, er13]; exact (Ro.gone hx1.2 (by have := of_decide_eq_false c53_1; omega)).2.2)))
    refine seq_one (op_pure hf158 rfl rfl rfl rfl ca_23 awake17_pur hI33 fun ac147 wd19 hI34 hf159 => ?_)
    refine seq_one (op_val (v := .bool true) hf159 rfl rfl rfl rfl rfl rfl (r_pickT rfl rfl) fun ac148 hf160 => ?_)
    refine seq_one (op_val (v := .bool true) hf160 rfl rfl rfl rfl rfl rfl (r_assign rfl) fun ac149 hf161 => ?_)
    refine seq_end ?_
    clear ac130 hf138 ac131 hf139 ac132 hf140 hf141 ac133 hf142 ac134 hf143 ac135 hf144 ac136 hf145 hf146 ac137 hf147 ac138 hf148 ac139 hf149 ac140 hf150 hf151 ac141 hf152 ac142 wd17 hf153 hI32 hR18 ac143 hf154 ac144 hf155 ac145 hf156 hf157 ac146 wd18 hI33 hf158 ac147 hf159 ac148 hf160
    refine then_normal ?_
    refine wp_ret ?_
    refine post1 rfl hf161 rfl ⟨?_, hI34.done (fk_app (fresh_keys (ks := [b1, b2, b3, b4, b5, b6]) rfl (fk_cons hb1 (fk_cons hb2 (fk_cons hb3 (fk_cons hb4 (fk_cons hb5 (fk_cons hb6 fk_nil))))))) (fk_app (fk_app hyq7 hyq8) hzp11))⟩
    rfl
end Go.Proofs.Ytjelaoblpchmmaa
