/-
  The walk of ChainOnce.
-/
import Derived.Test.YtjelaoblpchmmaaPlain2
namespace Go.Proofs.Ytjelaoblpchmmaa
set_option linter.unusedVariables false
set_option linter.unusedSimpArgs false
set_option maxRecDepth 100000
open Go.RowKit
set_option maxHeartbeats 8000000 in
theorem push_50w {N K : Nat} {lb ob mb cb : Nat} (hd : Nd lb ob mb cb) (c : Ch N K) {w : World} (h0_ : Has [(lb, arr .i64 c.lk, 103), (ob, arr .i64 c.of, 3), (mb, arr .i64 c.mn, 3), (cb, #[.slice (some ⟨lb, 0, none⟩) (N + K) (N + K), .slice (some ⟨ob, 0, none⟩) N N, .slice (some ⟨mb, 0, none⟩) K K], 79)] w) {l n : Int} (h : n ∈ c.lst l) : Calls Try.prog 30 [.pointer (some ⟨cb, 0, none⟩), .int .i64 (c.atV n), .int .i64 n].toArray w fun e w' => e = .returned (.int .i64 50) ∧ Inv w [] w' :=
  (push_any hd c h0_ (c.atV n) n).mono fun e w' hh => by
    have h1 := hh.1; have h2 := hh.2
    rw [(Ch.push_50 c h).1] at h1; rw [(Ch.push_50 c h).2] at h2
    exact ⟨h1, h2.unread h0_⟩
set_option maxHeartbeats 8000000 in
theorem chainOnce_walk {p : Option Addr} {L cap : Nat} {rows : List (List Value)} (hl : rows.length = L) (hc : L ≤ cap) (ho : ∀ row ∈ rows, Oks opKinds row) {w : World} (hr : Rows_ w p 3 rows) : Calls Try.prog 8 [.slice p L cap].toArray w fun e w' => e = .returned (.bool true) ∧ Inv w [] w' := by
  have hI1 := Inv.start w
  refine enter (n := 99) Try.func8 rfl rfl rfl ?_
  intro ac1 hf1
  refine code_seq ?_
  refine seq_start (l := [0]) rfl ?_
  refine seq_one (op_val (v := .bool false) hf1 rfl rfl rfl rfl rfl rfl (r_assign rfl) fun ac2 hf2 => ?_)
  refine seq_end ?_
  clear ac1 hf1
  refine then_normal ?_
  refine code_seq ?_
  refine seq_start (l := [0, 1, 2]) rfl ?_
  refine seq_one (op_val (v := .slice p L cap) hf2 rfl rfl rfl rfl rfl rfl (r_move rfl) fun ac3 hf3 => ?_)
  refine seq_one (op_call (R := fun v w' => ∃ lb ob mb cb, Array.size (World.heap w) ≤ lb ∧ Array.size (World.heap w) ≤ ob ∧ Array.size (World.heap w) ≤ mb ∧ Array.size (World.heap w) ≤ cb ∧ ∃ c : Ch 20 4, v = .pointer (some ⟨cb, 0, none⟩) ∧ Inv w [(lb, arr .i64 c.lk, 103), (ob, arr .i64 c.of, 3), (mb, arr .i64 c.mn, 3), (cb, #[.slice (some ⟨lb, 0, none⟩) (20 + 4) (20 + 4), .slice (some ⟨ob, 0, none⟩) 20 20, .slice (some ⟨mb, 0, none⟩) 4 4], 79)] w') hf3 rfl rfl rfl rfl ca_27 ((played_walk hl hc ho (hr.old hI1 (fresh_keys (ks := []) rfl fk_nil))).mono fun e w' ⟨lb, ob, mb, cb, h1, h2, h3, h4, c, h5, h6⟩ => ⟨_, h5, lb, ob, mb, cb, h1, h2, h3, h4, c, rfl, h6⟩) fun ac4 v wd1 hR hf4 => ?_)
  obtain ⟨b1, b2, b3, b4, hqb1, hqb2, hqb3, hqb4, c4, rfl, hw4⟩ := hR
  have hb1 := Nat.le_trans hI1.size hqb1
  have hb2 := Nat.le_trans hI1.size hqb2
  have hb3 := Nat.le_trans hI1.size hqb3
  have hb4 := Nat.le_trans hI1.size hqb4
  have hI2 : Inv w [(b1, arr .i64 c4.lk, 103), (b2, arr .i64 c4.of, 3), (b3, arr .i64 c4.mn, 3), (b4, #[.slice (some ⟨b1, 0, none⟩) (20 + 4) (20 + 4), .slice (some ⟨b2, 0, none⟩) 20 20, .slice (some ⟨b3, 0, none⟩) 4 4], 79)] _ := hI1.callN hw4 (fk4 hqb1 hqb2 hqb3 hqb4)
  refine seq_one (op_val (v := .pointer (some ⟨b4, 0, none⟩)) hf4 rfl rfl rfl rfl rfl rfl (r_assign rfl) fun ac5 hf5 => ?_)
  refine seq_end ?_
  clear ac2 hf2 ac3 hf3 hI1 hw4 hqb1 hqb2 hqb3 hqb4 ac4 hf4
  refine then_normal ?_
  refine code_seq ?_
  refine seq_start (l := [0]) rfl ?_
  refine seq_one (op_alloc hf5 rfl rfl rfl ze_74 hI2 fun ac6 b5 wd2 hb5 hI3 hf6 => ?_)
  have hI4 : Inv w [(b1, arr .i64 c4.lk, 103), (b2, arr .i64 c4.of, 3), (b3, arr .i64 c4.mn, 3), (b4, #[.slice (some ⟨b1, 0, none⟩) (20 + 4) (20 + 4), .slice (some ⟨b2, 0, none⟩) 20 20, .slice (some ⟨b3, 0, none⟩) 4 4], 79), (b5, #[.int .i64 0, .int .i64 0, .int .i64 0, .int .i64 0, .int .i64 0, .int .i64 0, .int .i64 0, .int .i64 0, .int .i64 0, .int .i64 0, .int .i64 0, .int .i64 0, .int .i64 0, .int .i64 0, .int .i64 0, .int .i64 0, .int .i64 0, .int .i64 0, .int .i64 0, .int .i64 0], 74)] wd2 := hI3
  refine seq_end ?_
  clear ac5 wd1 hI2 hf5 hI3
  refine then_normal ?_
  refine code_seq ?_
  refine seq_start (l := [0, 1]) rfl ?_
  refine seq_one (op_val (v := .int .i64 0) hf6 rfl rfl rfl rfl rfl rfl (r_assign rfl) fun ac7 hf7 => ?_)
  refine seq_one (op_val (v := .int .i64 0) hf7 rfl rfl rfl rfl rfl rfl (r_assign rfl) fun ac8 hf8 => ?_)
  refine seq_end ?_
  clear ac6 hf6 ac7 hf7
  refine then_normal ?_
  refine code_seq ?_
  refine code_seq ?_
  refine seq_start (l := [0]) rfl ?_
  refine seq_one (op_val (v := .int .i64 0) hf8 rfl rfl rfl rfl rfl rfl (r_move rfl) fun ac9 hf9 => ?_)
  refine seq_end ?_
  clear ac8 hf8
  refine then_normal ?_
  refine wp_block ?_
  refine code_loop (α := Nat × (List Int)) (fun (x : Nat × (List Int)) => match x with | (i, ms) => [(0, .slice p L cap), (3, .pointer (some ⟨b4, 0, none⟩)), (4, .pointer (some ⟨b5, 0, none⟩)), (6, .int .i64 0), (16, .slice p L cap), (17, .pointer (some ⟨b4, 0, none⟩)), (5, .int .i64 (c4.allF i)), (18, .int .i64 (i : Int))]) (fun (x : Nat × (List Int)) => match x with | (i, ms) => fun wL => Inv w [(b1, arr .i64 c4.lk, 103), (b2, arr .i64 c4.of, 3), (b3, arr .i64 c4.mn, 3), (b4, #[.slice (some ⟨b1, 0, none⟩) (20 + 4) (20 + 4), .slice (some ⟨b2, 0, none⟩) 20 20, .slice (some ⟨b3, 0, none⟩) 4 4], 79), (b5, arr .i64 ms, 74)] wL ∧ (i ≤ 4 ∧ Ch.Met c4 i 0 ms)) (fun (x : Nat × (List Int)) => match x with | (i, ms) => 4 - i) (0, List.replicate 20 0) (hf9.cons 0 rfl (hf9.cons 3 rfl (hf9.cons 4 rfl (hf9.cons 6 rfl (hf9.cons 16 rfl (hf9.cons 17 rfl (hf9.cons 5 rfl (hf9.cons 18 rfl hf9.nil)))))))) ⟨hI4, ⟨Nat.zero_le _, Ch.Met.init⟩⟩ ?_
  intro ⟨i, ms⟩ ac10 wd3 hf10 hL1
  obtain ⟨hI5, hx1⟩ := hL1
  dsimp only at hf10 hI5 hx1
  clear ac9 wd2 hf9 hI4
  refine code_seq ?_
  refine seq_start (l := [0]) rfl ?_
  refine seq_one (op_val (v := .bool (decide ((i : Int) < 4))) hf10 rfl rfl rfl rfl rfl rfl (r_lss rfl rfl) fun ac11 hf11 => ?_)
  refine seq_end ?_
  clear ac10 hf10
  refine then_normal ?_
  refine code_seq ?_
  refine code_if hf11 rfl (fun c19_1 => ?_) (fun c19_1 => ?_)
  · have hf12 := hf11.know 19 (u := .bool true) rfl (congrArg Value.bool c19_1)
    refine wp_skip ?_
    refine then_normal ?_
    refine code_seq ?_
    refine wp_block ?_
    refine code_seq ?_
    refine seq_start (l := [0, 1]) rfl ?_
    refine seq_one (op_val (v := .int .i64 (i : Int)) hf12 rfl rfl rfl rfl rfl rfl (r_move rfl) fun ac12 hf13 => ?_)
    refine seq_one (op_val (v := .int .i64 (i : Int)) hf13 rfl rfl rfl rfl rfl rfl (r_assign rfl) fun ac13 hf14 => ?_)
    refine seq_end ?_
    clear hf11 ac11 hf12 ac12 hf13
    refine then_normal ?_
    refine code_seq ?_
    refine seq_start (l := [0, 1, 2, 3]) rfl ?_
    refine seq_one (op_val (v := .pointer (some ⟨b4, 0, none⟩)) hf14 rfl rfl rfl rfl rfl rfl (r_move rfl) fun ac14 hf15 => ?_)
    refine seq_one (op_val (v := .int .i64 (i : Int)) hf15 rfl rfl rfl rfl rfl rfl (r_move rfl) fun ac15 hf16 => ?_)
    refine seq_one (op_call (R := fun v w' => ∃ S p cap, v = .slice p (c4.lst (i : Int)).length cap ∧ Sl 3 .i64 S p cap (c4.lst (i : Int)) ∧ Inv _ S w' ∧ ∀ x ∈ S, Array.size (World.heap _) ≤ x.1) hf16 rfl rfl rfl rfl ca_28 ((list_any (hI5.nd 0 rfl rfl rfl rfl) c4 (Has.cons (hI5.at 0 rfl) (Has.cons (hI5.at 1 rfl) (Has.cons (hI5.at 2 rfl) (Has.cons (hI5.at 3 rfl) Has.nil)))) (i : Int)).mono fun _ _ ⟨S, p, cap, he, h1, h3, h4⟩ => ⟨_, he, S, p, cap, rfl, h1, h3, h4⟩) fun ac16 v wd4 hR hf17 => ?_)
    obtain ⟨Sq6, q6, capq6, rfl, hsq6, hwq6, hzq6⟩ := hR
    have hyq6 := fk_le hI5.size hzq6
    have hI6 : Inv w ([(b1, arr .i64 c4.lk, 103), (b2, arr .i64 c4.of, 3), (b3, arr .i64 c4.mn, 3), (b4, #[.slice (some ⟨b1, 0, none⟩) (20 + 4) (20 + 4), .slice (some ⟨b2, 0, none⟩) 20 20, .slice (some ⟨b3, 0, none⟩) 4 4], 79), (b5, arr .i64 ms, 74)] ++ Sq6) _ := hI5.callN hwq6 hzq6
    refine seq_one (op_val (v := .slice q6 ((c4.lst (i : Int)).length) capq6) hf17 rfl rfl rfl rfl rfl rfl (r_assign rfl) fun ac17 hf18 => ?_)
    refine seq_end ?_
    clear ac13 hf14 ac14 hf15 ac15 wd3 hf16 hI5 hwq6 hzq6 ac16 hf17
    refine then_normal ?_
    refine code_seq ?_
    refine seq_start (l := [0, 1, 2, 3, 4, 5]) rfl ?_
    refine seq_one (op_val (v := .int .i64 (c4.allF i)) hf18 rfl rfl rfl rfl rfl rfl (r_move rfl) fun ac18 hf19 => ?_)
    refine seq_one (op_val (v := .pointer (some ⟨b4, 0, none⟩)) hf19 rfl rfl rfl rfl rfl rfl (r_move rfl) fun ac19 hf20 => ?_)
    refine seq_one (op_val (v := .int .i64 (i : Int)) hf20 rfl rfl rfl rfl rfl rfl (r_move rfl) fun ac20 hf21 => ?_)
    refine seq_one (op_pureW hf21 rfl rfl rfl rfl ca_41 (len_any (hI6.nd 0 rfl rfl rfl rfl) c4 (Has.cons (hI6.at 0 rfl) (Has.cons (hI6.at 1 rfl) (Has.cons (hI6.at 2 rfl) (Has.cons (hI6.at 3 rfl) Has.nil)))) (i : Int)) hI6 fun ac21 wd5 hI7 hf22 => ?_)
    refine seq_one (op_val (v := .int .i64 (c4.allF (i + 1))) hf22 rfl rfl rfl rfl rfl rfl (r_add (c := c4.allF (i + 1)) rfl rfl (Ch.allF_w c4 (by have := of_decide_eq_true c19_1; omega))) fun ac22 hf23 => ?_)
    refine seq_one (op_val (v := .int .i64 (c4.allF (i + 1))) hf23 rfl rfl rfl rfl rfl rfl (r_assign rfl) fun ac23 hf24 => ?_)
    refine seq_end ?_
    clear ac17 hf18 ac18 hf19 ac19 hf20 ac20 wd4 hI6 hf21 ac21 hf22 ac22 hf23
    refine then_normal ?_
    refine code_seq ?_
    refine code_seq ?_
    refine seq_start (l := [0, 1, 2, 3, 4, 5]) rfl ?_
    refine seq_one (op_val (v := .slice q6 ((c4.lst (i : Int)).length) capq6) hf24 rfl rfl rfl rfl rfl rfl (r_move rfl) fun ac24 hf25 => ?_)
    refine seq_one (op_val (v := .int .i64 ((c4.lst (i : Int)).length : Int)) hf25 rfl rfl rfl rfl rfl rfl (r_len sl_27 rfl) fun ac25 hf26 => ?_)
    refine seq_one (op_val (v := .pointer (some ⟨b4, 0, none⟩)) hf26 rfl rfl rfl rfl rfl rfl (r_move rfl) fun ac26 hf27 => ?_)
    refine seq_one (op_val (v := .int .i64 (i : Int)) hf27 rfl rfl rfl rfl rfl rfl (r_move rfl) fun ac27 hf28 => ?_)
    refine seq_one (op_pureW hf28 rfl rfl rfl rfl ca_41 (len_any (hI7.nd 0 rfl rfl rfl rfl) c4 (Has.cons (hI7.at 0 rfl) (Has.cons (hI7.at 1 rfl) (Has.cons (hI7.at 2 rfl) (Has.cons (hI7.at 3 rfl) Has.nil)))) (i : Int)) hI7 fun ac28 wd6 hI8 hf29 => ?_)
    refine seq_one (op_val (v := .bool (((c4.lst (i : Int)).length : Int) != ((c4.lst (i : Int)).length : Int))) hf29 rfl rfl rfl rfl rfl rfl (r_neq rfl rfl) fun ac29 hf30 => ?_)
    refine seq_end ?_
    clear ac23 hf24 ac24 hf25 ac25 hf26 ac26 hf27 ac27 wd5 hI7 hf28 ac28 hf29
    refine then_normal ?_
    have hf31 := hf30.know 34 (u := .bool false) rfl (congrArg Value.bool (bne_self_eq_false _))
    refine code_if_false hf31 rfl ?_
    refine wp_skip ?_
    refine then_normal ?_
    refine code_seq ?_
    refine seq_start (l := [0, 1, 2]) rfl ?_
    refine seq_one (op_val (v := .slice q6 ((c4.lst (i : Int)).length) capq6) hf31 rfl rfl rfl rfl rfl rfl (r_move rfl) fun ac30 hf32 => ?_)
    refine seq_one (op_val (v := .int .i64 ((c4.lst (i : Int)).length : Int)) hf32 rfl rfl rfl rfl rfl rfl (r_len sl_27 rfl) fun ac31 hf33 => ?_)
    refine seq_one (op_val (v := .int .i64 0) hf33 rfl rfl rfl rfl rfl rfl (r_move rfl) fun ac32 hf34 => ?_)
    refine seq_end ?_
    clear hf30 ac29 hf31 ac30 hf32 ac31 hf33
    refine then_normal ?_
    refine wp_block ?_
    refine code_loop (α := Nat × (List Int)) (fun (x : Nat × (List Int)) => match x with | (j, ms) => [(0, .slice p L cap), (3, .pointer (some ⟨b4, 0, none⟩)), (4, .pointer (some ⟨b5, 0, none⟩)), (5, .int .i64 (c4.allF (i + 1))), (6, .int .i64 0), (7, .int .i64 (i : Int)), (8, .slice q6 ((c4.lst (i : Int)).length) capq6), (16, .slice p L cap), (17, .pointer (some ⟨b4, 0, none⟩)), (18, .int .i64 (i : Int)), (19, .bool true), (20, .int .i64 (i : Int)), (21, .pointer (some ⟨b4, 0, none⟩)), (22, .int .i64 (i : Int)), (23, .slice q6 ((c4.lst (i : Int)).length) capq6), (24, .int .i64 (c4.allF i)), (25, .pointer (some ⟨b4, 0, none⟩)), (26, .int .i64 (i : Int)), (27, .int .i64 ((c4.lst (i : Int)).length : Int)), (28, .int .i64 (c4.allF (i + 1))), (29, .slice q6 ((c4.lst (i : Int)).length) capq6), (30, .int .i64 ((c4.lst (i : Int)).length : Int)), (31, .pointer (some ⟨b4, 0, none⟩)), (32, .int .i64 (i : Int)), (33, .int .i64 ((c4.lst (i : Int)).length : Int)), (34, .bool false), (35, .slice q6 ((c4.lst (i : Int)).length) capq6), (36, .int .i64 ((c4.lst (i : Int)).length : Int)), (37, .int .i64 (j : Int))]) (fun (x : Nat × (List Int)) => match x with | (j, ms) => fun wL => Inv w ([(b1, arr .i64 c4.lk, 103), (b2, arr .i64 c4.of, 3), (b3, arr .i64 c4.mn, 3), (b4, #[.slice (some ⟨b1, 0, none⟩) (20 + 4) (20 + 4), .slice (some ⟨b2, 0, none⟩) 20 20, .slice (some ⟨b3, 0, none⟩) 4 4], 79), (b5, arr .i64 ms, 74)] ++ Sq6) wL ∧ (j ≤ (c4.lst (i : Int)).length ∧ Ch.Met c4 i j ms)) (fun (x : Nat × (List Int)) => match x with | (j, ms) => (c4.lst (i : Int)).length - j) (0, ms) (hf34.cons 0 rfl (hf34.cons 3 rfl (hf34.cons 4 rfl (hf34.cons 5 rfl (hf34.cons 6 rfl (hf34.cons 7 rfl (hf34.cons 8 rfl (hf34.cons 16 rfl (hf34.cons 17 rfl (hf34.cons 18 rfl (hf34.cons 19 rfl (hf34.cons 20 rfl (hf34.cons 21 rfl (hf34.cons 22 rfl (hf34.cons 23 rfl (hf34.cons 24 rfl (hf34.cons 25 rfl (hf34.cons 26 rfl (hf34.cons 27 rfl (hf34.cons 28 rfl (hf34.cons 29 rfl (hf34.cons 30 rfl (hf34.cons 31 rfl (hf34.cons 32 rfl (hf34.cons 33 rfl (hf34.cons 34 rfl (hf34.cons 35 rfl (hf34.cons 36 rfl (hf34.cons 37 rfl hf34.nil))))))))))))))))))))))))))))) ⟨hI8, ⟨Nat.zero_le _, hx1.2⟩⟩ ?_
    intro ⟨j, ms⟩ ac33 wd7 hf35 hL2
    obtain ⟨hI9, hx2⟩ := hL2
    dsimp only at hf35 hI9 hx2
    clear ac32 wd6 hf34 hI8
    refine code_seq ?_
    refine seq_start (l := [0]) rfl ?_
    refine seq_one (op_val (v := .bool (decide ((j : Int) < ((c4.lst (i : Int)).length : Int)))) hf35 rfl rfl rfl rfl rfl rfl (r_lss rfl rfl) fun ac34 hf36 => ?_)
    refine seq_end ?_
    clear ac33 hf35
    refine then_normal ?_
    refine code_seq ?_
    refine code_if hf36 rfl (fun c38_2 => ?_) (fun c38_2 => ?_)
    · have hf37 := hf36.know 38 (u := .bool true) rfl (congrArg Value.bool c38_2)
      refine wp_skip ?_
      refine then_normal ?_
      refine code_seq ?_
      refine wp_block ?_
      refine code_seq ?_
      refine seq_start (l := [0, 1, 2]) rfl ?_
      refine seq_one (op_val (v := .pointer (slAt q6 j)) hf37 rfl rfl rfl rfl rfl rfl (r_indexAddrV (i := j) sl_27 rfl rfl rfl (by have := of_decide_eq_true c38_2; omega) (let r := (hsq6.rd hI9 (fun x hx => List.mem_append_right _ hx)) j (by have := of_decide_eq_true c38_2; omega); ⟨r.choose, r.choose_spec.1⟩)) fun ac35 hf38 => ?_)
      refine seq_one (op_val (v := .int .i64 ((c4.lst (i : Int)).getD j 0)) hf38 rfl rfl rfl rfl rfl rfl (r_loadV ag_3 rfl (hsq6.rd hI9 (fun x hx => List.mem_append_right _ hx)) (by have := of_decide_eq_true c38_2; omega)) fun ac36 hf39 => ?_)
      refine seq_one (op_val (v := .int .i64 ((c4.lst (i : Int)).getD j 0)) hf39 rfl rfl rfl rfl rfl rfl (r_assign rfl) fun ac37 hf40 => ?_)
      refine seq_end ?_
      clear hf36 ac34 hf37 ac35 hf38 ac36 hf39
      refine then_normal ?_
      refine code_seq ?_
      refine code_seq ?_
      refine seq_start (l := [0, 1, 2, 3, 4, 5]) rfl ?_
      refine seq_one (op_val (v := .int .i64 ((c4.lst (i : Int)).getD j 0)) hf40 rfl rfl rfl rfl rfl rfl (r_move rfl) fun ac38 hf41 => ?_)
      refine seq_one (op_val (v := .bool (decide (((c4.lst (i : Int)).getD j 0) < 0))) hf41 rfl rfl rfl rfl rfl rfl (r_lss rfl rfl) fun ac39 hf42 => ?_)
      refine seq_one (op_val (v := .bool (decide (((c4.lst (i : Int)).getD j 0) < 0))) hf42 rfl rfl rfl rfl rfl rfl (r_move rfl) fun ac40 hf43 => ?_)
      have hf44 := hf43.know 43 (u := .bool false) rfl (congrArg Value.bool (decide_eq_false (by have := (Ch.mem_in (Ch.get_mem (l := c4.lst (i : Int)) (j := j) (by have := of_decide_eq_true c38_2; omega))).2.2.2; omega)))
      refine seq_one (op_val (v := .int .i64 ((c4.lst (i : Int)).getD j 0)) hf44 rfl rfl rfl rfl rfl rfl (r_move rfl) fun ac41 hf45 => ?_)
      refine seq_one (op_val (v := .bool (decide (((c4.lst (i : Int)).getD j 0) > 19))) hf45 rfl rfl rfl rfl rfl rfl (r_gtr rfl rfl) fun ac42 hf46 => ?_)
      refine seq_one (op_val (v := .bool (decide (((c4.lst (i : Int)).getD j 0) > 19))) hf46 rfl rfl rfl rfl rfl rfl (r_pickF rfl rfl) fun ac43 hf47 => ?_)
      refine seq_end ?_
      clear ac37 hf40 ac38 hf41 ac39 hf42 hf43 ac40 hf44 ac41 hf45 ac42 hf46
      refine then_normal ?_
      have hf48 := hf47.know 46 (u := .bool false) rfl (congrArg Value.bool (decide_eq_false (by have := (Ch.mem_in (Ch.get_mem (l := c4.lst (i : Int)) (j := j) (by have := of_decide_eq_true c38_2; omega))).2.2.2; omega)))
      refine code_if_false hf48 rfl ?_
      refine wp_skip ?_
      refine then_normal ?_
      refine code_seq ?_
      refine seq_start (l := [0, 1, 2, 3, 4, 5, 6, 7]) rfl ?_
      refine seq_one (op_val (v := .pointer (some ⟨b4, 0, none⟩)) hf48 rfl rfl rfl rfl rfl rfl (r_move rfl) fun ac44 hf49 => ?_)
      refine seq_one (op_val (v := .int .i64 ((c4.lst (i : Int)).getD j 0)) hf49 rfl rfl rfl rfl rfl rfl (r_move rfl) fun ac45 hf50 => ?_)
      refine seq_one (op_pureW hf50 rfl rfl rfl rfl ca_29 (in_any (hI9.nd 0 rfl rfl rfl rfl) c4 (Has.cons (hI9.at 0 rfl) (Has.cons (hI9.at 1 rfl) (Has.cons (hI9.at 2 rfl) (Has.cons (hI9.at 3 rfl) Has.nil)))) ((c4.lst (i : Int)).getD j 0)) hI9 fun ac46 wd8 hI10 hf51 => ?_)
      refine seq_one (op_val (v := .tuple #[.int .i64 (c4.atV ((c4.lst (i : Int)).getD j 0)), .bool (c4.inn ((c4.lst (i : Int)).getD j 0))]) hf51 rfl rfl rfl rfl rfl rfl (r_move rfl) fun ac47 hf52 => ?_)
      refine seq_one (op_val (v := .int .i64 (c4.atV ((c4.lst (i : Int)).getD j 0))) hf52 rfl rfl rfl rfl rfl rfl (r_extract rfl rfl) fun ac48 hf53 => ?_)
      refine seq_one (op_val (v := .bool (c4.inn ((c4.lst (i : Int)).getD j 0))) hf53 rfl rfl rfl rfl rfl rfl (r_extract rfl rfl) fun ac49 hf54 => ?_)
      refine seq_one (op_val (v := .int .i64 (c4.atV ((c4.lst (i : Int)).getD j 0))) hf54 rfl rfl rfl rfl rfl rfl (r_assign rfl) fun ac50 hf55 => ?_)
      refine seq_one (op_val (v := .bool (c4.inn ((c4.lst (i : Int)).getD j 0))) hf55 rfl rfl rfl rfl rfl rfl (r_assign rfl) fun ac51 hf56 => ?_)
      refine seq_end ?_
      clear hf47 ac43 hf48 ac44 hf49 ac45 wd7 hI9 hf50 ac46 hf51 ac47 hf52 ac48 hf53 ac49 hf54 ac50 hf55
      refine then_normal ?_
      refine code_seq ?_
      refine seq_start (l := [0, 1, 2, 3, 4, 5]) rfl ?_
      refine seq_one (op_val (v := .int .i64 ((c4.lst (i : Int)).getD j 0)) hf56 rfl rfl rfl rfl rfl rfl (r_move rfl) fun ac52 hf57 => ?_)
      refine seq_one (op_val (v := .pointer (some ⟨b5, ((c4.lst (i : Int)).getD j 0).toNat, none⟩)) hf57 rfl rfl rfl rfl rfl rfl (r_indexAddr (i := ((c4.lst (i : Int)).getD j 0).toNat) ar_74 rfl rfl (by have := (Ch.mem_in (Ch.get_mem (l := c4.lst (i : Int)) (j := j) (by have := of_decide_eq_true c38_2; omega))).2.2.2; omega) (by have := (Ch.mem_in (Ch.get_mem (l := c4.lst (i : Int)) (j := j) (by have := of_decide_eq_true c38_2; omega))).2.2.2; omega) (by rw [Nat.mul_one, Nat.zero_add])) fun ac53 hf58 => ?_)
      refine seq_one (op_val (v := .int .i64 (ms.getD (((c4.lst (i : Int)).getD j 0).toNat) 0)) hf58 rfl rfl rfl rfl rfl rfl (r_load ag_3 rfl (hI10.at 4 rfl) (arr_get (Nat.lt_of_lt_of_eq (by have := (Ch.mem_in (Ch.get_mem (l := c4.lst (i : Int)) (j := j) (by have := of_decide_eq_true c38_2; omega))).2.2.2; omega) (Eq.symm hx2.2.1)))) fun ac54 hf59 => ?_)
      refine seq_one (op_val (v := .int .i64 1) hf59 rfl rfl rfl rfl rfl rfl (r_add (c := 1) rfl rfl (by rw [Ch.Met.get hx2.2 (by have := of_decide_eq_true c38_2; omega)]; rfl)) fun ac55 hf60 => ?_)
      refine seq_one (op_val (v := .pointer (some ⟨b5, ((c4.lst (i : Int)).getD j 0).toNat, none⟩)) hf60 rfl rfl rfl rfl rfl rfl (r_indexAddr (i := ((c4.lst (i : Int)).getD j 0).toNat) ar_74 rfl rfl (by have := (Ch.mem_in (Ch.get_mem (l := c4.lst (i : Int)) (j := j) (by have := of_decide_eq_true c38_2; omega))).2.2.2; omega) (by have := (Ch.mem_in (Ch.get_mem (l := c4.lst (i : Int)) (j := j) (by have := of_decide_eq_true c38_2; omega))).2.2.2; omega) (by rw [Nat.mul_one, Nat.zero_add])) fun ac56 hf61 => ?_)
      refine seq_one (op_store (cs' := arr .i64 (ms.set (((c4.lst (i : Int)).getD j 0).toNat) 1)) 4 hf61 rfl rfl rfl rfl rfl sz_3 hI10 rfl (Nat.lt_of_lt_of_eq (by have := (Ch.mem_in (Ch.get_mem (l := c4.lst (i : Int)) (j := j) (by have := of_decide_eq_true c38_2; omega))).2.2.2; omega) (Eq.symm (arr_size hx2.2.1))) arr_set fun wd9 hI11 => ?_)
      have hI12 : Inv w ([(b1, arr .i64 c4.lk, 103), (b2, arr .i64 c4.of, 3), (b3, arr .i64 c4.mn, 3), (b4, #[.slice (some ⟨b1, 0, none⟩) (20 + 4) (20 + 4), .slice (some ⟨b2, 0, none⟩) 20 20, .slice (some ⟨b3, 0, none⟩) 4 4], 79), (b5, arr .i64 (ms.set (((c4.lst (i : Int)).getD j 0).toNat) 1), 74)] ++ Sq6) wd9 := hI11
      refine seq_end ?_
      clear ac51 hf56 ac52 hf57 ac53 hf58 ac54 hf59 ac55 hf60 wd8 hI10 hI11
      refine then_normal ?_
      refine code_seq ?_
      refine seq_start (l := [0, 1, 2, 3, 4, 5, 6, 7, 8, 9, 10, 11, 12, 13, 14, 15, 16, 17, 18, 19]) rfl ?_
      refine seq_one (op_val (v := .int .i64 ((c4.lst (i : Int)).getD j 0)) hf61 rfl rfl rfl rfl rfl rfl (r_move rfl) fun ac57 hf62 => ?_)
      refine seq_one (op_val (v := .pointer (some ⟨b5, ((c4.lst (i : Int)).getD j 0).toNat, none⟩)) hf62 rfl rfl rfl rfl rfl rfl (r_indexAddr (i := ((c4.lst (i : Int)).getD j 0).toNat) ar_74 rfl rfl (by have := (Ch.mem_in (Ch.get_mem (l := c4.lst (i : Int)) (j := j) (by have := of_decide_eq_true c38_2; omega))).2.2.2; omega) (by have := (Ch.mem_in (Ch.get_mem (l := c4.lst (i : Int)) (j := j) (by have := of_decide_eq_true c38_2; omega))).2.2.2; omega) (by rw [Nat.mul_one, Nat.zero_add])) fun ac58 hf63 => ?_)
      refine seq_one (op_val (v := .int .i64 ((ms.set (((c4.lst (i : Int)).getD j 0).toNat) 1).getD (((c4.lst (i : Int)).getD j 0).toNat) 0)) hf63 rfl rfl rfl rfl rfl rfl (r_load ag_3 rfl (hI12.at 4 rfl) (arr_get (Nat.lt_of_lt_of_eq (by have := (Ch.mem_in (Ch.get_mem (l := c4.lst (i : Int)) (j := j) (by have := of_decide_eq_true c38_2; omega))).2.2.2; omega) (Eq.symm (List.length_set.trans hx2.2.1))))) fun ac59 hf64 => ?_)
      refine seq_one (op_val (v := .bool (decide (((ms.set (((c4.lst (i : Int)).getD j 0).toNat) 1).getD (((c4.lst (i : Int)).getD j 0).toNat) 0) > 1))) hf64 rfl rfl rfl rfl rfl rfl (r_gtr rfl rfl) fun ac60 hf65 => ?_)
      refine seq_one (op_val (v := .bool (decide (((ms.set (((c4.lst (i : Int)).getD j 0).toNat) 1).getD (((c4.lst (i : Int)).getD j 0).toNat) 0) > 1))) hf65 rfl rfl rfl rfl rfl rfl (r_move rfl) fun ac61 hf66 => ?_)
      have hf67 := hf66.know 62 (u := .bool false) rfl (congrArg Value.bool (decide_eq_false (by rw [getD_set _ _ _ _ (by rw [hx2.2.1]; have := (Ch.mem_in (Ch.get_mem (l := c4.lst (i : Int)) (j := j) (by have := of_decide_eq_true c38_2; omega))).2.2.2; omega), if_pos rfl]; decide)))
      refine seq_one (op_val (v := .bool (c4.inn ((c4.lst (i : Int)).getD j 0))) hf67 rfl rfl rfl rfl rfl rfl (r_move rfl) fun ac62 hf68 => ?_)
      refine seq_one (op_val (v := .bool (!(c4.inn ((c4.lst (i : Int)).getD j 0)))) hf68 rfl rfl rfl rfl rfl rfl (r_not rfl) fun ac63 hf69 => ?_)
      refine seq_one (op_val (v := .bool (!(c4.inn ((c4.lst (i : Int)).getD j 0)))) hf69 rfl rfl rfl rfl rfl rfl (r_pickF rfl rfl) fun ac64 hf70 => ?_)
      refine seq_one (op_val (v := .bool (!(c4.inn ((c4.lst (i : Int)).getD j 0)))) hf70 rfl rfl rfl rfl rfl rfl (r_move rfl) fun ac65 hf71 => ?_)
      have hf72 := hf71.know 66 (u := .bool false) rfl (congrArg Value.bool (by rw [(Ch.mem_in (Ch.get_mem (l := c4.lst (i : Int)) (j := j) (by have := of_decide_eq_true c38_2; omega))).1]; rfl))
      refine seq_one (op_val (v := .int .i64 (c4.atV ((c4.lst (i : Int)).getD j 0))) hf72 rfl rfl rfl rfl rfl rfl (r_move rfl) fun ac66 hf73 => ?_)
      refine seq_one (op_val (v := .int .i64 (i : Int)) hf73 rfl rfl rfl rfl rfl rfl (r_move rfl) fun ac67 hf74 => ?_)
      refine seq_one (op_val (v := .bool ((c4.atV ((c4.lst (i : Int)).getD j 0)) != (i : Int))) hf74 rfl rfl rfl rfl rfl rfl (r_neq rfl rfl) fun ac68 hf75 => ?_)
      refine seq_one (op_val (v := .bool ((c4.atV ((c4.lst (i : Int)).getD j 0)) != (i : Int))) hf75 rfl rfl rfl rfl rfl rfl (r_pickF rfl rfl) fun ac69 hf76 => ?_)
      refine seq_one (op_val (v := .bool ((c4.atV ((c4.lst (i : Int)).getD j 0)) != (i : Int))) hf76 rfl rfl rfl rfl rfl rfl (r_move rfl) fun ac70 hf77 => ?_)
      have hf78 := hf77.know 71 (u := .bool false) rfl (congrArg Value.bool (bne_eq_false_iff_eq.2 (Ch.mem_in (Ch.get_mem (l := c4.lst (i : Int)) (j := j) (by have := of_decide_eq_true c38_2; omega))).2.1))
      refine seq_one (op_val (v := .pointer (some ⟨b4, 0, none⟩)) hf78 rfl rfl rfl rfl rfl rfl (r_move rfl) fun ac71 hf79 => ?_)
      refine seq_one (op_val (v := .int .i64 (c4.atV ((c4.lst (i : Int)).getD j 0))) hf79 rfl rfl rfl rfl rfl rfl (r_move rfl) fun ac72 hf80 => ?_)
      refine seq_one (op_val (v := .int .i64 ((c4.lst (i : Int)).getD j 0)) hf80 rfl rfl rfl rfl rfl rfl (r_move rfl) fun ac73 hf81 => ?_)
      refine seq_one (op_pureW hf81 rfl rfl rfl rfl ca_30 (push_50w (hI12.nd 0 rfl rfl rfl rfl) c4 (Has.cons (hI12.at 0 rfl) (Has.cons (hI12.at 1 rfl) (Has.cons (hI12.at 2 rfl) (Has.cons (hI12.at 3 rfl) Has.nil)))) (Ch.get_mem (l := c4.lst (i : Int)) (j := j) (by have := of_decide_eq_true c38_2; omega))) hI12 fun ac74 wd10 hI13 hf82 => ?_)
      refine seq_one (op_val (v := .bool false) hf82 rfl rfl rfl rfl rfl rfl (r_neqC rfl rfl (by decide)) fun ac75 hf83 => ?_)
      refine seq_one (op_val (v := .bool false) hf83 rfl rfl rfl rfl rfl rfl (r_pickF rfl rfl) fun ac76 hf84 => ?_)
      refine seq_end ?_
      clear ac56 hf61 ac57 hf62 ac58 hf63 ac59 hf64 ac60 hf65 hf66 ac61 hf67 ac62 hf68 ac63 hf69 ac64 hf70 hf71 ac65 hf72 ac66 hf73 ac67 hf74 ac68 hf75 ac69 hf76 hf77 ac70 hf78 ac71 hf79 ac72 hf80 ac73 wd9 hI12 hf81 ac74 hf82 ac75 hf83
      refine then_normal ?_
      refine code_if_false hf84 rfl ?_
      refine wp_skip ?_
      refine block_normal ?_
      refine then_normal ?_
      refine seq_start (l := [0, 1]) rfl ?_
      refine seq_one (op_val (v := .int .i64 ((j + 1 : Nat) : Int)) hf84 rfl rfl rfl rfl rfl rfl (r_add (c := ((j + 1 : Nat) : Int)) rfl rfl (wrap_i64 (by omega) (by have := hx2.1; have := Ch.lst_le c4 (i : Int); omega))) fun ac77 hf85 => ?_)
      refine seq_one (op_val (v := .int .i64 ((j + 1 : Nat) : Int)) hf85 rfl rfl rfl rfl rfl rfl (r_move rfl) fun ac78 hf86 => ?_)
      refine seq_end ?_
      clear ac76 hf84 ac77 hf85
      refine then_normal ?_
      exact ⟨(j + 1, (ms.set ((c4.lst (i : Int)).getD j 0).toNat 1)), (hf86.cons 0 rfl (hf86.cons 3 rfl (hf86.cons 4 rfl (hf86.cons 5 rfl (hf86.cons 6 rfl (hf86.cons 7 rfl (hf86.cons 8 rfl (hf86.cons 16 rfl (hf86.cons 17 rfl (hf86.cons 18 rfl (hf86.cons 19 rfl (hf86.cons 20 rfl (hf86.cons 21 rfl (hf86.cons 22 rfl (hf86.cons 23 rfl (hf86.cons 24 rfl (hf86.cons 25 rfl (hf86.cons 26 rfl (hf86.cons 27 rfl (hf86.cons 28 rfl (hf86.cons 29 rfl (hf86.cons 30 rfl (hf86.cons 31 rfl (hf86.cons 32 rfl (hf86.cons 33 rfl (hf86.cons 34 rfl (hf86.cons 35 rfl (hf86.cons 36 rfl (hf86.cons 37 rfl hf86.nil))))))))))))))))))))))))))))), ⟨hI13, ⟨by have := of_decide_eq_true c38_2; omega, Ch.Met.set hx2.2 (by have := of_decide_eq_true c38_2; omega)⟩⟩, (by have := of_decide_eq_true c38_2; show (c4.lst (i : Int)).length - (j + 1) < (c4.lst (i : Int)).length - j; omega)⟩
    · have hf87 := hf36.know 38 (u := .bool false) rfl (congrArg Value.bool c38_2)
      refine wp_exit ?_
      refine then_exit ?_
      refine then_exit ?_
      refine block_here ?_
      refine block_normal ?_
      refine then_normal ?_
      refine seq_start (l := [0, 1]) rfl ?_
      refine seq_one (op_val (v := .int .i64 ((i + 1 : Nat) : Int)) hf87 rfl rfl rfl rfl rfl rfl (r_add (c := ((i + 1 : Nat) : Int)) rfl rfl (wrap_i64 (by omega) (by have := hx1.1; omega))) fun ac79 hf88 => ?_)
      refine seq_one (op_val (v := .int .i64 ((i + 1 : Nat) : Int)) hf88 rfl rfl rfl rfl rfl rfl (r_move rfl) fun ac80 hf89 => ?_)
      refine seq_end ?_
      clear hf36 ac34 hf87 ac79 hf88
      refine then_normal ?_
      exact ⟨(i + 1, ms), (hf89.cons 0 rfl (hf89.cons 3 rfl (hf89.cons 4 rfl (hf89.cons 6 rfl (hf89.cons 16 rfl (hf89.cons 17 rfl (hf89.cons 5 rfl (hf89.cons 18 rfl hf89.nil)))))))), ⟨(Inv.drop (A := [(b1, arr .i64 c4.lk, 103), (b2, arr .i64 c4.of, 3), (b3, arr .i64 c4.mn, 3), (b4, #[.slice (some ⟨b1, 0, none⟩) (20 + 4) (20 + 4), .slice (some ⟨b2, 0, none⟩) 20 20, .slice (some ⟨b3, 0, none⟩) 4 4], 79), (b5, arr .i64 ms, 74)]) (B := ([] ++ Sq6)) hI9 (fk_app (fresh_keys (ks := []) rfl fk_nil) hyq6)), ⟨by have := of_decide_eq_true c19_1; omega, Ch.Met.m hx2.2 (by have := of_decide_eq_false c38_2; have := hx2.1; omega)⟩⟩, (by have := of_decide_eq_true c19_1; show 4 - (i + 1) < 4 - i; omega)⟩
  · have hf90 := hf11.know 19 (u := .bool false) rfl (congrArg Value.bool c19_1)
    refine wp_exit ?_
    refine then_exit ?_
    refine then_exit ?_
    refine block_here ?_
    refine then_normal ?_
    refine code_seq ?_
    refine code_seq ?_
    refine seq_start (l := [0]) rfl ?_
    refine seq_one (op_val (v := .int .i64 0) hf90 rfl rfl rfl rfl rfl rfl (r_move rfl) fun ac81 hf91 => ?_)
    refine seq_end ?_
    clear hf11 ac11 hf90
    refine then_normal ?_
    refine wp_block ?_
    refine code_loop (α := Nat) (fun (m : Nat) => [(0, .slice p L cap), (3, .pointer (some ⟨b4, 0, none⟩)), (4, .pointer (some ⟨b5, 0, none⟩)), (5, .int .i64 (c4.allF i)), (16, .slice p L cap), (17, .pointer (some ⟨b4, 0, none⟩)), (18, .int .i64 (i : Int)), (19, .bool false), (6, .int .i64 (c4.toldF m)), (80, .int .i64 (m : Int))]) (fun (m : Nat) => fun wL => Inv w [(b1, arr .i64 c4.lk, 103), (b2, arr .i64 c4.of, 3), (b3, arr .i64 c4.mn, 3), (b4, #[.slice (some ⟨b1, 0, none⟩) (20 + 4) (20 + 4), .slice (some ⟨b2, 0, none⟩) 20 20, .slice (some ⟨b3, 0, none⟩) 4 4], 79), (b5, arr .i64 ms, 74)] wL ∧ (m ≤ 20)) (fun (m : Nat) => 20 - m) 0 (hf91.cons 0 rfl (hf91.cons 3 rfl (hf91.cons 4 rfl (hf91.cons 5 rfl (hf91.cons 16 rfl (hf91.cons 17 rfl (hf91.cons 18 rfl (hf91.cons 19 rfl (hf91.cons 6 rfl (hf91.cons 80 rfl hf91.nil)))))))))) ⟨hI5, Nat.zero_le _⟩ ?_
    intro m ac82 wd11 hf92 hL3
    obtain ⟨hI14, hx3⟩ := hL3
    clear ac81 wd3 hf91 hI5
    refine code_seq ?_
    refine seq_start (l := [0]) rfl ?_
    refine seq_one (op_val (v := .bool (decide ((m : Int) < 20))) hf92 rfl rfl rfl rfl rfl rfl (r_lss rfl rfl) fun ac83 hf93 => ?_)
    refine seq_end ?_
    clear ac82 hf92
    refine then_normal ?_
    refine code_seq ?_
    refine code_if hf93 rfl (fun c81_3 => ?_) (fun c81_3 => ?_)
    · have hf94 := hf93.know 81 (u := .bool true) rfl (congrArg Value.bool c81_3)
      refine wp_skip ?_
      refine then_normal ?_
      refine code_seq ?_
      refine wp_block ?_
      refine code_seq ?_
      refine seq_start (l := [0, 1]) rfl ?_
      refine seq_one (op_val (v := .int .i64 (m : Int)) hf94 rfl rfl rfl rfl rfl rfl (r_move rfl) fun ac84 hf95 => ?_)
      refine seq_one (op_val (v := .int .i64 (m : Int)) hf95 rfl rfl rfl rfl rfl rfl (r_assign rfl) fun ac85 hf96 => ?_)
      refine seq_end ?_
      clear hf93 ac83 hf94 ac84 hf95
      refine then_normal ?_
      refine code_seq ?_
      refine seq_start (l := [0, 1, 2, 3, 4, 5, 6, 7]) rfl ?_
      refine seq_one (op_val (v := .pointer (some ⟨b4, 0, none⟩)) hf96 rfl rfl rfl rfl rfl rfl (r_move rfl) fun ac86 hf97 => ?_)
      refine seq_one (op_val (v := .int .i64 (m : Int)) hf97 rfl rfl rfl rfl rfl rfl (r_move rfl) fun ac87 hf98 => ?_)
      refine seq_one (op_pureW hf98 rfl rfl rfl rfl ca_29 (in_any (hI14.nd 0 rfl rfl rfl rfl) c4 (Has.cons (hI14.at 0 rfl) (Has.cons (hI14.at 1 rfl) (Has.cons (hI14.at 2 rfl) (Has.cons (hI14.at 3 rfl) Has.nil)))) (m : Int)) hI14 fun ac88 wd12 hI15 hf99 => ?_)
      refine seq_one (op_val (v := .tuple #[.int .i64 (c4.atV (m : Int)), .bool (c4.inn (m : Int))]) hf99 rfl rfl rfl rfl rfl rfl (r_move rfl) fun ac89 hf100 => ?_)
      refine seq_one (op_val (v := .int .i64 (c4.atV (m : Int))) hf100 rfl rfl rfl rfl rfl rfl (r_extract rfl rfl) fun ac90 hf101 => ?_)
      refine seq_one (op_val (v := .bool (c4.inn (m : Int))) hf101 rfl rfl rfl rfl rfl rfl (r_extract rfl rfl) fun ac91 hf102 => ?_)
      refine seq_one (op_val (v := .int .i64 (c4.atV (m : Int))) hf102 rfl rfl rfl rfl rfl rfl (r_assign rfl) fun ac92 hf103 => ?_)
      refine seq_one (op_val (v := .bool (c4.inn (m : Int))) hf103 rfl rfl rfl rfl rfl rfl (r_assign rfl) fun ac93 hf104 => ?_)
      refine seq_end ?_
      clear ac85 hf96 ac86 hf97 ac87 wd11 hI14 hf98 ac88 hf99 ac89 hf100 ac90 hf101 ac91 hf102 ac92 hf103
      refine then_normal ?_
      refine code_seq ?_
      refine seq_start (l := [0]) rfl ?_
      refine seq_one (op_val (v := .bool (c4.inn (m : Int))) hf104 rfl rfl rfl rfl rfl rfl (r_move rfl) fun ac94 hf105 => ?_)
      refine seq_end ?_
      clear ac93 hf104
      refine then_normal ?_
      refine code_if hf105 rfl (fun c89_4 => ?_) (fun c89_4 => ?_)
      · have hf106 := hf105.know 89 (u := .bool true) rfl (congrArg Value.bool c89_4)
        refine seq_start (l := [0, 1, 2]) rfl ?_
        refine seq_one (op_val (v := .int .i64 (c4.toldF m)) hf106 rfl rfl rfl rfl rfl rfl (r_move rfl) fun ac95 hf107 => ?_)
        refine seq_one (op_val (v := .int .i64 (c4.toldF (m + 1))) hf107 rfl rfl rfl rfl rfl rfl (r_add (c := c4.toldF (m + 1)) rfl rfl (Ch.told_w c4 (by have := of_decide_eq_true c81_3; omega) c89_4)) fun ac96 hf108 => ?_)
        refine seq_one (op_val (v := .int .i64 (c4.toldF (m + 1))) hf108 rfl rfl rfl rfl rfl rfl (r_assign rfl) fun ac97 hf109 => ?_)
        refine seq_end ?_
        clear hf105 ac94 hf106 ac95 hf107 ac96 hf108
        refine block_normal ?_
        refine then_normal ?_
        refine seq_start (l := [0, 1]) rfl ?_
        refine seq_one (op_val (v := .int .i64 ((m + 1 : Nat) : Int)) hf109 rfl rfl rfl rfl rfl rfl (r_add (c := ((m + 1 : Nat) : Int)) rfl rfl (wrap_i64 (by omega) (by have := hx3; omega))) fun ac98 hf110 => ?_)
        refine seq_one (op_val (v := .int .i64 ((m + 1 : Nat) : Int)) hf110 rfl rfl rfl rfl rfl rfl (r_move rfl) fun ac99 hf111 => ?_)
        refine seq_end ?_
        clear ac97 hf109 ac98 hf110
        refine then_normal ?_
        exact ⟨m + 1, (hf111.cons 0 rfl (hf111.cons 3 rfl (hf111.cons 4 rfl (hf111.cons 5 rfl (hf111.cons 16 rfl (hf111.cons 17 rfl (hf111.cons 18 rfl (hf111.cons 19 rfl (hf111.cons 6 rfl (hf111.cons 80 rfl hf111.nil)))))))))), ⟨hI15, (by have := of_decide_eq_true c81_3; omega)⟩, (by have := of_decide_eq_true c81_3; show 20 - (m + 1) < 20 - m; omega)⟩
      · have hf112 := hf105.know 89 (u := .bool false) rfl (congrArg Value.bool c89_4)
        refine wp_skip ?_
        refine block_normal ?_
        refine then_normal ?_
        refine seq_start (l := [0, 1]) rfl ?_
        refine seq_one (op_val (v := .int .i64 ((m + 1 : Nat) : Int)) hf112 rfl rfl rfl rfl rfl rfl (r_add (c := ((m + 1 : Nat) : Int)) rfl rfl (wrap_i64 (by omega) (by have := hx3; omega))) fun ac100 hf113 => ?_)
        refine seq_one (op_val (v := .int .i64 ((m + 1 : Nat) : Int)) hf113 rfl rfl rfl rfl rfl rfl (r_move rfl) fun ac101 hf114 => ?_)
        refine seq_end ?_
        clear hf105 ac94 hf112 ac100 hf113
        refine then_normal ?_
        exact ⟨m + 1, (hf114.cons 0 rfl (hf114.cons 3 rfl (hf114.cons 4 rfl (hf114.cons 5 rfl (hf114.cons 16 rfl (hf114.cons 17 rfl (hf114.cons 18 rfl (hf114.cons 19 rfl (hf114.cons 6 (congrArg (fun z => some (Value.int .i64 z)) (Ch.told_f c89_4).symm) (hf114.cons 80 rfl hf114.nil)))))))))), ⟨hI15, (by have := of_decide_eq_true c81_3; omega)⟩, (by have := of_decide_eq_true c81_3; show 20 - (m + 1) < 20 - m; omega)⟩
    · have hf115 := hf93.know 81 (u := .bool false) rfl (congrArg Value.bool c81_3)
      refine wp_exit ?_
      refine then_exit ?_
      refine then_exit ?_
      refine block_here ?_
      refine then_normal ?_
      refine code_seq ?_
      refine seq_start (l := [0, 1, 2, 3, 4, 5, 6]) rfl ?_
      refine seq_one (op_val (v := .int .i64 (c4.allF i)) hf115 rfl rfl rfl rfl rfl rfl (r_move rfl) fun ac102 hf116 => ?_)
      refine seq_one (op_val (v := .int .i64 (c4.toldF m)) hf116 rfl rfl rfl rfl rfl rfl (r_move rfl) fun ac103 hf117 => ?_)
      refine seq_one (op_val (v := .bool ((c4.allF i) == (c4.toldF m))) hf117 rfl rfl rfl rfl rfl rfl (r_eql rfl rfl) fun ac104 hf118 => ?_)
      refine seq_one (op_val (v := .bool ((c4.allF i) == (c4.toldF m))) hf118 rfl rfl rfl rfl rfl rfl (r_move rfl) fun ac105 hf119 => ?_)
      have hf120 := hf119.know 96 (u := .bool true) rfl (congrArg Value.bool (Ch.all4 (by have := of_decide_eq_false c19_1; have := hx1.1; omega) (by have := of_decide_eq_false c81_3; have := hx3; omega)))
      refine seq_one (op_pure hf120 rfl rfl rfl rfl ca_33 awake5_pur hI14 fun ac106 wd13 hI16 hf121 => ?_)
      refine seq_one (op_val (v := .bool true) hf121 rfl rfl rfl rfl rfl rfl (r_pickT rfl rfl) fun ac107 hf122 => ?_)
      refine seq_one (op_val (v := .bool true) hf122 rfl rfl rfl rfl rfl rfl (r_assign rfl) fun ac108 hf123 => ?_)
      refine seq_end ?_
      clear hf93 ac83 hf115 ac102 hf116 ac103 hf117 ac104 hf118 hf119 ac105 wd11 hI14 hf120 ac106 hf121 ac107 hf122
      refine then_normal ?_
      refine wp_ret ?_
      refine post1 rfl hf123 rfl ⟨?_, hI16.done (fresh_keys (ks := [b1, b2, b3, b4, b5]) rfl (fk_cons hb1 (fk_cons hb2 (fk_cons hb3 (fk_cons hb4 (fk_cons hb5 fk_nil))))))⟩
      rfl
end Go.Proofs.Ytjelaoblpchmmaa
