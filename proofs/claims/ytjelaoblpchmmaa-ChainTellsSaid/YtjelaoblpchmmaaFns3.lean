/-
  List of chain, and the law's own Ints: what each call comes to.
-/
import Derived.Test.YtjelaoblpchmmaaFns2
namespace Go.Proofs.Ytjelaoblpchmmaa
set_option linter.unusedVariables false
set_option linter.unusedSimpArgs false
set_option maxRecDepth 100000
open Go.RowKit
set_option maxHeartbeats 8000000 in
theorem list_in {N K : Nat} {lb ob mb cb : Nat} (hd : Nd lb ob mb cb) (c : Ch N K) {w : World} (h0_ : Has [(lb, arr .i64 c.lk, 103), (ob, arr .i64 c.of, 3), (mb, arr .i64 c.mn, 3), (cb, #[.slice (some ⟨lb, 0, none⟩) (N + K) (N + K), .slice (some ⟨ob, 0, none⟩) N N, .slice (some ⟨mb, 0, none⟩) K K], 79)] w) {k : Nat} (hk : k < K) : Calls Try.prog 28 [.pointer (some ⟨cb, 0, none⟩), .int .i64 (k : Int)].toArray w fun e w' => ∃ S p cap, e = .returned (.slice p (c.lst (k : Int)).length cap) ∧ Sl 3 .i64 S p cap (c.lst (k : Int)) ∧ Inv w S w' ∧ ∀ x ∈ S, w.heap.size ≤ x.1 := by
  have hI1 := Inv.startS h0_ hd.pw
  have hN := c.hN
  have hK := c.hK
  refine enter (n := 41) Try.func28 rfl rfl rfl ?_
  intro ac1 hf1
  refine code_seq ?_
  refine seq_start (l := [0]) rfl ?_
  refine seq_one (op_val (v := .slice none 0 0) hf1 rfl rfl rfl rfl rfl rfl (r_assign rfl) fun ac2 hf2 => ?_)
  refine seq_end ?_
  clear ac1 hf1
  refine then_normal ?_
  refine code_seq ?_
  refine seq_start (l := [0]) rfl ?_
  refine seq_one (op_val (v := .slice none 0 0) hf2 rfl rfl rfl rfl rfl rfl (r_assign rfl) fun ac3 hf3 => ?_)
  refine seq_end ?_
  clear ac2 hf2
  refine then_normal ?_
  refine code_seq ?_
  refine seq_start (l := [0, 1, 2, 3, 4, 5, 6, 7]) rfl ?_
  refine seq_one (op_val (v := .pointer (some ⟨cb, 0, none⟩)) hf3 rfl rfl rfl rfl rfl rfl (r_move rfl) fun ac4 hf4 => ?_)
  refine seq_one (op_val (v := .int .i64 (k : Int)) hf4 rfl rfl rfl rfl rfl rfl (r_move rfl) fun ac5 hf5 => ?_)
  refine seq_one (op_pureW hf5 rfl rfl rfl rfl ca_56 (ring_in (hI1.nd 0 rfl rfl rfl rfl) c (Has.cons (hI1.at 0 rfl) (Has.cons (hI1.at 1 rfl) (Has.cons (hI1.at 2 rfl) (Has.cons (hI1.at 3 rfl) Has.nil)))) hk) hI1 fun ac6 wd1 hI2 hf6 => ?_)
  refine seq_one (op_val (v := .tuple #[.int .i64 ((N + k : Nat) : Int), .bool true]) hf6 rfl rfl rfl rfl rfl rfl (r_move rfl) fun ac7 hf7 => ?_)
  refine seq_one (op_val (v := .int .i64 ((N + k : Nat) : Int)) hf7 rfl rfl rfl rfl rfl rfl (r_extract rfl rfl) fun ac8 hf8 => ?_)
  refine seq_one (op_val (v := .bool true) hf8 rfl rfl rfl rfl rfl rfl (r_extract rfl rfl) fun ac9 hf9 => ?_)
  refine seq_one (op_val (v := .int .i64 ((N + k : Nat) : Int)) hf9 rfl rfl rfl rfl rfl rfl (r_assign rfl) fun ac10 hf10 => ?_)
  refine seq_one (op_val (v := .bool true) hf10 rfl rfl rfl rfl rfl rfl (r_assign rfl) fun ac11 hf11 => ?_)
  refine seq_end ?_
  clear ac3 hf3 ac4 hf4 ac5 hI1 hf5 ac6 hf6 ac7 hf7 ac8 hf8 ac9 hf9 ac10 hf10
  refine then_normal ?_
  refine code_seq ?_
  refine code_seq ?_
  refine seq_start (l := [0, 1]) rfl ?_
  refine seq_one (op_val (v := .bool true) hf11 rfl rfl rfl rfl rfl rfl (r_move rfl) fun ac12 hf12 => ?_)
  refine seq_one (op_val (v := .bool false) hf12 rfl rfl rfl rfl rfl rfl ((r_not (b := true) rfl).trans rfl) fun ac13 hf13 => ?_)
  refine seq_end ?_
  clear ac11 hf11 ac12 hf12
  refine then_normal ?_
  refine code_if_false hf13 rfl ?_
  refine wp_skip ?_
  refine then_normal ?_
  refine code_seq ?_
  refine code_seq ?_
  refine seq_start (l := [0, 1, 2, 3, 4, 5, 6, 7, 8]) rfl ?_
  refine seq_one (op_val (v := .pointer (some ⟨cb, 0, none⟩)) hf13 rfl rfl rfl rfl rfl rfl (r_move rfl) fun ac14 hf14 => ?_)
  refine seq_one (op_val (v := .pointer (some ⟨cb, 0, none⟩)) hf14 rfl rfl rfl rfl rfl rfl (r_nilCheck rfl) fun ac15 hf15 => ?_)
  refine seq_one (op_val (v := .pointer (some ⟨cb, 0, none⟩)) hf15 rfl rfl rfl rfl rfl rfl (r_fieldAddr fi_79_0 rfl rfl) fun ac16 hf16 => ?_)
  refine seq_one (op_val (v := .slice (some ⟨lb, 0, none⟩) (N + K) (N + K)) hf16 rfl rfl rfl rfl rfl rfl (r_load ag_77 rfl (hI2.at 3 rfl) rfl) fun ac17 hf17 => ?_)
  refine seq_one (op_val (v := .int .i64 ((N + k : Nat) : Int)) hf17 rfl rfl rfl rfl rfl rfl (r_move rfl) fun ac18 hf18 => ?_)
  refine seq_one (op_val (v := .pointer (some ⟨lb, 2 * (N + k), none⟩)) hf18 rfl rfl rfl rfl rfl rfl (r_indexAddrS (i := (N + k)) sl_77 rfl rfl rfl (by omega) (by rw [Nat.zero_add, Nat.mul_comm])) fun ac19 hf19 => ?_)
  refine seq_one (op_val (v := .pointer (some ⟨lb, 2 * (N + k) + 1, none⟩)) hf19 rfl rfl rfl rfl rfl rfl (r_indexAddr (i := 1) ar_103 rfl rfl rfl (by decide) rfl) fun ac20 hf20 => ?_)
  refine seq_one (op_val (v := .int .i64 (c.lk.getD (2 * (N + k) + 1) 0)) hf20 rfl rfl rfl rfl rfl rfl (r_load ag_3 rfl (hI2.at 0 rfl) (arr_get (Nat.lt_of_lt_of_eq (by have := (show (N + k) < (N + K) from (by omega)); omega) (Eq.symm c.rep.l1)))) fun ac21 hf21 => ?_)
  refine seq_one (op_val (v := .int .i64 (c.lk.getD (2 * (N + k) + 1) 0)) hf21 rfl rfl rfl rfl rfl rfl (r_assign rfl) fun ac22 hf22 => ?_)
  refine seq_end ?_
  clear ac13 hf13 ac14 hf14 ac15 hf15 ac16 hf16 ac17 hf17 ac18 hf18 ac19 hf19 ac20 hf20 ac21 hf21
  refine then_normal ?_
  refine wp_block ?_
  refine code_loop (α := (List Int) × (List Nat) × (Option Addr) × Nat × (List Blk)) (fun (x : (List Int) × (List Nat) × (Option Addr) × Nat × (List Blk)) => match x with | (xs, post, p, cap, S) => [(0, .pointer (some ⟨cb, 0, none⟩)), (1, .int .i64 (k : Int)), (4, .slice none 0 0), (6, .int .i64 ((N + k : Nat) : Int)), (7, .bool true), (9, .tuple #[.int .i64 ((N + k : Nat) : Int), .bool true]), (10, .pointer (some ⟨cb, 0, none⟩)), (11, .int .i64 (k : Int)), (12, .tuple #[.int .i64 ((N + k : Nat) : Int), .bool true]), (13, .int .i64 ((N + k : Nat) : Int)), (14, .bool true), (15, .bool true), (16, .bool false), (17, .pointer (some ⟨cb, 0, none⟩)), (18, .pointer (some ⟨cb, 0, none⟩)), (19, .pointer (some ⟨cb, 0, none⟩)), (20, .slice (some ⟨lb, 0, none⟩) (N + K) (N + K)), (21, .int .i64 ((N + k : Nat) : Int)), (22, .pointer (some ⟨lb, 2 * (N + k), none⟩)), (23, .pointer (some ⟨lb, 2 * (N + k) + 1, none⟩)), (24, .int .i64 (c.lk.getD (2 * (N + k) + 1) 0)), (5, .slice p xs.length cap), (8, .int .i64 (((post ++ [N + k]).headD 0) : Int))]) (fun (x : (List Int) × (List Nat) × (Option Addr) × Nat × (List Blk)) => match x with | (xs, post, p, cap, S) => fun wL => Inv w ([(lb, arr .i64 c.lk, 103), (ob, arr .i64 c.of, 3), (mb, arr .i64 c.mn, 3), (cb, #[.slice (some ⟨lb, 0, none⟩) (N + K) (N + K), .slice (some ⟨ob, 0, none⟩) N N, .slice (some ⟨mb, 0, none⟩) K K], 79)] ++ S) wL ∧ (Sl 3 .i64 S p cap xs ∧ (∀ x ∈ S, w.heap.size ≤ x.1) ∧ Ch.ListI c k xs post)) (fun (x : (List Int) × (List Nat) × (Option Addr) × Nat × (List Blk)) => match x with | (xs, post, p, cap, S) => post.length) ([], (c.ls.getD k []), none, 0, []) (hf22.cons 0 rfl (hf22.cons 1 rfl (hf22.cons 4 rfl (hf22.cons 6 rfl (hf22.cons 7 rfl (hf22.cons 9 rfl (hf22.cons 10 rfl (hf22.cons 11 rfl (hf22.cons 12 rfl (hf22.cons 13 rfl (hf22.cons 14 rfl (hf22.cons 15 rfl (hf22.cons 16 rfl (hf22.cons 17 rfl (hf22.cons 18 rfl (hf22.cons 19 rfl (hf22.cons 20 rfl (hf22.cons 21 rfl (hf22.cons 22 rfl (hf22.cons 23 rfl (hf22.cons 24 rfl (hf22.cons 5 rfl (hf22.cons 8 (congrArg (fun z => some (Value.int .i64 z)) (Ch.fst_k c hk)) hf22.nil))))))))))))))))))))))) ⟨hI2, ⟨Sl.nil, (fun _ h => by cases h), Ch.list_0 c hk⟩⟩ ?_
  intro ⟨xs, post, p, cap, S⟩ ac23 wd2 hf23 hL1
  obtain ⟨hI3, hx1⟩ := hL1
  dsimp only at hf23 hI3 hx1
  clear ac22 wd1 hf22 hI2
  obtain ⟨hs1, hz1, ht1⟩ := hx1
  refine code_seq ?_
  refine code_seq ?_
  refine seq_start (l := [0, 1, 2]) rfl ?_
  refine seq_one (op_val (v := .int .i64 (((post ++ [N + k]).headD 0) : Int)) hf23 rfl rfl rfl rfl rfl rfl (r_move rfl) fun ac24 hf24 => ?_)
  refine seq_one (op_val (v := .int .i64 ((N + k : Nat) : Int)) hf24 rfl rfl rfl rfl rfl rfl (r_move rfl) fun ac25 hf25 => ?_)
  refine seq_one (op_val (v := .bool ((((post ++ [N + k]).headD 0) : Int) != ((N + k : Nat) : Int))) hf25 rfl rfl rfl rfl rfl rfl (r_neq rfl rfl) fun ac26 hf26 => ?_)
  refine seq_end ?_
  clear ac23 hf23 ac24 hf24 ac25 hf25
  refine then_normal ?_
  refine code_if hf26 rfl (fun c27_1 => ?_) (fun c27_1 => ?_)
  · have hf27 := hf26.know 27 (u := .bool true) rfl (congrArg Value.bool c27_1)
    refine wp_skip ?_
    refine then_normal ?_
    refine code_seq ?_
    refine wp_block ?_
    refine seq_start (l := [0, 1, 2, 3, 4]) rfl ?_
    refine seq_one (op_val (v := .slice p xs.length cap) hf27 rfl rfl rfl rfl rfl rfl (r_move rfl) fun ac27 hf28 => ?_)
    refine seq_one (op_val (v := .int .i64 (((post ++ [N + k]).headD 0) : Int)) hf28 rfl rfl rfl rfl rfl rfl (r_move rfl) fun ac28 hf29 => ?_)
    refine seq_one (op_bslice (s := 3) (cells := #[.int .i64 (((post ++ [N + k]).headD 0) : Int)]) hf29 rfl rfl rfl rfl rfl (fun _ => by kernel_rfl) hI3 fun ac29 b1 wd3 hb1 hI4 hf30 => ?_)
    have hI5 : Inv w ([(lb, arr .i64 c.lk, 103), (ob, arr .i64 c.of, 3), (mb, arr .i64 c.mn, 3), (cb, #[.slice (some ⟨lb, 0, none⟩) (N + K) (N + K), .slice (some ⟨ob, 0, none⟩) N N, .slice (some ⟨mb, 0, none⟩) K K], 79), (b1, #[.int .i64 (((post ++ [N + k]).headD 0) : Int)], 3)] ++ S) wd3 := Inv.tail (A := [(lb, arr .i64 c.lk, 103), (ob, arr .i64 c.of, 3), (mb, arr .i64 c.mn, 3), (cb, #[.slice (some ⟨lb, 0, none⟩) (N + K) (N + K), .slice (some ⟨ob, 0, none⟩) N N, .slice (some ⟨mb, 0, none⟩) K K], 79)]) (T := S) (N := [(b1, #[.int .i64 (((post ++ [N + k]).headD 0) : Int)], 3)]) hI4
    refine seq_one (op_append1 (A := [(lb, arr .i64 c.lk, 103), (ob, arr .i64 c.of, 3), (mb, arr .i64 c.mn, 3), (cb, #[.slice (some ⟨lb, 0, none⟩) (N + K) (N + K), .slice (some ⟨ob, 0, none⟩) N N, .slice (some ⟨mb, 0, none⟩) K K], 79), (b1, #[.int .i64 (((post ++ [N + k]).headD 0) : Int)], 3)]) (S := S) hf30 rfl rfl rfl us_27 if_3 rfl hs1 rfl hI5 hz1 (List.mem_of_getElem? (i := 4) rfl) rfl (by have := Ch.list_b c hk ht1; simp only [maxLen]; omega) (by have := Ch.list_b c hk ht1; omega) fun ac30 p2 capp2 Sp2 wd4 hsp2 hzp2 hI6 hf31 => ?_)
    refine seq_one (op_val (v := .slice p2 ((xs ++ [(((post ++ [N + k]).headD 0) : Int)]).length) capp2) hf31 rfl rfl rfl rfl rfl rfl (r_assign rfl) fun ac31 hf32 => ?_)
    refine seq_end ?_
    clear hf26 ac26 hf27 ac27 hf28 ac28 wd2 hI3 hf29 hI4 ac29 wd3 hI5 hf30 ac30 hf31
    refine block_normal ?_
    refine then_normal ?_
    refine seq_start (l := [0, 1, 2, 3, 4, 5, 6, 7, 8]) rfl ?_
    refine seq_one (op_val (v := .pointer (some ⟨cb, 0, none⟩)) hf32 rfl rfl rfl rfl rfl rfl (r_move rfl) fun ac32 hf33 => ?_)
    refine seq_one (op_val (v := .pointer (some ⟨cb, 0, none⟩)) hf33 rfl rfl rfl rfl rfl rfl (r_nilCheck rfl) fun ac33 hf34 => ?_)
    refine seq_one (op_val (v := .pointer (some ⟨cb, 0, none⟩)) hf34 rfl rfl rfl rfl rfl rfl (r_fieldAddr fi_79_0 rfl rfl) fun ac34 hf35 => ?_)
    refine seq_one (op_val (v := .slice (some ⟨lb, 0, none⟩) (N + K) (N + K)) hf35 rfl rfl rfl rfl rfl rfl (r_load ag_77 rfl (hI6.at 3 rfl) rfl) fun ac35 hf36 => ?_)
    refine seq_one (op_val (v := .int .i64 (((post ++ [N + k]).headD 0) : Int)) hf36 rfl rfl rfl rfl rfl rfl (r_move rfl) fun ac36 hf37 => ?_)
    refine seq_one (op_val (v := .pointer (some ⟨lb, 2 * ((post ++ [N + k]).headD 0), none⟩)) hf37 rfl rfl rfl rfl rfl rfl (r_indexAddrS (i := ((post ++ [N + k]).headD 0)) sl_77 rfl rfl rfl (Ch.list_lt c hk ht1) (by rw [Nat.zero_add, Nat.mul_comm])) fun ac37 hf38 => ?_)
    refine seq_one (op_val (v := .pointer (some ⟨lb, 2 * ((post ++ [N + k]).headD 0) + 1, none⟩)) hf38 rfl rfl rfl rfl rfl rfl (r_indexAddr (i := 1) ar_103 rfl rfl rfl (by decide) rfl) fun ac38 hf39 => ?_)
    refine seq_one (op_val (v := .int .i64 (c.lk.getD (2 * ((post ++ [N + k]).headD 0) + 1) 0)) hf39 rfl rfl rfl rfl rfl rfl (r_load ag_3 rfl (hI6.at 0 rfl) (arr_get (Nat.lt_of_lt_of_eq (by have := (show ((post ++ [N + k]).headD 0) < (N + K) from (Ch.list_lt c hk ht1)); omega) (Eq.symm c.rep.l1)))) fun ac39 hf40 => ?_)
    refine seq_one (op_val (v := .int .i64 (c.lk.getD (2 * ((post ++ [N + k]).headD 0) + 1) 0)) hf40 rfl rfl rfl rfl rfl rfl (r_assign rfl) fun ac40 hf41 => ?_)
    refine seq_end ?_
    clear ac31 hf32 ac32 hf33 ac33 hf34 ac34 hf35 ac35 hf36 ac36 hf37 ac37 hf38 ac38 hf39 ac39 hf40
    refine then_normal ?_
    exact ⟨((xs ++ [(((post ++ [N + k]).headD 0) : Int)]), post.tail, p2, capp2, Sp2), (hf41.cons 0 rfl (hf41.cons 1 rfl (hf41.cons 4 rfl (hf41.cons 6 rfl (hf41.cons 7 rfl (hf41.cons 9 rfl (hf41.cons 10 rfl (hf41.cons 11 rfl (hf41.cons 12 rfl (hf41.cons 13 rfl (hf41.cons 14 rfl (hf41.cons 15 rfl (hf41.cons 16 rfl (hf41.cons 17 rfl (hf41.cons 18 rfl (hf41.cons 19 rfl (hf41.cons 20 rfl (hf41.cons 21 rfl (hf41.cons 22 rfl (hf41.cons 23 rfl (hf41.cons 24 rfl (hf41.cons 5 rfl (hf41.cons 8 (congrArg (fun z => some (Value.int .i64 z)) (Ch.list_n c hk ht1 (bne_iff_ne.1 c27_1))) hf41.nil))))))))))))))))))))))), ⟨(Inv.keep (A := [(lb, arr .i64 c.lk, 103), (ob, arr .i64 c.of, 3), (mb, arr .i64 c.mn, 3), (cb, #[.slice (some ⟨lb, 0, none⟩) (N + K) (N + K), .slice (some ⟨ob, 0, none⟩) N N, .slice (some ⟨mb, 0, none⟩) K K], 79)]) (N := [(b1, #[.int .i64 (((post ++ [N + k]).headD 0) : Int)], 3)]) (T := Sp2) hI6 (fresh_keys (ks := [b1]) rfl (fk_cons hb1 fk_nil))), ⟨hsp2, hzp2, Ch.list_s c hk ht1 (bne_iff_ne.1 c27_1)⟩⟩, (Ch.list_m c hk ht1 (bne_iff_ne.1 c27_1))⟩
  · have hf42 := hf26.know 27 (u := .bool false) rfl (congrArg Value.bool c27_1)
    refine wp_exit ?_
    refine then_exit ?_
    refine then_exit ?_
    refine block_here ?_
    refine then_normal ?_
    refine code_seq ?_
    refine seq_start (l := [0, 1]) rfl ?_
    refine seq_one (op_val (v := .slice p xs.length cap) hf42 rfl rfl rfl rfl rfl rfl (r_move rfl) fun ac41 hf43 => ?_)
    refine seq_one (op_val (v := .slice p xs.length cap) hf43 rfl rfl rfl rfl rfl rfl (r_assign rfl) fun ac42 hf44 => ?_)
    refine seq_end ?_
    clear hf26 ac26 hf42 ac41 hf43
    refine then_normal ?_
    refine wp_ret ?_
    have he := Ch.list_e c hk ht1 (bne_eq_false_iff_eq.1 c27_1)
    subst he
    exact post1 rfl hf44 rfl ⟨S, p, cap, rfl, hs1, Inv.unreadA (A := [(lb, arr .i64 c.lk, 103), (ob, arr .i64 c.of, 3), (mb, arr .i64 c.mn, 3), (cb, #[.slice (some ⟨lb, 0, none⟩) (N + K) (N + K), .slice (some ⟨ob, 0, none⟩) N N, .slice (some ⟨mb, 0, none⟩) K K], 79)]) (B := S) hI3 h0_, hz1⟩
set_option maxHeartbeats 8000000 in
theorem list_out {N K : Nat} {lb ob mb cb : Nat} (hd : Nd lb ob mb cb) (c : Ch N K) {w : World} (h0_ : Has [(lb, arr .i64 c.lk, 103), (ob, arr .i64 c.of, 3), (mb, arr .i64 c.mn, 3), (cb, #[.slice (some ⟨lb, 0, none⟩) (N + K) (N + K), .slice (some ⟨ob, 0, none⟩) N N, .slice (some ⟨mb, 0, none⟩) K K], 79)] w) {l : Int} (hl : ¬ (0 ≤ l ∧ l < (K : Int))) : Calls Try.prog 28 [.pointer (some ⟨cb, 0, none⟩), .int .i64 l].toArray w fun e w' => ∃ S p cap, e = .returned (.slice p (c.lst l).length cap) ∧ Sl 3 .i64 S p cap (c.lst l) ∧ Inv w S w' ∧ ∀ x ∈ S, w.heap.size ≤ x.1 := by
  have hI1 := Inv.startS h0_ hd.pw
  refine enter (n := 41) Try.func28 rfl rfl rfl ?_
  intro ac1 hf1
  refine code_seq ?_
  refine seq_start (l := [0]) rfl ?_
  refine seq_one (op_val (v := .slice none 0 0) hf1 rfl rfl rfl rfl rfl rfl (r_assign rfl) fun ac2 hf2 => ?_)
  refine seq_end ?_
  clear ac1 hf1
  refine then_normal ?_
  refine code_seq ?_
  refine seq_start (l := [0]) rfl ?_
  refine seq_one (op_val (v := .slice none 0 0) hf2 rfl rfl rfl rfl rfl rfl (r_assign rfl) fun ac3 hf3 => ?_)
  refine seq_end ?_
  clear ac2 hf2
  refine then_normal ?_
  refine code_seq ?_
  refine seq_start (l := [0, 1, 2, 3, 4, 5, 6, 7]) rfl ?_
  refine seq_one (op_val (v := .pointer (some ⟨cb, 0, none⟩)) hf3 rfl rfl rfl rfl rfl rfl (r_move rfl) fun ac4 hf4 => ?_)
  refine seq_one (op_val (v := .int .i64 l) hf4 rfl rfl rfl rfl rfl rfl (r_move rfl) fun ac5 hf5 => ?_)
  refine seq_one (op_pureW hf5 rfl rfl rfl rfl ca_56 (ring_out (hI1.nd 0 rfl rfl rfl rfl) c (Has.cons (hI1.at 0 rfl) (Has.cons (hI1.at 1 rfl) (Has.cons (hI1.at 2 rfl) (Has.cons (hI1.at 3 rfl) Has.nil)))) hl) hI1 fun ac6 wd1 hI2 hf6 => ?_)
  refine seq_one (op_val (v := .tuple #[.int .i64 0, .bool false]) hf6 rfl rfl rfl rfl rfl rfl (r_move rfl) fun ac7 hf7 => ?_)
  refine seq_one (op_val (v := .int .i64 0) hf7 rfl rfl rfl rfl rfl rfl (r_extract rfl rfl) fun ac8 hf8 => ?_)
  refine seq_one (op_val (v := .bool false) hf8 rfl rfl rfl rfl rfl rfl (r_extract rfl rfl) fun ac9 hf9 => ?_)
  refine seq_one (op_val (v := .int .i64 0) hf9 rfl rfl rfl rfl rfl rfl (r_assign rfl) fun ac10 hf10 => ?_)
  refine seq_one (op_val (v := .bool false) hf10 rfl rfl rfl rfl rfl rfl (r_assign rfl) fun ac11 hf11 => ?_)
  refine seq_end ?_
  clear ac3 hf3 ac4 hf4 ac5 hI1 hf5 ac6 hf6 ac7 hf7 ac8 hf8 ac9 hf9 ac10 hf10
  refine then_normal ?_
  refine code_seq ?_
  refine code_seq ?_
  refine seq_start (l := [0, 1]) rfl ?_
  refine seq_one (op_val (v := .bool false) hf11 rfl rfl rfl rfl rfl rfl (r_move rfl) fun ac12 hf12 => ?_)
  refine seq_one (op_val (v := .bool true) hf12 rfl rfl rfl rfl rfl rfl ((r_not (b := false) rfl).trans rfl) fun ac13 hf13 => ?_)
  refine seq_end ?_
  clear ac11 hf11 ac12 hf12
  refine then_normal ?_
  refine code_if_true hf13 rfl ?_
  refine code_seq ?_
  refine seq_start (l := [0]) rfl ?_
  refine seq_one (op_val (v := .slice none 0 0) hf13 rfl rfl rfl rfl rfl rfl (r_assign rfl) fun ac14 hf14 => ?_)
  refine seq_end ?_
  clear ac13 hf13
  refine then_normal ?_
  refine wp_ret ?_
  refine then_ret ?_
  exact post1 rfl hf14 rfl ⟨[], none, 0, by rw [Ch.lst_out hl]; rfl, by rw [Ch.lst_out hl]; exact Sl.nil, hI2.unread h0_, fun _ h => by cases h⟩
theorem list_any {N K : Nat} {lb ob mb cb : Nat} (hd : Nd lb ob mb cb) (c : Ch N K) {w : World} (h0_ : Has [(lb, arr .i64 c.lk, 103), (ob, arr .i64 c.of, 3), (mb, arr .i64 c.mn, 3), (cb, #[.slice (some ⟨lb, 0, none⟩) (N + K) (N + K), .slice (some ⟨ob, 0, none⟩) N N, .slice (some ⟨mb, 0, none⟩) K K], 79)] w) (l : Int) : Calls Try.prog 28 [.pointer (some ⟨cb, 0, none⟩), .int .i64 l].toArray w fun e w' => ∃ S p cap, e = .returned (.slice p (c.lst l).length cap) ∧ Sl 3 .i64 S p cap (c.lst l) ∧ Inv w S w' ∧ ∀ x ∈ S, w.heap.size ≤ x.1 := by
  by_cases hl : 0 ≤ l ∧ l < (K : Int)
  · obtain ⟨x, rfl⟩ := Int.eq_ofNat_of_zero_le hl.1
    exact list_in hd c h0_ (by omega)
  · exact list_out hd c h0_ hl
set_option maxHeartbeats 8000000 in
theorem ints_walk {p q : Option Addr} {cap caq n m : Nat} {xs ys : List Int} (hl : xs.length = n) (hm : ys.length = m) (hlx : n ≤ 1000000) {w : World} (hp : Rd w .i64 p xs) (hq : Rd w .i64 q ys) : Calls Try.prog 19 [.slice p n cap, .slice q m caq].toArray w fun e w' => e = .returned (.bool (xs == ys)) ∧ Inv w [] w' := by
  subst hl
  subst hm
  have hI1 := Inv.start w
  refine enter (n := 26) Try.func19 rfl rfl rfl ?_
  intro ac1 hf1
  refine code_seq ?_
  refine seq_start (l := [0]) rfl ?_
  refine seq_one (op_val (v := .bool false) hf1 rfl rfl rfl rfl rfl rfl (r_assign rfl) fun ac2 hf2 => ?_)
  refine seq_end ?_
  clear ac1 hf1
  refine then_normal ?_
  refine code_seq ?_
  refine code_seq ?_
  refine seq_start (l := [0, 1, 2, 3, 4]) rfl ?_
  refine seq_one (op_val (v := .slice p xs.length cap) hf2 rfl rfl rfl rfl rfl rfl (r_move rfl) fun ac3 hf3 => ?_)
  refine seq_one (op_val (v := .int .i64 (xs.length : Int)) hf3 rfl rfl rfl rfl rfl rfl (r_len sl_27 rfl) fun ac4 hf4 => ?_)
  refine seq_one (op_val (v := .slice q ys.length caq) hf4 rfl rfl rfl rfl rfl rfl (r_move rfl) fun ac5 hf5 => ?_)
  refine seq_one (op_val (v := .int .i64 (ys.length : Int)) hf5 rfl rfl rfl rfl rfl rfl (r_len sl_27 rfl) fun ac6 hf6 => ?_)
  refine seq_one (op_val (v := .bool ((xs.length : Int) != (ys.length : Int))) hf6 rfl rfl rfl rfl rfl rfl (r_neq rfl rfl) fun ac7 hf7 => ?_)
  refine seq_end ?_
  clear ac2 hf2 ac3 hf3 ac4 hf4 ac5 hf5 ac6 hf6
  refine then_normal ?_
  refine code_if hf7 rfl (fun c10_1 => ?_) (fun c10_1 => ?_)
  · have hf8 := hf7.know 10 (u := .bool true) rfl (congrArg Value.bool c10_1)
    refine code_seq ?_
    refine seq_start (l := [0]) rfl ?_
    refine seq_one (op_val (v := .bool false) hf8 rfl rfl rfl rfl rfl rfl (r_assign rfl) fun ac8 hf9 => ?_)
    refine seq_end ?_
    clear hf7 ac7 hf8
    refine then_normal ?_
    refine wp_ret ?_
    refine then_ret ?_
    refine post1 rfl hf9 rfl ⟨?_, hI1⟩
    rw [same_n (bne_iff_ne.1 c10_1)]
  · have hf10 := hf7.know 10 (u := .bool false) rfl (congrArg Value.bool c10_1)
    refine wp_skip ?_
    refine then_normal ?_
    refine code_seq ?_
    refine code_seq ?_
    refine seq_start (l := [0, 1, 2]) rfl ?_
    refine seq_one (op_val (v := .slice p xs.length cap) hf10 rfl rfl rfl rfl rfl rfl (r_move rfl) fun ac9 hf11 => ?_)
    refine seq_one (op_val (v := .int .i64 (xs.length : Int)) hf11 rfl rfl rfl rfl rfl rfl (r_len sl_27 rfl) fun ac10 hf12 => ?_)
    refine seq_one (op_val (v := .int .i64 0) hf12 rfl rfl rfl rfl rfl rfl (r_move rfl) fun ac11 hf13 => ?_)
    refine seq_end ?_
    clear hf7 ac7 hf10 ac9 hf11 ac10 hf12
    refine then_normal ?_
    refine wp_block ?_
    refine code_loop (α := Nat) (fun (i : Nat) => [(0, .slice p xs.length cap), (1, .slice q ys.length caq), (6, .slice p xs.length cap), (7, .int .i64 (xs.length : Int)), (8, .slice q ys.length caq), (9, .int .i64 (ys.length : Int)), (10, .bool false), (11, .slice p xs.length cap), (12, .int .i64 (xs.length : Int)), (13, .int .i64 (i : Int))]) (fun (i : Nat) => fun wL => Inv w [] wL ∧ (i ≤ xs.length ∧ xs.take i = ys.take i)) (fun (i : Nat) => xs.length - i) 0 (hf13.cons 0 rfl (hf13.cons 1 rfl (hf13.cons 6 rfl (hf13.cons 7 rfl (hf13.cons 8 rfl (hf13.cons 9 rfl (hf13.cons 10 rfl (hf13.cons 11 rfl (hf13.cons 12 rfl (hf13.cons 13 rfl hf13.nil)))))))))) ⟨hI1, ⟨Nat.zero_le _, rfl⟩⟩ ?_
    intro i ac12 wd1 hf14 hL1
    obtain ⟨hI2, hx1⟩ := hL1
    clear ac11 hf13 hI1
    have hn : xs.length = ys.length := by have := bne_eq_false_iff_eq.1 c10_1; omega
    refine code_seq ?_
    refine seq_start (l := [0]) rfl ?_
    refine seq_one (op_val (v := .bool (decide ((i : Int) < (xs.length : Int)))) hf14 rfl rfl rfl rfl rfl rfl (r_lss rfl rfl) fun ac13 hf15 => ?_)
    refine seq_end ?_
    clear ac12 hf14
    refine then_normal ?_
    refine code_seq ?_
    refine code_if hf15 rfl (fun c14_2 => ?_) (fun c14_2 => ?_)
    · have hf16 := hf15.know 14 (u := .bool true) rfl (congrArg Value.bool c14_2)
      refine wp_skip ?_
      refine then_normal ?_
      refine code_seq ?_
      refine wp_block ?_
      refine code_seq ?_
      refine seq_start (l := [0, 1]) rfl ?_
      refine seq_one (op_val (v := .int .i64 (i : Int)) hf16 rfl rfl rfl rfl rfl rfl (r_move rfl) fun ac14 hf17 => ?_)
      refine seq_one (op_val (v := .int .i64 (i : Int)) hf17 rfl rfl rfl rfl rfl rfl (r_assign rfl) fun ac15 hf18 => ?_)
      refine seq_end ?_
      clear hf15 ac13 hf16 ac14 hf17
      refine then_normal ?_
      refine code_seq ?_
      have hrd1_0 := (hp.old hI2 (fun _ h => by cases h))
      have hrd1_1 := (hq.old hI2 (fun _ h => by cases h))
      refine any_start (fun w => Has [] w ∧ Rd w .i64 p xs ∧ Rd w .i64 q ys) follows ⟨Has.drew (hI2.has0), hrd1_0, hrd1_1⟩ ?_
      have hS1 : Has [] _ ∧ Rd _ .i64 p xs ∧ Rd _ .i64 q ys := ⟨Has.drew (hI2.has0), hrd1_0, hrd1_1⟩
      have hI3 := hI2.drew
      refine any_val (i := 0) (v := .slice p xs.length cap) hf18 rfl rfl rfl rfl rfl rfl (fun _ _ _ h => h) (by kernel_rfl) (by kernel_rfl) (by kernel_rfl) (fun wd1 hS1 => (r_move rfl)) hS1 fun ac16 hf19 => ?_
      refine any_val (i := 1) (v := .int .i64 (i : Int)) hf19 rfl rfl rfl rfl rfl rfl (fun _ _ _ h => h) (by kernel_rfl) (by kernel_rfl) (by kernel_rfl) (fun wd1 hS1 => (r_move rfl)) hS1 fun ac17 hf20 => ?_
      refine any_val (i := 2) (v := .pointer (slAt p i)) hf20 rfl rfl rfl rfl rfl rfl (fun _ _ _ h => h) (by kernel_rfl) (by kernel_rfl) (by kernel_rfl) (fun wd1 hS1 => (r_indexAddrV (i := i) sl_27 rfl rfl rfl (by have := of_decide_eq_true c14_2; omega) (let r := (hp.old hI3 (fun _ h => by cases h)) i (by have := of_decide_eq_true c14_2; omega); ⟨r.choose, r.choose_spec.1⟩))) hS1 fun ac18 hf21 => ?_
      refine any_val (i := 3) (v := .int .i64 (xs.getD i 0)) hf21 rfl rfl rfl rfl rfl rfl (fun _ _ _ h => h) (by kernel_rfl) (by kernel_rfl) (by kernel_rfl) (fun wd1 hS1 => (r_loadV ag_3 rfl hS1.2.1 (by have := of_decide_eq_true c14_2; omega))) hS1 fun ac19 hf22 => ?_
      refine any_val (i := 4) (v := .slice q ys.length caq) hf22 rfl rfl rfl rfl rfl rfl (fun _ _ _ h => h) (by kernel_rfl) (by kernel_rfl) (by kernel_rfl) (fun wd1 hS1 => (r_move rfl)) hS1 fun ac20 hf23 => ?_
      refine any_val (i := 5) (v := .int .i64 (i : Int)) hf23 rfl rfl rfl rfl rfl rfl (fun _ _ _ h => h) (by kernel_rfl) (by kernel_rfl) (by kernel_rfl) (fun wd1 hS1 => (r_move rfl)) hS1 fun ac21 hf24 => ?_
      refine any_val (i := 6) (v := .pointer (slAt q i)) hf24 rfl rfl rfl rfl rfl rfl (fun _ _ _ h => h) (by kernel_rfl) (by kernel_rfl) (by kernel_rfl) (fun wd1 hS1 => (r_indexAddrV (i := i) sl_27 rfl rfl rfl (by have := of_decide_eq_true c14_2; omega) (let r := (hq.old hI3 (fun _ h => by cases h)) i (by have := of_decide_eq_true c14_2; omega); ⟨r.choose, r.choose_spec.1⟩))) hS1 fun ac22 hf25 => ?_
      refine any_val (i := 7) (v := .int .i64 (ys.getD i 0)) hf25 rfl rfl rfl rfl rfl rfl (fun _ _ _ h => h) (by kernel_rfl) (by kernel_rfl) (by kernel_rfl) (fun wd1 hS1 => (r_loadV ag_3 rfl hS1.2.2 (by have := of_decide_eq_true c14_2; omega))) hS1 fun ac23 hf26 => ?_
      refine any_val (i := 8) (v := .bool ((xs.getD i 0) != (ys.getD i 0))) hf26 rfl rfl rfl rfl rfl rfl (fun _ _ _ h => h) (by kernel_rfl) (by kernel_rfl) (by kernel_rfl) (fun wd1 hS1 => (r_neq rfl rfl)) hS1 fun ac24 hf27 => ?_
      refine any_end (by kernel_rfl) ?_
      clear hrd1_0 hrd1_1 hI2 ac15 hf18 ac16 hf19 ac17 hf20 ac18 hf21 ac19 hf22 ac20 hf23 ac21 hf24 ac22 hf25 ac23 hf26 hS1
      refine then_normal ?_
      refine code_if hf27 rfl (fun c24_3 => ?_) (fun c24_3 => ?_)
      · have hf28 := hf27.know 24 (u := .bool true) rfl (congrArg Value.bool c24_3)
        refine code_seq ?_
        refine seq_start (l := [0]) rfl ?_
        refine seq_one (op_val (v := .bool false) hf28 rfl rfl rfl rfl rfl rfl (r_assign rfl) fun ac25 hf29 => ?_)
        refine seq_end ?_
        clear hf27 ac24 hf28
        refine then_normal ?_
        refine wp_ret ?_
        refine block_ret ?_
        refine then_ret ?_
        refine then_ret ?_
        refine block_ret ?_
        refine then_ret ?_
        refine post1 rfl hf29 rfl ⟨?_, hI3⟩
        rw [same_f (by have := of_decide_eq_true c14_2; omega) (bne_iff_ne.1 c24_3)]
      · have hf30 := hf27.know 24 (u := .bool false) rfl (congrArg Value.bool c24_3)
        refine wp_skip ?_
        refine block_normal ?_
        refine then_normal ?_
        refine seq_start (l := [0, 1]) rfl ?_
        refine seq_one (op_val (v := .int .i64 ((i + 1 : Nat) : Int)) hf30 rfl rfl rfl rfl rfl rfl (r_add (c := ((i + 1 : Nat) : Int)) rfl rfl (wrap_i64 (by omega) (by have := hx1.1; have := hlx; omega))) fun ac26 hf31 => ?_)
        refine seq_one (op_val (v := .int .i64 ((i + 1 : Nat) : Int)) hf31 rfl rfl rfl rfl rfl rfl (r_move rfl) fun ac27 hf32 => ?_)
        refine seq_end ?_
        clear hf27 ac24 hf30 ac26 hf31
        refine then_normal ?_
        exact ⟨i + 1, (hf32.cons 0 rfl (hf32.cons 1 rfl (hf32.cons 6 rfl (hf32.cons 7 rfl (hf32.cons 8 rfl (hf32.cons 9 rfl (hf32.cons 10 rfl (hf32.cons 11 rfl (hf32.cons 12 rfl (hf32.cons 13 rfl hf32.nil)))))))))), ⟨hI3, ⟨by have := of_decide_eq_true c14_2; omega, same_s hx1.2 (bne_eq_false_iff_eq.1 c24_3) (by have := of_decide_eq_true c14_2; omega) (by have := of_decide_eq_true c14_2; omega)⟩⟩, (by have := of_decide_eq_true c14_2; show xs.length - (i + 1) < xs.length - i; omega)⟩
    · have hf33 := hf15.know 14 (u := .bool false) rfl (congrArg Value.bool c14_2)
      refine wp_exit ?_
      refine then_exit ?_
      refine then_exit ?_
      refine block_here ?_
      refine then_normal ?_
      refine code_seq ?_
      refine seq_start (l := [0]) rfl ?_
      refine seq_one (op_val (v := .bool true) hf33 rfl rfl rfl rfl rfl rfl (r_assign rfl) fun ac28 hf34 => ?_)
      refine seq_end ?_
      clear hf15 ac13 hf33
      refine then_normal ?_
      refine wp_ret ?_
      refine post1 rfl hf34 rfl ⟨?_, hI2⟩
      rw [same_t (hx1.2) (by have := of_decide_eq_false c14_2; omega) hn]
end Go.Proofs.Ytjelaoblpchmmaa
