/-
  The walk of LimitsMost: it comes to true.
-/
import Derived.Test.YtnajiccihfdggaaLaws
import Derived.Test.YtnajiccihfdggaaPlain
namespace Go.Proofs.Ytnajiccihfdggaa
set_option linter.unusedVariables false
set_option linter.unusedSimpArgs false
set_option maxRecDepth 100000
open Go.RowKit
theorem with1_pur (i : Int) (i0 : 0 ≤ i) (i1 : i ≤ 300) : Pur Try.prog 12 [.agg #[.int .i64 i, .int .i64 i, .int .i64 i], .int .i64 1] (.agg #[.int .i64 (i + 1), .int .i64 (i + 1), .int .i64 (i + 1)]) := by
  have h := with_pur i i i 1 (by omega) (by omega) (by omega) (by omega) (by omega) (by omega) (by decide) (by decide)
  have e : moreF i 1 = i + 1 := by unfold moreF; (repeat' split) <;> omega
  rw [e] at h; exact h
set_option maxHeartbeats 8000000 in
theorem limitsMost_pur (x y z r b f : Int) (hx : x.tmod 301 = r) (hy : y.tmod 301 = b) (hz : z.tmod 301 = f) (rp : 0 ≤ r) (rq : r ≤ 300) (bp : 0 ≤ b) (bq : b ≤ 300) (fp : 0 ≤ f) (fq : f ≤ 300) : Pur Try.prog 6 [.int .u16 x, .int .u16 y, .int .u16 z] (.bool true) := by
  intro w
  have hI1 := Inv.start w
  refine enter (n := 70) Try.func6 rfl rfl rfl ?_
  intro ac1 hf1
  refine code_seq ?_
  refine seq_start (l := [0]) rfl ?_
  refine seq_one (op_val (v := .bool false) hf1 rfl rfl rfl rfl rfl rfl (r_assign rfl) fun ac2 hf2 => ?_)
  refine seq_end ?_
  clear ac1 hf1
  refine then_normal ?_
  refine code_seq ?_
  refine seq_start (l := [0, 1, 2, 3, 4, 5, 6, 7, 8, 9, 10, 11]) rfl ?_
  refine seq_one (op_val (v := .int .u16 x) hf2 rfl rfl rfl rfl rfl rfl (r_move rfl) fun ac3 hf3 => ?_)
  refine seq_one (op_val (v := .int .u16 r) hf3 rfl rfl rfl rfl rfl rfl (r_rem (c := r) rfl rfl (by omega) hx) fun ac4 hf4 => ?_)
  refine seq_one (op_val (v := .int .i64 r) hf4 rfl rfl rfl rfl rfl rfl (r_conv (c := r) ui_40 ui_3 rfl (wrap_i64 (Int.le_trans (by decide) rp) (Int.le_trans rq (by decide)))) fun ac5 hf5 => ?_)
  refine seq_one (op_val (v := .int .u16 y) hf5 rfl rfl rfl rfl rfl rfl (r_move rfl) fun ac6 hf6 => ?_)
  refine seq_one (op_val (v := .int .u16 b) hf6 rfl rfl rfl rfl rfl rfl (r_rem (c := b) rfl rfl (by omega) hy) fun ac7 hf7 => ?_)
  refine seq_one (op_val (v := .int .i64 b) hf7 rfl rfl rfl rfl rfl rfl (r_conv (c := b) ui_40 ui_3 rfl (wrap_i64 (Int.le_trans (by decide) bp) (Int.le_trans bq (by decide)))) fun ac8 hf8 => ?_)
  refine seq_one (op_val (v := .int .u16 z) hf8 rfl rfl rfl rfl rfl rfl (r_move rfl) fun ac9 hf9 => ?_)
  refine seq_one (op_val (v := .int .u16 f) hf9 rfl rfl rfl rfl rfl rfl (r_rem (c := f) rfl rfl (by omega) hz) fun ac10 hf10 => ?_)
  refine seq_one (op_val (v := .int .i64 f) hf10 rfl rfl rfl rfl rfl rfl (r_conv (c := f) ui_40 ui_3 rfl (wrap_i64 (Int.le_trans (by decide) fp) (Int.le_trans fq (by decide)))) fun ac11 hf11 => ?_)
  refine seq_one (op_pure hf11 rfl rfl rfl rfl ca_17 (conf_pur r b f) hI1 fun ac12 wd1 hI2 hf12 => ?_)
  refine seq_one (op_alloc hf12 rfl rfl rfl ze_28 hI2 fun ac13 b1 wd2 hb1 hI3 hf13 => ?_)
  have hI4 : Inv w [(b1, #[.int .i64 0, .int .i64 0, .int .i64 0, .int .i64 0, .int .i64 0, .int .i64 0, .int .i64 0, .int .u64 0, .int .u64 0, .int .u64 0, .int .i64 0, .int .i64 0, .int .i64 0, .int .u8 0, .int .u8 0, .int .u8 0, .int .u8 0, .int .u8 0, .int .u8 0, .int .u8 0, .int .u8 0, .int .u8 0, .int .u8 0, .int .u8 0, .int .u8 0, .int .u8 0, .int .u8 0, .int .u8 0, .int .u8 0, .int .u64 0, .bool false, .int .u64 0, .int .i64 0, .int .u64 0, .int .i64 0, .int .i64 0, .int .i64 0], 28)] wd2 := hI3
  refine seq_one (op_storeW (cells := #[.int .i64 r, .int .i64 0, .int .i64 0, .int .i64 f, .int .i64 b, .int .i64 0, .int .i64 0, .int .u64 0, .int .u64 0, .int .u64 0, .int .i64 0, .int .i64 0, .int .i64 0, .int .u8 0, .int .u8 0, .int .u8 0, .int .u8 0, .int .u8 0, .int .u8 0, .int .u8 0, .int .u8 0, .int .u8 0, .int .u8 0, .int .u8 0, .int .u8 0, .int .u8 0, .int .u8 0, .int .u8 0, .int .u8 0, .int .u64 0, .bool false, .int .u64 0, .int .i64 0, .int .u64 0, .int .i64 0, .int .i64 0, .int .i64 0]) 0 hf13 rfl rfl rfl rfl rfl sz_28 rfl rfl hI4 rfl rfl fun wd3 hI5 => ?_)
  have hI6 : Inv w [(b1, #[.int .i64 r, .int .i64 0, .int .i64 0, .int .i64 f, .int .i64 b, .int .i64 0, .int .i64 0, .int .u64 0, .int .u64 0, .int .u64 0, .int .i64 0, .int .i64 0, .int .i64 0, .int .u8 0, .int .u8 0, .int .u8 0, .int .u8 0, .int .u8 0, .int .u8 0, .int .u8 0, .int .u8 0, .int .u8 0, .int .u8 0, .int .u8 0, .int .u8 0, .int .u8 0, .int .u8 0, .int .u8 0, .int .u8 0, .int .u64 0, .bool false, .int .u64 0, .int .i64 0, .int .u64 0, .int .i64 0, .int .i64 0, .int .i64 0], 28)] wd3 := hI5
  refine seq_end ?_
  clear ac2 hf2 ac3 hf3 ac4 hf4 ac5 hf5 ac6 hf6 ac7 hf7 ac8 hf8 ac9 hf9 ac10 hf10 ac11 hI1 hf11 ac12 wd1 hI2 hf12 hI3 wd2 hI4 hI5
  refine then_normal ?_
  refine code_seq ?_
  refine seq_start (l := [0, 1, 2]) rfl ?_
  refine seq_one (op_val (v := .agg #[.int .i64 r, .int .i64 0, .int .i64 0, .int .i64 f, .int .i64 b, .int .i64 0, .int .i64 0, .int .u64 0, .int .u64 0, .int .u64 0, .int .i64 0, .int .i64 0, .int .i64 0, .int .u8 0, .int .u8 0, .int .u8 0, .int .u8 0, .int .u8 0, .int .u8 0, .int .u8 0, .int .u8 0, .int .u8 0, .int .u8 0, .int .u8 0, .int .u8 0, .int .u8 0, .int .u8 0, .int .u8 0, .int .u8 0, .int .u64 0, .bool false, .int .u64 0, .int .i64 0, .int .u64 0, .int .i64 0, .int .i64 0, .int .i64 0]) hf13 rfl rfl rfl rfl rfl rfl (r_loadW ag_28 sz_28 rfl (hI6.at 0 rfl) rfl) fun ac14 hf14 => ?_)
  refine seq_one (op_pure hf14 rfl rfl rfl rfl ca_14 (most_pur _ r b f (LC.mk rfl rfl rfl rfl rfl (Int.le_trans (by decide) rp) (Int.le_trans rq (by decide)) (Int.le_trans (by decide) bp) (Int.le_trans bq (by decide)) (Int.le_trans (by decide) fp) (Int.le_trans fq (by decide))) ) hI6 fun ac15 wd4 hI7 hf15 => ?_)
  refine seq_one (op_val (v := .int .i64 (leftF r b f 0 0 0)) hf15 rfl rfl rfl rfl rfl rfl (r_assign rfl) fun ac16 hf16 => ?_)
  refine seq_end ?_
  clear ac13 hf13 ac14 wd3 hI6 hf14 ac15 hf15
  refine then_normal ?_
  refine code_seq ?_
  refine seq_start (l := [0, 1, 2]) rfl ?_
  refine seq_one (op_val (v := .agg #[.int .i64 0, .int .i64 0, .int .i64 0]) hf16 rfl rfl rfl rfl rfl rfl (r_build (v := .agg #[.int .i64 0, .int .i64 0, .int .i64 0]) rfl (fun _ => by kernel_rfl)) fun ac17 hf17 => ?_)
  refine seq_one (op_alloc hf17 rfl rfl rfl ze_30 hI7 fun ac18 b2 wd5 hb2 hI8 hf18 => ?_)
  have hI9 : Inv w [(b1, #[.int .i64 r, .int .i64 0, .int .i64 0, .int .i64 f, .int .i64 b, .int .i64 0, .int .i64 0, .int .u64 0, .int .u64 0, .int .u64 0, .int .i64 0, .int .i64 0, .int .i64 0, .int .u8 0, .int .u8 0, .int .u8 0, .int .u8 0, .int .u8 0, .int .u8 0, .int .u8 0, .int .u8 0, .int .u8 0, .int .u8 0, .int .u8 0, .int .u8 0, .int .u8 0, .int .u8 0, .int .u8 0, .int .u8 0, .int .u64 0, .bool false, .int .u64 0, .int .i64 0, .int .u64 0, .int .i64 0, .int .i64 0, .int .i64 0], 28), (b2, #[.int .i64 0, .int .i64 0, .int .i64 0], 30)] wd5 := hI8
  refine seq_one (op_storeW (cells := #[.int .i64 0, .int .i64 0, .int .i64 0]) 1 hf18 rfl rfl rfl rfl rfl sz_30 rfl rfl hI9 rfl rfl fun wd6 hI10 => ?_)
  refine seq_end ?_
  clear ac16 hf16 ac17 wd4 hI7 hf17 hI8 wd5 hI9
  refine then_normal ?_
  refine code_seq ?_
  refine code_seq ?_
  refine seq_start (l := [0, 1]) rfl ?_
  refine seq_one (op_val (v := .int .i64 (leftF r b f 0 0 0)) hf18 rfl rfl rfl rfl rfl rfl (r_move rfl) fun ac19 hf19 => ?_)
  refine seq_one (op_val (v := .int .i64 0) hf19 rfl rfl rfl rfl rfl rfl (r_move rfl) fun ac20 hf20 => ?_)
  refine seq_end ?_
  clear ac18 hf18 ac19 hf19
  refine then_normal ?_
  refine wp_block ?_
  refine code_loop (α := Int) (fun i => [(0, .int .u16 x), (1, .int .u16 y), (2, .int .u16 z), (7, .pointer (some ⟨b1, 0, none⟩)), (8, .int .i64 (leftF r b f 0 0 0)), (9, .pointer (some ⟨b2, 0, none⟩)), (11, .int .u16 x), (12, .int .u16 r), (13, .int .i64 r), (14, .int .u16 y), (15, .int .u16 b), (16, .int .i64 b), (17, .int .u16 z), (18, .int .u16 f), (19, .int .i64 f), (20, .agg #[.int .i64 r, .int .i64 0, .int .i64 0, .int .i64 f, .int .i64 b, .int .i64 0, .int .i64 0, .int .u64 0, .int .u64 0, .int .u64 0, .int .i64 0, .int .i64 0, .int .i64 0, .int .u8 0, .int .u8 0, .int .u8 0, .int .u8 0, .int .u8 0, .int .u8 0, .int .u8 0, .int .u8 0, .int .u8 0, .int .u8 0, .int .u8 0, .int .u8 0, .int .u8 0, .int .u8 0, .int .u8 0, .int .u8 0, .int .u64 0, .bool false, .int .u64 0, .int .i64 0, .int .u64 0, .int .i64 0, .int .i64 0, .int .i64 0]), (21, .agg #[.int .i64 r, .int .i64 0, .int .i64 0, .int .i64 f, .int .i64 b, .int .i64 0, .int .i64 0, .int .u64 0, .int .u64 0, .int .u64 0, .int .i64 0, .int .i64 0, .int .i64 0, .int .u8 0, .int .u8 0, .int .u8 0, .int .u8 0, .int .u8 0, .int .u8 0, .int .u8 0, .int .u8 0, .int .u8 0, .int .u8 0, .int .u8 0, .int .u8 0, .int .u8 0, .int .u8 0, .int .u8 0, .int .u8 0, .int .u64 0, .bool false, .int .u64 0, .int .i64 0, .int .u64 0, .int .i64 0, .int .i64 0, .int .i64 0]), (22, .int .i64 (leftF r b f 0 0 0)), (23, .agg #[.int .i64 0, .int .i64 0, .int .i64 0]), (24, .int .i64 (leftF r b f 0 0 0)), (25, .int .i64 i)]) (fun i wL => Inv w [(b1, #[.int .i64 r, .int .i64 0, .int .i64 0, .int .i64 f, .int .i64 b, .int .i64 0, .int .i64 0, .int .u64 0, .int .u64 0, .int .u64 0, .int .i64 0, .int .i64 0, .int .i64 0, .int .u8 0, .int .u8 0, .int .u8 0, .int .u8 0, .int .u8 0, .int .u8 0, .int .u8 0, .int .u8 0, .int .u8 0, .int .u8 0, .int .u8 0, .int .u8 0, .int .u8 0, .int .u8 0, .int .u8 0, .int .u8 0, .int .u64 0, .bool false, .int .u64 0, .int .i64 0, .int .u64 0, .int .i64 0, .int .i64 0, .int .i64 0], 28), (b2, #[.int .i64 i, .int .i64 i, .int .i64 i], 30)] wL ∧ (0 ≤ i ∧ i ≤ leftF r b f 0 0 0)) (fun i => (leftF r b f 0 0 0 - i).toNat) 0 (hf20.cons 0 rfl (hf20.cons 1 rfl (hf20.cons 2 rfl (hf20.cons 7 rfl (hf20.cons 8 rfl (hf20.cons 9 rfl (hf20.cons 11 rfl (hf20.cons 12 rfl (hf20.cons 13 rfl (hf20.cons 14 rfl (hf20.cons 15 rfl (hf20.cons 16 rfl (hf20.cons 17 rfl (hf20.cons 18 rfl (hf20.cons 19 rfl (hf20.cons 20 rfl (hf20.cons 21 rfl (hf20.cons 22 rfl (hf20.cons 23 rfl (hf20.cons 24 rfl (hf20.cons 25 rfl hf20.nil))))))))))))))))))))) ⟨hI10, ⟨Int.le_refl _, (most_left rp rq bp bq fp fq).2.1⟩⟩ ?_
  intro i ac21 wd7 hf21 hL1
  obtain ⟨hI11, hx1⟩ := hL1
  clear ac20 wd6 hf20 hI10
  refine code_seq ?_
  refine seq_start (l := [0]) rfl ?_
  refine seq_one (op_val (v := .bool (decide (i < (leftF r b f 0 0 0)))) hf21 rfl rfl rfl rfl rfl rfl (r_lss rfl rfl) fun ac22 hf22 => ?_)
  refine seq_end ?_
  clear ac21 hf21
  refine then_normal ?_
  refine code_seq ?_
  refine code_if hf22 rfl (fun c26_1 => ?_) (fun c26_1 => ?_)
  · have hf23 := hf22.know 26 (u := .bool true) rfl (congrArg Value.bool c26_1)
    refine wp_skip ?_
    refine then_normal ?_
    refine code_seq ?_
    refine wp_block ?_
    refine code_seq ?_
    refine seq_start (l := [0, 1]) rfl ?_
    refine seq_one (op_val (v := .int .i64 i) hf23 rfl rfl rfl rfl rfl rfl (r_move rfl) fun ac23 hf24 => ?_)
    refine seq_one (op_val (v := .int .i64 i) hf24 rfl rfl rfl rfl rfl rfl (r_assign rfl) fun ac24 hf25 => ?_)
    refine seq_end ?_
    clear hf22 ac22 hf23 ac23 hf24
    refine then_normal ?_
    refine code_seq ?_
    refine code_seq ?_
    refine seq_start (l := [0, 1, 2, 3, 4, 5, 6, 7, 8, 9, 10, 11, 12]) rfl ?_
    refine seq_one (op_val (v := .agg #[.int .i64 r, .int .i64 0, .int .i64 0, .int .i64 f, .int .i64 b, .int .i64 0, .int .i64 0, .int .u64 0, .int .u64 0, .int .u64 0, .int .i64 0, .int .i64 0, .int .i64 0, .int .u8 0, .int .u8 0, .int .u8 0, .int .u8 0, .int .u8 0, .int .u8 0, .int .u8 0, .int .u8 0, .int .u8 0, .int .u8 0, .int .u8 0, .int .u8 0, .int .u8 0, .int .u8 0, .int .u8 0, .int .u8 0, .int .u64 0, .bool false, .int .u64 0, .int .i64 0, .int .u64 0, .int .i64 0, .int .i64 0, .int .i64 0]) hf25 rfl rfl rfl rfl rfl rfl (r_loadW ag_28 sz_28 rfl (hI11.at 0 rfl) rfl) fun ac25 hf26 => ?_)
    refine seq_one (op_val (v := .agg #[.int .i64 i, .int .i64 i, .int .i64 i]) hf26 rfl rfl rfl rfl rfl rfl (r_loadW ag_30 sz_30 rfl (hI11.at 1 rfl) rfl) fun ac26 hf27 => ?_)
    refine seq_one (op_pure hf27 rfl rfl rfl rfl ca_8 (why_pur _ r b f i i i (LC.mk rfl rfl rfl rfl rfl (Int.le_trans (by decide) rp) (Int.le_trans rq (by decide)) (Int.le_trans (by decide) bp) (Int.le_trans bq (by decide)) (Int.le_trans (by decide) fp) (Int.le_trans fq (by decide))) ) hI11 fun ac27 wd8 hI12 hf28 => ?_)
    refine seq_one (op_val (v := .bool ((whyF r b f i i i) != 0)) hf28 rfl rfl rfl rfl rfl rfl (r_neq rfl rfl) fun ac28 hf29 => ?_)
    refine seq_one (op_val (v := .bool ((whyF r b f i i i) != 0)) hf29 rfl rfl rfl rfl rfl rfl (r_move rfl) fun ac29 hf30 => ?_)
    have hf31 := hf30.know 32 (u := .bool false) rfl (congrArg Value.bool (bne_eq_false_iff_eq.2 (((most_left rp rq bp bq fp fq).2.2.2 i hx1.1 hx1.2).2.2 (of_decide_eq_true c26_1))))
    refine seq_one (op_val (v := .agg #[.int .i64 r, .int .i64 0, .int .i64 0, .int .i64 f, .int .i64 b, .int .i64 0, .int .i64 0, .int .u64 0, .int .u64 0, .int .u64 0, .int .i64 0, .int .i64 0, .int .i64 0, .int .u8 0, .int .u8 0, .int .u8 0, .int .u8 0, .int .u8 0, .int .u8 0, .int .u8 0, .int .u8 0, .int .u8 0, .int .u8 0, .int .u8 0, .int .u8 0, .int .u8 0, .int .u8 0, .int .u8 0, .int .u8 0, .int .u64 0, .bool false, .int .u64 0, .int .i64 0, .int .u64 0, .int .i64 0, .int .i64 0, .int .i64 0]) hf31 rfl rfl rfl rfl rfl rfl (r_loadW ag_28 sz_28 rfl (hI12.at 0 rfl) rfl) fun ac30 hf32 => ?_)
    refine seq_one (op_val (v := .agg #[.int .i64 i, .int .i64 i, .int .i64 i]) hf32 rfl rfl rfl rfl rfl rfl (r_loadW ag_30 sz_30 rfl (hI12.at 1 rfl) rfl) fun ac31 hf33 => ?_)
    refine seq_one (op_pure hf33 rfl rfl rfl rfl ca_10 (left_pur _ r b f i i i (LC.mk rfl rfl rfl rfl rfl (Int.le_trans (by decide) rp) (Int.le_trans rq (by decide)) (Int.le_trans (by decide) bp) (Int.le_trans bq (by decide)) (Int.le_trans (by decide) fp) (Int.le_trans fq (by decide))) (Int.le_trans (by decide) hx1.1) (Int.le_trans hx1.2 (Int.le_trans (most_left rp rq bp bq fp fq).2.2.1 (by decide))) (Int.le_trans (by decide) hx1.1) (Int.le_trans hx1.2 (Int.le_trans (most_left rp rq bp bq fp fq).2.2.1 (by decide))) (Int.le_trans (by decide) hx1.1) (Int.le_trans hx1.2 (Int.le_trans (most_left rp rq bp bq fp fq).2.2.1 (by decide)))) hI12 fun ac32 wd9 hI13 hf34 => ?_)
    refine seq_one (op_val (v := .int .i64 (leftF r b f 0 0 0)) hf34 rfl rfl rfl rfl rfl rfl (r_move rfl) fun ac33 hf35 => ?_)
    refine seq_one (op_val (v := .int .i64 i) hf35 rfl rfl rfl rfl rfl rfl (r_move rfl) fun ac34 hf36 => ?_)
    refine seq_one (op_val (v := .int .i64 (leftF r b f 0 0 0 - i)) hf36 rfl rfl rfl rfl rfl rfl (r_sub (c := (leftF r b f 0 0 0 - i)) rfl rfl (wrap_i64 (by have := hx1; have := (most_left rp rq bp bq fp fq).2.2.1; omega) (by have := hx1; have := (most_left rp rq bp bq fp fq).2.2.1; omega))) fun ac35 hf37 => ?_)
    refine seq_one (op_val (v := .bool ((leftF r b f i i i) != (leftF r b f 0 0 0 - i))) hf37 rfl rfl rfl rfl rfl rfl (r_neq rfl rfl) fun ac36 hf38 => ?_)
    refine seq_one (op_val (v := .bool ((leftF r b f i i i) != (leftF r b f 0 0 0 - i))) hf38 rfl rfl rfl rfl rfl rfl (r_pickF rfl rfl) fun ac37 hf39 => ?_)
    refine seq_end ?_
    clear ac24 hf25 ac25 hf26 ac26 wd7 hI11 hf27 ac27 hf28 ac28 hf29 hf30 ac29 hf31 ac30 hf32 ac31 wd8 hI12 hf33 ac32 hf34 ac33 hf35 ac34 hf36 ac35 hf37 ac36 hf38
    refine then_normal ?_
    have hf40 := hf39.know 40 (u := .bool false) rfl (congrArg Value.bool (bne_eq_false_iff_eq.2 ((most_left rp rq bp bq fp fq).2.2.2 i hx1.1 hx1.2).1))
    refine code_if_false hf40 rfl ?_
    refine wp_skip ?_
    refine then_normal ?_
    refine seq_start (l := [0, 1, 2]) rfl ?_
    refine seq_one (op_val (v := .agg #[.int .i64 i, .int .i64 i, .int .i64 i]) hf40 rfl rfl rfl rfl rfl rfl (r_loadW ag_30 sz_30 rfl (hI13.at 1 rfl) rfl) fun ac38 hf41 => ?_)
    refine seq_one (op_pure hf41 rfl rfl rfl rfl ca_12 (with1_pur i hx1.1 (Int.le_trans hx1.2 (most_left rp rq bp bq fp fq).2.2.1)) hI13 fun ac39 wd10 hI14 hf42 => ?_)
    refine seq_one (op_storeW (cells := #[.int .i64 (i + 1), .int .i64 (i + 1), .int .i64 (i + 1)]) 1 hf42 rfl rfl rfl rfl rfl sz_30 rfl rfl hI14 rfl rfl fun wd11 hI15 => ?_)
    have hI16 : Inv w [(b1, #[.int .i64 r, .int .i64 0, .int .i64 0, .int .i64 f, .int .i64 b, .int .i64 0, .int .i64 0, .int .u64 0, .int .u64 0, .int .u64 0, .int .i64 0, .int .i64 0, .int .i64 0, .int .u8 0, .int .u8 0, .int .u8 0, .int .u8 0, .int .u8 0, .int .u8 0, .int .u8 0, .int .u8 0, .int .u8 0, .int .u8 0, .int .u8 0, .int .u8 0, .int .u8 0, .int .u8 0, .int .u8 0, .int .u8 0, .int .u64 0, .bool false, .int .u64 0, .int .i64 0, .int .u64 0, .int .i64 0, .int .i64 0, .int .i64 0], 28), (b2, #[.int .i64 (i + 1), .int .i64 (i + 1), .int .i64 (i + 1)], 30)] wd11 := hI15
    refine seq_end ?_
    clear hf39 ac37 hf40 ac38 wd9 hI13 hf41 wd10 hI14 hI15
    refine block_normal ?_
    refine then_normal ?_
    refine seq_start (l := [0, 1]) rfl ?_
    refine seq_one (op_val (v := .int .i64 (i + 1)) hf42 rfl rfl rfl rfl rfl rfl (r_add (c := (i + 1)) rfl rfl (wrap_i64 (by have := hx1; have := (most_left rp rq bp bq fp fq).2.2.1; omega) (by have := hx1; have := (most_left rp rq bp bq fp fq).2.2.1; omega))) fun ac40 hf43 => ?_)
    refine seq_one (op_val (v := .int .i64 (i + 1)) hf43 rfl rfl rfl rfl rfl rfl (r_move rfl) fun ac41 hf44 => ?_)
    refine seq_end ?_
    clear ac39 hf42 ac40 hf43
    refine then_normal ?_
    exact ⟨i + 1, (hf44.cons 0 rfl (hf44.cons 1 rfl (hf44.cons 2 rfl (hf44.cons 7 rfl (hf44.cons 8 rfl (hf44.cons 9 rfl (hf44.cons 11 rfl (hf44.cons 12 rfl (hf44.cons 13 rfl (hf44.cons 14 rfl (hf44.cons 15 rfl (hf44.cons 16 rfl (hf44.cons 17 rfl (hf44.cons 18 rfl (hf44.cons 19 rfl (hf44.cons 20 rfl (hf44.cons 21 rfl (hf44.cons 22 rfl (hf44.cons 23 rfl (hf44.cons 24 rfl (hf44.cons 25 rfl hf44.nil))))))))))))))))))))), ⟨hI16, ⟨by have := hx1.1; omega, by have := (of_decide_eq_true c26_1); omega⟩⟩, (by have := (of_decide_eq_true c26_1); show (leftF r b f 0 0 0 - (i + 1)).toNat < (leftF r b f 0 0 0 - i).toNat; omega)⟩
  · have hf45 := hf22.know 26 (u := .bool false) rfl (congrArg Value.bool c26_1)
    refine wp_exit ?_
    refine then_exit ?_
    refine then_exit ?_
    refine block_here ?_
    refine then_normal ?_
    refine code_seq ?_
    refine seq_start (l := [0, 1, 2, 3, 4, 5, 6, 7, 8, 9, 10, 11, 12, 13, 14, 15, 16, 17, 18, 19, 20, 21, 22, 23, 24, 25, 26]) rfl ?_
    refine seq_one (op_val (v := .agg #[.int .i64 r, .int .i64 0, .int .i64 0, .int .i64 f, .int .i64 b, .int .i64 0, .int .i64 0, .int .u64 0, .int .u64 0, .int .u64 0, .int .i64 0, .int .i64 0, .int .i64 0, .int .u8 0, .int .u8 0, .int .u8 0, .int .u8 0, .int .u8 0, .int .u8 0, .int .u8 0, .int .u8 0, .int .u8 0, .int .u8 0, .int .u8 0, .int .u8 0, .int .u8 0, .int .u8 0, .int .u8 0, .int .u8 0, .int .u64 0, .bool false, .int .u64 0, .int .i64 0, .int .u64 0, .int .i64 0, .int .i64 0, .int .i64 0]) hf45 rfl rfl rfl rfl rfl rfl (r_loadW ag_28 sz_28 rfl (hI11.at 0 rfl) rfl) fun ac42 hf46 => ?_)
    refine seq_one (op_val (v := .agg #[.int .i64 i, .int .i64 i, .int .i64 i]) hf46 rfl rfl rfl rfl rfl rfl (r_loadW ag_30 sz_30 rfl (hI11.at 1 rfl) rfl) fun ac43 hf47 => ?_)
    refine seq_one (op_pure hf47 rfl rfl rfl rfl ca_8 (why_pur _ r b f i i i (LC.mk rfl rfl rfl rfl rfl (Int.le_trans (by decide) rp) (Int.le_trans rq (by decide)) (Int.le_trans (by decide) bp) (Int.le_trans bq (by decide)) (Int.le_trans (by decide) fp) (Int.le_trans fq (by decide))) ) hI11 fun ac44 wd12 hI17 hf48 => ?_)
    refine seq_one (op_val (v := .bool ((whyF r b f i i i) != 0)) hf48 rfl rfl rfl rfl rfl rfl (r_neq rfl rfl) fun ac45 hf49 => ?_)
    refine seq_one (op_val (v := .bool ((whyF r b f i i i) != 0)) hf49 rfl rfl rfl rfl rfl rfl (r_move rfl) fun ac46 hf50 => ?_)
    have hf51 := hf50.know 48 (u := .bool true) rfl (congrArg Value.bool (bne_iff_ne.2 (fun e => of_decide_eq_false c26_1 (((most_left rp rq bp bq fp fq).2.2.2 i hx1.1 hx1.2).2.1 e))))
    refine seq_one (op_val (v := .agg #[.int .i64 i, .int .i64 i, .int .i64 i]) hf51 rfl rfl rfl rfl rfl rfl (r_loadW ag_30 sz_30 rfl (hI17.at 1 rfl) rfl) fun ac47 hf52 => ?_)
    refine seq_one (op_val (v := .int .i64 (leftF r b f 0 0 0)) hf52 rfl rfl rfl rfl rfl rfl (r_move rfl) fun ac48 hf53 => ?_)
    refine seq_one (op_val (v := .int .i64 (leftF r b f 0 0 0)) hf53 rfl rfl rfl rfl rfl rfl (r_move rfl) fun ac49 hf54 => ?_)
    refine seq_one (op_val (v := .int .i64 (leftF r b f 0 0 0)) hf54 rfl rfl rfl rfl rfl rfl (r_move rfl) fun ac50 hf55 => ?_)
    refine seq_one (op_val (v := .agg #[.int .i64 (leftF r b f 0 0 0), .int .i64 (leftF r b f 0 0 0), .int .i64 (leftF r b f 0 0 0)]) hf55 rfl rfl rfl rfl rfl rfl (r_build (v := .agg #[.int .i64 (leftF r b f 0 0 0), .int .i64 (leftF r b f 0 0 0), .int .i64 (leftF r b f 0 0 0)]) rfl (fun _ => by kernel_rfl)) fun ac51 hf56 => ?_)
    refine seq_one (op_val (v := .bool (eqA (#[.int .i64 i, .int .i64 i, .int .i64 i]) (#[.int .i64 (leftF r b f 0 0 0), .int .i64 (leftF r b f 0 0 0), .int .i64 (leftF r b f 0 0 0)]))) hf56 rfl rfl rfl rfl rfl rfl (r_eqA sh_30 kt_30 rw_30 rfl zk_30 eg_30 rfl rfl ⟨⟨_, rfl, (wf_i64 (Int.le_trans (by decide) hx1.1) (Int.le_trans hx1.2 (Int.le_trans (most_left rp rq bp bq fp fq).2.2.1 (by decide))))⟩, ⟨_, rfl, (wf_i64 (Int.le_trans (by decide) hx1.1) (Int.le_trans hx1.2 (Int.le_trans (most_left rp rq bp bq fp fq).2.2.1 (by decide))))⟩, ⟨_, rfl, (wf_i64 (Int.le_trans (by decide) hx1.1) (Int.le_trans hx1.2 (Int.le_trans (most_left rp rq bp bq fp fq).2.2.1 (by decide))))⟩, trivial⟩ ⟨⟨_, rfl, (wf_i64 (Int.le_trans (by decide) (most_left rp rq bp bq fp fq).2.1) (Int.le_trans (most_left rp rq bp bq fp fq).2.2.1 (by decide)))⟩, ⟨_, rfl, (wf_i64 (Int.le_trans (by decide) (most_left rp rq bp bq fp fq).2.1) (Int.le_trans (most_left rp rq bp bq fp fq).2.2.1 (by decide)))⟩, ⟨_, rfl, (wf_i64 (Int.le_trans (by decide) (most_left rp rq bp bq fp fq).2.1) (Int.le_trans (most_left rp rq bp bq fp fq).2.2.1 (by decide)))⟩, trivial⟩) fun ac52 hf57 => ?_)
    refine seq_one (op_val (v := .bool (eqA (#[.int .i64 i, .int .i64 i, .int .i64 i]) (#[.int .i64 (leftF r b f 0 0 0), .int .i64 (leftF r b f 0 0 0), .int .i64 (leftF r b f 0 0 0)]))) hf57 rfl rfl rfl rfl rfl rfl (r_pickT rfl rfl) fun ac53 hf58 => ?_)
    refine seq_one (op_val (v := .bool (eqA (#[.int .i64 i, .int .i64 i, .int .i64 i]) (#[.int .i64 (leftF r b f 0 0 0), .int .i64 (leftF r b f 0 0 0), .int .i64 (leftF r b f 0 0 0)]))) hf58 rfl rfl rfl rfl rfl rfl (r_move rfl) fun ac54 hf59 => ?_)
    have hf60 := hf59.know 56 (u := .bool true) rfl (congrArg Value.bool (eqA_true (by rw [(Int.le_antisymm hx1.2 (Int.not_lt.1 (of_decide_eq_false c26_1)))])))
    refine seq_one (op_val (v := .int .i64 (leftF r b f 0 0 0)) hf60 rfl rfl rfl rfl rfl rfl (r_move rfl) fun ac55 hf61 => ?_)
    refine seq_one (op_val (v := .pointer (some ⟨b1, 0, none⟩)) hf61 rfl rfl rfl rfl rfl rfl (r_fieldAddr fi_28_0 rfl rfl) fun ac56 hf62 => ?_)
    refine seq_one (op_val (v := .int .i64 r) hf62 rfl rfl rfl rfl rfl rfl (r_load ag_3 rfl (hI17.at 0 rfl) rfl) fun ac57 hf63 => ?_)
    refine seq_one (op_val (v := .pointer (some ⟨b1, 4, none⟩)) hf63 rfl rfl rfl rfl rfl rfl (r_fieldAddr fi_28_4 rfl rfl) fun ac58 hf64 => ?_)
    refine seq_one (op_val (v := .int .i64 b) hf64 rfl rfl rfl rfl rfl rfl (r_load ag_3 rfl (hI17.at 0 rfl) rfl) fun ac59 hf65 => ?_)
    refine seq_one (op_val (v := .pointer (some ⟨b1, 3, none⟩)) hf65 rfl rfl rfl rfl rfl rfl (r_fieldAddr fi_28_3 rfl rfl) fun ac60 hf66 => ?_)
    refine seq_one (op_val (v := .int .i64 f) hf66 rfl rfl rfl rfl rfl rfl (r_load ag_3 rfl (hI17.at 0 rfl) rfl) fun ac61 hf67 => ?_)
    refine seq_one (op_val (v := .int .i64 (mn (mn r b) f)) hf67 rfl rfl rfl rfl rfl rfl (r_min3 rfl rfl rfl) fun ac62 hf68 => ?_)
    refine seq_one (op_val (v := .bool ((leftF r b f 0 0 0) == (mn (mn r b) f))) hf68 rfl rfl rfl rfl rfl rfl (r_eql rfl rfl) fun ac63 hf69 => ?_)
    refine seq_one (op_val (v := .bool ((leftF r b f 0 0 0) == (mn (mn r b) f))) hf69 rfl rfl rfl rfl rfl rfl (r_pickT rfl rfl) fun ac64 hf70 => ?_)
    refine seq_one (op_val (v := .bool ((leftF r b f 0 0 0) == (mn (mn r b) f))) hf70 rfl rfl rfl rfl rfl rfl (r_move rfl) fun ac65 hf71 => ?_)
    have hf72 := hf71.know 67 (u := .bool true) rfl (congrArg Value.bool (beq_iff_eq.2 (most_left rp rq bp bq fp fq).1))
    refine seq_one (op_pure hf72 rfl rfl rfl rfl ca_16 awake_pur hI17 fun ac66 wd13 hI18 hf73 => ?_)
    refine seq_one (op_val (v := .bool true) hf73 rfl rfl rfl rfl rfl rfl (r_pickT rfl rfl) fun ac67 hf74 => ?_)
    refine seq_one (op_val (v := .bool true) hf74 rfl rfl rfl rfl rfl rfl (r_assign rfl) fun ac68 hf75 => ?_)
    refine seq_end ?_
    clear hf22 ac22 hf45 ac42 hf46 ac43 wd7 hI11 hf47 ac44 hf48 ac45 hf49 hf50 ac46 hf51 ac47 hf52 ac48 hf53 ac49 hf54 ac50 hf55 ac51 hf56 ac52 hf57 ac53 hf58 hf59 ac54 hf60 ac55 hf61 ac56 hf62 ac57 hf63 ac58 hf64 ac59 hf65 ac60 hf66 ac61 hf67 ac62 hf68 ac63 hf69 ac64 hf70 hf71 ac65 wd12 hI17 hf72 ac66 hf73 ac67 hf74
    refine then_normal ?_
    refine wp_ret ?_
    refine post1 rfl hf75 rfl ⟨?_, hI18.done (fresh_keys (ks := [b1, b2]) rfl (fk_cons hb1 (fk_cons hb2 fk_nil)))⟩
    rfl
end Go.Proofs.Ytnajiccihfdggaa
