/-
  The laws of limits: each comes to true.
-/
import Derived.Test.YtnajiccihfdggaaFns
namespace Go.Proofs.Ytnajiccihfdggaa
set_option linter.unusedVariables false
set_option linter.unusedSimpArgs false
set_option maxRecDepth 100000
open Go.RowKit
set_option maxHeartbeats 8000000 in
theorem conf_pur (a b f : Int) : Pur Try.prog 17 [.int .i64 a, .int .i64 b, .int .i64 f] (.agg #[.int .i64 a, .int .i64 0, .int .i64 0, .int .i64 f, .int .i64 b, .int .i64 0, .int .i64 0, .int .u64 0, .int .u64 0, .int .u64 0, .int .i64 0, .int .i64 0, .int .i64 0, .int .u8 0, .int .u8 0, .int .u8 0, .int .u8 0, .int .u8 0, .int .u8 0, .int .u8 0, .int .u8 0, .int .u8 0, .int .u8 0, .int .u8 0, .int .u8 0, .int .u8 0, .int .u8 0, .int .u8 0, .int .u8 0, .int .u64 0, .bool false, .int .u64 0, .int .i64 0, .int .u64 0, .int .i64 0, .int .i64 0, .int .i64 0]) := by
  intro w
  have hI1 := Inv.start w
  refine enter (n := 11) Try.func17 rfl rfl rfl ?_
  intro ac1 hf1
  refine code_seq ?_
  refine seq_start (l := [0]) rfl ?_
  refine seq_one (op_alloc hf1 rfl rfl rfl ze_28 hI1 fun ac2 b1 wd1 hb1 hI2 hf2 => ?_)
  have hI3 : Inv w [(b1, #[.int .i64 0, .int .i64 0, .int .i64 0, .int .i64 0, .int .i64 0, .int .i64 0, .int .i64 0, .int .u64 0, .int .u64 0, .int .u64 0, .int .i64 0, .int .i64 0, .int .i64 0, .int .u8 0, .int .u8 0, .int .u8 0, .int .u8 0, .int .u8 0, .int .u8 0, .int .u8 0, .int .u8 0, .int .u8 0, .int .u8 0, .int .u8 0, .int .u8 0, .int .u8 0, .int .u8 0, .int .u8 0, .int .u8 0, .int .u64 0, .bool false, .int .u64 0, .int .i64 0, .int .u64 0, .int .i64 0, .int .i64 0, .int .i64 0], 28)] wd1 := hI2
  refine seq_end ?_
  clear ac1 hI1 hf1 hI2
  refine then_normal ?_
  refine code_seq ?_
  refine seq_start (l := [0, 1, 2, 3, 4]) rfl ?_
  refine seq_one (op_val (v := .int .i64 a) hf2 rfl rfl rfl rfl rfl rfl (r_move rfl) fun ac3 hf3 => ?_)
  refine seq_one (op_val (v := .int .i64 b) hf3 rfl rfl rfl rfl rfl rfl (r_move rfl) fun ac4 hf4 => ?_)
  refine seq_one (op_val (v := .int .i64 f) hf4 rfl rfl rfl rfl rfl rfl (r_move rfl) fun ac5 hf5 => ?_)
  refine seq_one (op_val (v := .agg #[.int .i64 a, .int .i64 0, .int .i64 0, .int .i64 f, .int .i64 b, .int .i64 0, .int .i64 0, .int .u64 0, .int .u64 0, .int .u64 0, .int .i64 0, .int .i64 0, .int .i64 0, .int .u8 0, .int .u8 0, .int .u8 0, .int .u8 0, .int .u8 0, .int .u8 0, .int .u8 0, .int .u8 0, .int .u8 0, .int .u8 0, .int .u8 0, .int .u8 0, .int .u8 0, .int .u8 0, .int .u8 0, .int .u8 0, .int .u64 0, .bool false, .int .u64 0, .int .i64 0, .int .u64 0, .int .i64 0, .int .i64 0, .int .i64 0]) hf5 rfl rfl rfl rfl rfl rfl (r_build (v := .agg #[.int .i64 a, .int .i64 0, .int .i64 0, .int .i64 f, .int .i64 b, .int .i64 0, .int .i64 0, .int .u64 0, .int .u64 0, .int .u64 0, .int .i64 0, .int .i64 0, .int .i64 0, .int .u8 0, .int .u8 0, .int .u8 0, .int .u8 0, .int .u8 0, .int .u8 0, .int .u8 0, .int .u8 0, .int .u8 0, .int .u8 0, .int .u8 0, .int .u8 0, .int .u8 0, .int .u8 0, .int .u8 0, .int .u8 0, .int .u64 0, .bool false, .int .u64 0, .int .i64 0, .int .u64 0, .int .i64 0, .int .i64 0, .int .i64 0]) rfl (fun _ => by kernel_rfl)) fun ac6 hf6 => ?_)
  refine seq_one (op_storeW (cells := #[.int .i64 a, .int .i64 0, .int .i64 0, .int .i64 f, .int .i64 b, .int .i64 0, .int .i64 0, .int .u64 0, .int .u64 0, .int .u64 0, .int .i64 0, .int .i64 0, .int .i64 0, .int .u8 0, .int .u8 0, .int .u8 0, .int .u8 0, .int .u8 0, .int .u8 0, .int .u8 0, .int .u8 0, .int .u8 0, .int .u8 0, .int .u8 0, .int .u8 0, .int .u8 0, .int .u8 0, .int .u8 0, .int .u8 0, .int .u64 0, .bool false, .int .u64 0, .int .i64 0, .int .u64 0, .int .i64 0, .int .i64 0, .int .i64 0]) 0 hf6 rfl rfl rfl rfl rfl sz_28 rfl rfl hI3 rfl rfl fun wd2 hI4 => ?_)
  have hI5 : Inv w [(b1, #[.int .i64 a, .int .i64 0, .int .i64 0, .int .i64 f, .int .i64 b, .int .i64 0, .int .i64 0, .int .u64 0, .int .u64 0, .int .u64 0, .int .i64 0, .int .i64 0, .int .i64 0, .int .u8 0, .int .u8 0, .int .u8 0, .int .u8 0, .int .u8 0, .int .u8 0, .int .u8 0, .int .u8 0, .int .u8 0, .int .u8 0, .int .u8 0, .int .u8 0, .int .u8 0, .int .u8 0, .int .u8 0, .int .u8 0, .int .u64 0, .bool false, .int .u64 0, .int .i64 0, .int .u64 0, .int .i64 0, .int .i64 0, .int .i64 0], 28)] wd2 := hI4
  refine seq_end ?_
  clear ac2 hf2 ac3 hf3 ac4 hf4 ac5 hf5 wd1 hI3 hI4
  refine then_normal ?_
  refine wp_ret ?_
  refine postC rfl hf6 rfl ag_28 sz_28 (hI5.at 0 rfl) rfl ⟨?_, hI5.done (fresh_keys (ks := [b1]) rfl (fk_cons hb1 fk_nil))⟩
  rfl
set_option maxHeartbeats 8000000 in
theorem awake_pur : Pur Try.prog 16 [] (.bool true) := by
  intro w
  have hI1 := Inv.start w
  refine enter (n := 38) Try.func16 rfl rfl rfl ?_
  intro ac1 hf1
  refine code_seq ?_
  refine seq_start (l := [0]) rfl ?_
  refine seq_one (op_val (v := .bool false) hf1 rfl rfl rfl rfl rfl rfl (r_assign rfl) fun ac2 hf2 => ?_)
  refine seq_end ?_
  clear ac1 hf1
  refine then_normal ?_
  refine code_seq ?_
  refine seq_start (l := [0, 1, 2]) rfl ?_
  refine seq_one (op_pure hf2 rfl rfl rfl rfl ca_17 (conf_pur 10 8 3) hI1 fun ac3 wd1 hI2 hf3 => ?_)
  refine seq_one (op_alloc hf3 rfl rfl rfl ze_28 hI2 fun ac4 b1 wd2 hb1 hI3 hf4 => ?_)
  have hI4 : Inv w [(b1, #[.int .i64 0, .int .i64 0, .int .i64 0, .int .i64 0, .int .i64 0, .int .i64 0, .int .i64 0, .int .u64 0, .int .u64 0, .int .u64 0, .int .i64 0, .int .i64 0, .int .i64 0, .int .u8 0, .int .u8 0, .int .u8 0, .int .u8 0, .int .u8 0, .int .u8 0, .int .u8 0, .int .u8 0, .int .u8 0, .int .u8 0, .int .u8 0, .int .u8 0, .int .u8 0, .int .u8 0, .int .u8 0, .int .u8 0, .int .u64 0, .bool false, .int .u64 0, .int .i64 0, .int .u64 0, .int .i64 0, .int .i64 0, .int .i64 0], 28)] wd2 := hI3
  refine seq_one (op_storeW (cells := #[.int .i64 10, .int .i64 0, .int .i64 0, .int .i64 3, .int .i64 8, .int .i64 0, .int .i64 0, .int .u64 0, .int .u64 0, .int .u64 0, .int .i64 0, .int .i64 0, .int .i64 0, .int .u8 0, .int .u8 0, .int .u8 0, .int .u8 0, .int .u8 0, .int .u8 0, .int .u8 0, .int .u8 0, .int .u8 0, .int .u8 0, .int .u8 0, .int .u8 0, .int .u8 0, .int .u8 0, .int .u8 0, .int .u8 0, .int .u64 0, .bool false, .int .u64 0, .int .i64 0, .int .u64 0, .int .i64 0, .int .i64 0, .int .i64 0]) 0 hf4 rfl rfl rfl rfl rfl sz_28 rfl rfl hI4 rfl rfl fun wd3 hI5 => ?_)
  have hI6 : Inv w [(b1, #[.int .i64 10, .int .i64 0, .int .i64 0, .int .i64 3, .int .i64 8, .int .i64 0, .int .i64 0, .int .u64 0, .int .u64 0, .int .u64 0, .int .i64 0, .int .i64 0, .int .i64 0, .int .u8 0, .int .u8 0, .int .u8 0, .int .u8 0, .int .u8 0, .int .u8 0, .int .u8 0, .int .u8 0, .int .u8 0, .int .u8 0, .int .u8 0, .int .u8 0, .int .u8 0, .int .u8 0, .int .u8 0, .int .u8 0, .int .u64 0, .bool false, .int .u64 0, .int .i64 0, .int .u64 0, .int .i64 0, .int .i64 0, .int .i64 0], 28)] wd3 := hI5
  refine seq_end ?_
  clear ac2 hI1 hf2 ac3 wd1 hI2 hf3 hI3 wd2 hI4 hI5
  refine then_normal ?_
  refine code_seq ?_
  refine seq_start (l := [0, 1, 2]) rfl ?_
  refine seq_one (op_val (v := .agg #[.int .i64 9, .int .i64 7, .int .i64 2]) hf4 rfl rfl rfl rfl rfl rfl (r_build (v := .agg #[.int .i64 9, .int .i64 7, .int .i64 2]) rfl (fun _ => by kernel_rfl)) fun ac5 hf5 => ?_)
  refine seq_one (op_alloc hf5 rfl rfl rfl ze_30 hI6 fun ac6 b2 wd4 hb2 hI7 hf6 => ?_)
  have hI8 : Inv w [(b1, #[.int .i64 10, .int .i64 0, .int .i64 0, .int .i64 3, .int .i64 8, .int .i64 0, .int .i64 0, .int .u64 0, .int .u64 0, .int .u64 0, .int .i64 0, .int .i64 0, .int .i64 0, .int .u8 0, .int .u8 0, .int .u8 0, .int .u8 0, .int .u8 0, .int .u8 0, .int .u8 0, .int .u8 0, .int .u8 0, .int .u8 0, .int .u8 0, .int .u8 0, .int .u8 0, .int .u8 0, .int .u8 0, .int .u8 0, .int .u64 0, .bool false, .int .u64 0, .int .i64 0, .int .u64 0, .int .i64 0, .int .i64 0, .int .i64 0], 28), (b2, #[.int .i64 0, .int .i64 0, .int .i64 0], 30)] wd4 := hI7
  refine seq_one (op_storeW (cells := #[.int .i64 9, .int .i64 7, .int .i64 2]) 1 hf6 rfl rfl rfl rfl rfl sz_30 rfl rfl hI8 rfl rfl fun wd5 hI9 => ?_)
  have hI10 : Inv w [(b1, #[.int .i64 10, .int .i64 0, .int .i64 0, .int .i64 3, .int .i64 8, .int .i64 0, .int .i64 0, .int .u64 0, .int .u64 0, .int .u64 0, .int .i64 0, .int .i64 0, .int .i64 0, .int .u8 0, .int .u8 0, .int .u8 0, .int .u8 0, .int .u8 0, .int .u8 0, .int .u8 0, .int .u8 0, .int .u8 0, .int .u8 0, .int .u8 0, .int .u8 0, .int .u8 0, .int .u8 0, .int .u8 0, .int .u8 0, .int .u64 0, .bool false, .int .u64 0, .int .i64 0, .int .u64 0, .int .i64 0, .int .i64 0, .int .i64 0], 28), (b2, #[.int .i64 9, .int .i64 7, .int .i64 2], 30)] wd5 := hI9
  refine seq_end ?_
  clear ac4 hf4 ac5 wd3 hI6 hf5 hI7 wd4 hI8 hI9
  refine then_normal ?_
  refine code_seq ?_
  refine seq_start (l := [0, 1, 2, 3, 4, 5, 6, 7, 8, 9, 10, 11, 12, 13, 14, 15, 16, 17, 18, 19, 20, 21, 22, 23, 24, 25, 26, 27, 28, 29, 30, 31, 32, 33]) rfl ?_
  refine seq_one (op_val (v := .agg #[.int .i64 10, .int .i64 0, .int .i64 0, .int .i64 3, .int .i64 8, .int .i64 0, .int .i64 0, .int .u64 0, .int .u64 0, .int .u64 0, .int .i64 0, .int .i64 0, .int .i64 0, .int .u8 0, .int .u8 0, .int .u8 0, .int .u8 0, .int .u8 0, .int .u8 0, .int .u8 0, .int .u8 0, .int .u8 0, .int .u8 0, .int .u8 0, .int .u8 0, .int .u8 0, .int .u8 0, .int .u8 0, .int .u8 0, .int .u64 0, .bool false, .int .u64 0, .int .i64 0, .int .u64 0, .int .i64 0, .int .i64 0, .int .i64 0]) hf6 rfl rfl rfl rfl rfl rfl (r_loadW ag_28 sz_28 rfl (hI10.at 0 rfl) rfl) fun ac7 hf7 => ?_)
  refine seq_one (op_val (v := .agg #[.int .i64 9, .int .i64 7, .int .i64 2]) hf7 rfl rfl rfl rfl rfl rfl (r_loadW ag_30 sz_30 rfl (hI10.at 1 rfl) rfl) fun ac8 hf8 => ?_)
  refine seq_one (op_pure hf8 rfl rfl rfl rfl ca_8 (why_pur _ 10 8 3 9 7 2 (LC.mk rfl rfl rfl rfl rfl (by decide) (by decide) (by decide) (by decide) (by decide) (by decide)) ) hI10 fun ac9 wd6 hI11 hf9 => ?_)
  refine seq_one (op_val (v := .bool ((whyF 10 8 3 9 7 2) == 0)) hf9 rfl rfl rfl rfl rfl rfl (r_eql rfl rfl) fun ac10 hf10 => ?_)
  refine seq_one (op_val (v := .bool ((whyF 10 8 3 9 7 2) == 0)) hf10 rfl rfl rfl rfl rfl rfl (r_move rfl) fun ac11 hf11 => ?_)
  have hf12 := hf11.know 9 (u := .bool true) rfl (congrArg Value.bool (by decide))
  refine seq_one (op_val (v := .agg #[.int .i64 10, .int .i64 0, .int .i64 0, .int .i64 3, .int .i64 8, .int .i64 0, .int .i64 0, .int .u64 0, .int .u64 0, .int .u64 0, .int .i64 0, .int .i64 0, .int .i64 0, .int .u8 0, .int .u8 0, .int .u8 0, .int .u8 0, .int .u8 0, .int .u8 0, .int .u8 0, .int .u8 0, .int .u8 0, .int .u8 0, .int .u8 0, .int .u8 0, .int .u8 0, .int .u8 0, .int .u8 0, .int .u8 0, .int .u64 0, .bool false, .int .u64 0, .int .i64 0, .int .u64 0, .int .i64 0, .int .i64 0, .int .i64 0]) hf12 rfl rfl rfl rfl rfl rfl (r_loadW ag_28 sz_28 rfl (hI11.at 0 rfl) rfl) fun ac12 hf13 => ?_)
  refine seq_one (op_val (v := .agg #[.int .i64 9, .int .i64 7, .int .i64 2]) hf13 rfl rfl rfl rfl rfl rfl (r_loadW ag_30 sz_30 rfl (hI11.at 1 rfl) rfl) fun ac13 hf14 => ?_)
  refine seq_one (op_pure hf14 rfl rfl rfl rfl ca_10 (left_pur _ 10 8 3 9 7 2 (LC.mk rfl rfl rfl rfl rfl (by decide) (by decide) (by decide) (by decide) (by decide) (by decide)) (by decide) (by decide) (by decide) (by decide) (by decide) (by decide)) hI11 fun ac14 wd7 hI12 hf15 => ?_)
  refine seq_one (op_val (v := .bool ((leftF 10 8 3 9 7 2) == 1)) hf15 rfl rfl rfl rfl rfl rfl (r_eql rfl rfl) fun ac15 hf16 => ?_)
  refine seq_one (op_val (v := .bool ((leftF 10 8 3 9 7 2) == 1)) hf16 rfl rfl rfl rfl rfl rfl (r_pickT rfl rfl) fun ac16 hf17 => ?_)
  refine seq_one (op_val (v := .bool ((leftF 10 8 3 9 7 2) == 1)) hf17 rfl rfl rfl rfl rfl rfl (r_move rfl) fun ac17 hf18 => ?_)
  have hf19 := hf18.know 15 (u := .bool true) rfl (congrArg Value.bool (by decide))
  refine seq_one (op_val (v := .agg #[.int .i64 10, .int .i64 0, .int .i64 0, .int .i64 3, .int .i64 8, .int .i64 0, .int .i64 0, .int .u64 0, .int .u64 0, .int .u64 0, .int .i64 0, .int .i64 0, .int .i64 0, .int .u8 0, .int .u8 0, .int .u8 0, .int .u8 0, .int .u8 0, .int .u8 0, .int .u8 0, .int .u8 0, .int .u8 0, .int .u8 0, .int .u8 0, .int .u8 0, .int .u8 0, .int .u8 0, .int .u8 0, .int .u8 0, .int .u64 0, .bool false, .int .u64 0, .int .i64 0, .int .u64 0, .int .i64 0, .int .i64 0, .int .i64 0]) hf19 rfl rfl rfl rfl rfl rfl (r_loadW ag_28 sz_28 rfl (hI12.at 0 rfl) rfl) fun ac18 hf20 => ?_)
  refine seq_one (op_val (v := .agg #[.int .i64 9, .int .i64 7, .int .i64 3]) hf20 rfl rfl rfl rfl rfl rfl (r_build (v := .agg #[.int .i64 9, .int .i64 7, .int .i64 3]) rfl (fun _ => by kernel_rfl)) fun ac19 hf21 => ?_)
  refine seq_one (op_pure hf21 rfl rfl rfl rfl ca_8 (why_pur _ 10 8 3 9 7 3 (LC.mk rfl rfl rfl rfl rfl (by decide) (by decide) (by decide) (by decide) (by decide) (by decide)) ) hI12 fun ac20 wd8 hI13 hf22 => ?_)
  refine seq_one (op_val (v := .bool ((whyF 10 8 3 9 7 3) == 3)) hf22 rfl rfl rfl rfl rfl rfl (r_eql rfl rfl) fun ac21 hf23 => ?_)
  refine seq_one (op_val (v := .bool ((whyF 10 8 3 9 7 3) == 3)) hf23 rfl rfl rfl rfl rfl rfl (r_pickT rfl rfl) fun ac22 hf24 => ?_)
  refine seq_one (op_val (v := .bool ((whyF 10 8 3 9 7 3) == 3)) hf24 rfl rfl rfl rfl rfl rfl (r_move rfl) fun ac23 hf25 => ?_)
  have hf26 := hf25.know 21 (u := .bool true) rfl (congrArg Value.bool (by decide))
  refine seq_one (op_val (v := .agg #[.int .i64 10, .int .i64 0, .int .i64 0, .int .i64 3, .int .i64 8, .int .i64 0, .int .i64 0, .int .u64 0, .int .u64 0, .int .u64 0, .int .i64 0, .int .i64 0, .int .i64 0, .int .u8 0, .int .u8 0, .int .u8 0, .int .u8 0, .int .u8 0, .int .u8 0, .int .u8 0, .int .u8 0, .int .u8 0, .int .u8 0, .int .u8 0, .int .u8 0, .int .u8 0, .int .u8 0, .int .u8 0, .int .u8 0, .int .u64 0, .bool false, .int .u64 0, .int .i64 0, .int .u64 0, .int .i64 0, .int .i64 0, .int .i64 0]) hf26 rfl rfl rfl rfl rfl rfl (r_loadW ag_28 sz_28 rfl (hI13.at 0 rfl) rfl) fun ac24 hf27 => ?_)
  refine seq_one (op_val (v := .agg #[.int .i64 9, .int .i64 8, .int .i64 3]) hf27 rfl rfl rfl rfl rfl rfl (r_build (v := .agg #[.int .i64 9, .int .i64 8, .int .i64 3]) rfl (fun _ => by kernel_rfl)) fun ac25 hf28 => ?_)
  refine seq_one (op_pure hf28 rfl rfl rfl rfl ca_8 (why_pur _ 10 8 3 9 8 3 (LC.mk rfl rfl rfl rfl rfl (by decide) (by decide) (by decide) (by decide) (by decide) (by decide)) ) hI13 fun ac26 wd9 hI14 hf29 => ?_)
  refine seq_one (op_val (v := .bool ((whyF 10 8 3 9 8 3) == 2)) hf29 rfl rfl rfl rfl rfl rfl (r_eql rfl rfl) fun ac27 hf30 => ?_)
  refine seq_one (op_val (v := .bool ((whyF 10 8 3 9 8 3) == 2)) hf30 rfl rfl rfl rfl rfl rfl (r_pickT rfl rfl) fun ac28 hf31 => ?_)
  refine seq_one (op_val (v := .bool ((whyF 10 8 3 9 8 3) == 2)) hf31 rfl rfl rfl rfl rfl rfl (r_move rfl) fun ac29 hf32 => ?_)
  have hf33 := hf32.know 27 (u := .bool true) rfl (congrArg Value.bool (by decide))
  refine seq_one (op_val (v := .agg #[.int .i64 10, .int .i64 0, .int .i64 0, .int .i64 3, .int .i64 8, .int .i64 0, .int .i64 0, .int .u64 0, .int .u64 0, .int .u64 0, .int .i64 0, .int .i64 0, .int .i64 0, .int .u8 0, .int .u8 0, .int .u8 0, .int .u8 0, .int .u8 0, .int .u8 0, .int .u8 0, .int .u8 0, .int .u8 0, .int .u8 0, .int .u8 0, .int .u8 0, .int .u8 0, .int .u8 0, .int .u8 0, .int .u8 0, .int .u64 0, .bool false, .int .u64 0, .int .i64 0, .int .u64 0, .int .i64 0, .int .i64 0, .int .i64 0]) hf33 rfl rfl rfl rfl rfl rfl (r_loadW ag_28 sz_28 rfl (hI14.at 0 rfl) rfl) fun ac30 hf34 => ?_)
  refine seq_one (op_val (v := .agg #[.int .i64 10, .int .i64 0, .int .i64 0]) hf34 rfl rfl rfl rfl rfl rfl (r_build (v := .agg #[.int .i64 10, .int .i64 0, .int .i64 0]) rfl (fun _ => by kernel_rfl)) fun ac31 hf35 => ?_)
  refine seq_one (op_pure hf35 rfl rfl rfl rfl ca_8 (why_pur _ 10 8 3 10 0 0 (LC.mk rfl rfl rfl rfl rfl (by decide) (by decide) (by decide) (by decide) (by decide) (by decide)) ) hI14 fun ac32 wd10 hI15 hf36 => ?_)
  refine seq_one (op_val (v := .bool ((whyF 10 8 3 10 0 0) == 1)) hf36 rfl rfl rfl rfl rfl rfl (r_eql rfl rfl) fun ac33 hf37 => ?_)
  refine seq_one (op_val (v := .bool ((whyF 10 8 3 10 0 0) == 1)) hf37 rfl rfl rfl rfl rfl rfl (r_pickT rfl rfl) fun ac34 hf38 => ?_)
  refine seq_one (op_val (v := .bool ((whyF 10 8 3 10 0 0) == 1)) hf38 rfl rfl rfl rfl rfl rfl (r_move rfl) fun ac35 hf39 => ?_)
  have hf40 := hf39.know 33 (u := .bool true) rfl (congrArg Value.bool (by decide))
  refine seq_one (op_val (v := .agg #[.int .i64 10, .int .i64 0, .int .i64 0, .int .i64 3, .int .i64 8, .int .i64 0, .int .i64 0, .int .u64 0, .int .u64 0, .int .u64 0, .int .i64 0, .int .i64 0, .int .i64 0, .int .u8 0, .int .u8 0, .int .u8 0, .int .u8 0, .int .u8 0, .int .u8 0, .int .u8 0, .int .u8 0, .int .u8 0, .int .u8 0, .int .u8 0, .int .u8 0, .int .u8 0, .int .u8 0, .int .u8 0, .int .u8 0, .int .u64 0, .bool false, .int .u64 0, .int .i64 0, .int .u64 0, .int .i64 0, .int .i64 0, .int .i64 0]) hf40 rfl rfl rfl rfl rfl rfl (r_loadW ag_28 sz_28 rfl (hI15.at 0 rfl) rfl) fun ac36 hf41 => ?_)
  refine seq_one (op_pure hf41 rfl rfl rfl rfl ca_14 (most_pur _ 10 8 3 (LC.mk rfl rfl rfl rfl rfl (by decide) (by decide) (by decide) (by decide) (by decide) (by decide)) ) hI15 fun ac37 wd11 hI16 hf42 => ?_)
  refine seq_one (op_val (v := .bool ((leftF 10 8 3 0 0 0) == 3)) hf42 rfl rfl rfl rfl rfl rfl (r_eql rfl rfl) fun ac38 hf43 => ?_)
  refine seq_one (op_val (v := .bool ((leftF 10 8 3 0 0 0) == 3)) hf43 rfl rfl rfl rfl rfl rfl (r_pickT rfl rfl) fun ac39 hf44 => ?_)
  refine seq_one (op_val (v := .bool ((leftF 10 8 3 0 0 0) == 3)) hf44 rfl rfl rfl rfl rfl rfl (r_assign rfl) fun ac40 hf45 => ?_)
  refine seq_end ?_
  clear ac6 hf6 ac7 hf7 ac8 wd5 hI10 hf8 ac9 hf9 ac10 hf10 hf11 ac11 hf12 ac12 hf13 ac13 wd6 hI11 hf14 ac14 hf15 ac15 hf16 ac16 hf17 hf18 ac17 hf19 ac18 hf20 ac19 wd7 hI12 hf21 ac20 hf22 ac21 hf23 ac22 hf24 hf25 ac23 hf26 ac24 hf27 ac25 wd8 hI13 hf28 ac26 hf29 ac27 hf30 ac28 hf31 hf32 ac29 hf33 ac30 hf34 ac31 wd9 hI14 hf35 ac32 hf36 ac33 hf37 ac34 hf38 hf39 ac35 hf40 ac36 wd10 hI15 hf41 ac37 hf42 ac38 hf43 ac39 hf44
  refine then_normal ?_
  refine wp_ret ?_
  refine post1 rfl hf45 rfl ⟨?_, hI16.done (fresh_keys (ks := [b1, b2]) rfl (fk_cons hb1 (fk_cons hb2 fk_nil)))⟩
  exact congrArg (fun z => Ending.returned (.bool z)) (by decide)
set_option maxHeartbeats 8000000 in
theorem limitsTells_pur (cs : Array Value) (r b f n0 n1 n2 : Int) (hc : LC cs r b f) (n0l : -9223372036854775808 ≤ n0) (n0r : n0 ≤ 9223372036854775807) (n1l : -9223372036854775808 ≤ n1) (n1r : n1 ≤ 9223372036854775807) (n2l : -9223372036854775808 ≤ n2) (n2r : n2 ≤ 9223372036854775807) (m : Int) (ml : -9223372036854775808 ≤ m) (mr : m ≤ 9223372036854775807) : Pur Try.prog 3 [.agg cs, .agg #[.int .i64 n0, .int .i64 n1, .int .i64 n2], .int .i64 m] (.bool true) := by
  intro w
  have hI1 := Inv.start w
  refine enter (n := 42) Try.func3 rfl rfl rfl ?_
  intro ac1 hf1
  refine code_seq ?_
  refine seq_start (l := [0, 1, 2]) rfl ?_
  refine seq_one (op_box hf1 rfl rfl rfl rfl hI1 fun ac2 b1 wd1 hb1 hI2 hf2 => ?_)
  have hI3 : Inv w [(b1, cs, 28)] wd1 := hI2
  refine seq_one (op_box hf2 rfl rfl rfl rfl hI3 fun ac3 b2 wd2 hb2 hI4 hf3 => ?_)
  have hI5 : Inv w [(b1, cs, 28), (b2, #[.int .i64 n0, .int .i64 n1, .int .i64 n2], 30)] wd2 := hI4
  refine seq_one (op_val (v := .bool false) hf3 rfl rfl rfl rfl rfl rfl (r_assign rfl) fun ac4 hf4 => ?_)
  refine seq_end ?_
  clear ac1 hI1 hf1 hI2 ac2 wd1 hI3 hf2 hI4 ac3 hf3
  refine then_normal ?_
  refine code_seq ?_
  refine any_start (fun w => Has [(b1, cs, 28), (b2, #[.int .i64 n0, .int .i64 n1, .int .i64 n2], 30)] w) follows (Has.drew (Has.cons (hI5.at 0 rfl) (Has.cons (hI5.at 1 rfl) Has.nil))) ?_
  have hS1 : Has [(b1, cs, 28), (b2, #[.int .i64 n0, .int .i64 n1, .int .i64 n2], 30)] _ := Has.drew (Has.cons (hI5.at 0 rfl) (Has.cons (hI5.at 1 rfl) Has.nil))
  have hI6 := hI5.drew
  refine any_val (i := 0) (v := .agg cs) hf4 rfl rfl rfl rfl rfl rfl (fun _ _ _ h => h) (by kernel_rfl) (by kernel_rfl) (by kernel_rfl) (fun wd2 hS1 => (r_loadW ag_28 sz_28 rfl (hS1.at 0 rfl) hc.size)) hS1 fun ac5 hf5 => ?_
  refine any_val (i := 1) (v := .agg #[.int .i64 n0, .int .i64 n1, .int .i64 n2]) hf5 rfl rfl rfl rfl rfl rfl (fun _ _ _ h => h) (by kernel_rfl) (by kernel_rfl) (by kernel_rfl) (fun wd2 hS1 => (r_loadW ag_30 sz_30 rfl (hS1.at 1 rfl) rfl)) hS1 fun ac6 hf6 => ?_
  refine any_val (i := 3) (v := .agg cs) hf6 rfl rfl rfl rfl rfl rfl (fun _ _ _ h => h) (by kernel_rfl) (by kernel_rfl) (by kernel_rfl) (fun wd2 hS1 => (r_loadW ag_28 sz_28 rfl (hS1.at 0 rfl) hc.size)) hS1 fun ac7 hf7 => ?_
  refine any_val (i := 4) (v := .agg #[.int .i64 n0, .int .i64 n1, .int .i64 n2]) hf7 rfl rfl rfl rfl rfl rfl (fun _ _ _ h => h) (by kernel_rfl) (by kernel_rfl) (by kernel_rfl) (fun wd2 hS1 => (r_loadW ag_30 sz_30 rfl (hS1.at 1 rfl) rfl)) hS1 fun ac8 hf8 => ?_
  refine any_one (i := 2) (by kernel_rfl) ?_
  refine (op_pure hf8 rfl rfl rfl rfl ca_8 (why_pur _ r b f n0 n1 n2 hc ) hI6 fun ac9 wd3 hI7 hf9 => ⟨?_, ?_⟩)
  · exact (Has.cons (hI7.at 0 rfl) (Has.cons (hI7.at 1 rfl) Has.nil))
  have hS2 : Has [(b1, cs, 28), (b2, #[.int .i64 n0, .int .i64 n1, .int .i64 n2], 30)] _ := (Has.cons (hI7.at 0 rfl) (Has.cons (hI7.at 1 rfl) Has.nil))
  refine any_one (i := 5) (by kernel_rfl) ?_
  refine (op_pure hf9 rfl rfl rfl rfl ca_9 (whyR_pur _ r b f n0 n1 n2 hc ) hI7 fun ac10 wd4 hI8 hf10 => ⟨?_, ?_⟩)
  · exact (Has.cons (hI8.at 0 rfl) (Has.cons (hI8.at 1 rfl) Has.nil))
  have hS3 : Has [(b1, cs, 28), (b2, #[.int .i64 n0, .int .i64 n1, .int .i64 n2], 30)] _ := (Has.cons (hI8.at 0 rfl) (Has.cons (hI8.at 1 rfl) Has.nil))
  refine any_val (i := 6) (v := .bool ((whyF r b f n0 n1 n2) == (whyF r b f n0 n1 n2))) hf10 rfl rfl rfl rfl rfl rfl (fun _ _ _ h => h) (by kernel_rfl) (by kernel_rfl) (by kernel_rfl) (fun wd4 hS3 => (r_eql rfl rfl)) hS3 fun ac11 hf11 => ?_
  refine any_val (i := 7) (v := .bool ((whyF r b f n0 n1 n2) == (whyF r b f n0 n1 n2))) hf11 rfl rfl rfl rfl rfl rfl (fun _ _ _ h => h) (by kernel_rfl) (by kernel_rfl) (by kernel_rfl) (fun wd4 hS3 => (r_move rfl)) hS3 fun ac12 hf12 => ?_
  have hf13 := hf12.know 14 (u := .bool true) rfl (congrArg Value.bool (beq_self_eq_true _))
  refine any_val (i := 8) (v := .agg cs) hf13 rfl rfl rfl rfl rfl rfl (fun _ _ _ h => h) (by kernel_rfl) (by kernel_rfl) (by kernel_rfl) (fun wd4 hS3 => (r_loadW ag_28 sz_28 rfl (hS3.at 0 rfl) hc.size)) hS3 fun ac13 hf14 => ?_
  refine any_val (i := 9) (v := .agg #[.int .i64 n0, .int .i64 n1, .int .i64 n2]) hf14 rfl rfl rfl rfl rfl rfl (fun _ _ _ h => h) (by kernel_rfl) (by kernel_rfl) (by kernel_rfl) (fun wd4 hS3 => (r_loadW ag_30 sz_30 rfl (hS3.at 1 rfl) rfl)) hS3 fun ac14 hf15 => ?_
  refine any_val (i := 11) (v := .agg cs) hf15 rfl rfl rfl rfl rfl rfl (fun _ _ _ h => h) (by kernel_rfl) (by kernel_rfl) (by kernel_rfl) (fun wd4 hS3 => (r_loadW ag_28 sz_28 rfl (hS3.at 0 rfl) hc.size)) hS3 fun ac15 hf16 => ?_
  refine any_val (i := 12) (v := .agg #[.int .i64 n0, .int .i64 n1, .int .i64 n2]) hf16 rfl rfl rfl rfl rfl rfl (fun _ _ _ h => h) (by kernel_rfl) (by kernel_rfl) (by kernel_rfl) (fun wd4 hS3 => (r_loadW ag_30 sz_30 rfl (hS3.at 1 rfl) rfl)) hS3 fun ac16 hf17 => ?_
  refine any_one (i := 10) (by kernel_rfl) ?_
  refine (op_pure hf17 rfl rfl rfl rfl ca_10 (left_pur _ r b f n0 n1 n2 hc n0l n0r n1l n1r n2l n2r) hI8 fun ac17 wd5 hI9 hf18 => ⟨?_, ?_⟩)
  · exact (Has.cons (hI9.at 0 rfl) (Has.cons (hI9.at 1 rfl) Has.nil))
  have hS4 : Has [(b1, cs, 28), (b2, #[.int .i64 n0, .int .i64 n1, .int .i64 n2], 30)] _ := (Has.cons (hI9.at 0 rfl) (Has.cons (hI9.at 1 rfl) Has.nil))
  refine any_one (i := 13) (by kernel_rfl) ?_
  refine (op_pure hf18 rfl rfl rfl rfl ca_11 (leftR_pur _ r b f n0 n1 n2 hc n0l n0r n1l n1r n2l n2r) hI9 fun ac18 wd6 hI10 hf19 => ⟨?_, ?_⟩)
  · exact (Has.cons (hI10.at 0 rfl) (Has.cons (hI10.at 1 rfl) Has.nil))
  have hS5 : Has [(b1, cs, 28), (b2, #[.int .i64 n0, .int .i64 n1, .int .i64 n2], 30)] _ := (Has.cons (hI10.at 0 rfl) (Has.cons (hI10.at 1 rfl) Has.nil))
  refine any_val (i := 14) (v := .bool ((leftF r b f n0 n1 n2) == (leftF r b f n0 n1 n2))) hf19 rfl rfl rfl rfl rfl rfl (fun _ _ _ h => h) (by kernel_rfl) (by kernel_rfl) (by kernel_rfl) (fun wd6 hS5 => (r_eql rfl rfl)) hS5 fun ac19 hf20 => ?_
  refine any_val (i := 15) (v := .bool ((leftF r b f n0 n1 n2) == (leftF r b f n0 n1 n2))) hf20 rfl rfl rfl rfl rfl rfl (fun _ _ _ h => h) (by kernel_rfl) (by kernel_rfl) (by kernel_rfl) (fun wd6 hS5 => (r_pickT rfl rfl)) hS5 fun ac20 hf21 => ?_
  refine any_val (i := 16) (v := .bool ((leftF r b f n0 n1 n2) == (leftF r b f n0 n1 n2))) hf21 rfl rfl rfl rfl rfl rfl (fun _ _ _ h => h) (by kernel_rfl) (by kernel_rfl) (by kernel_rfl) (fun wd6 hS5 => (r_move rfl)) hS5 fun ac21 hf22 => ?_
  have hf23 := hf22.know 23 (u := .bool true) rfl (congrArg Value.bool (beq_self_eq_true _))
  refine any_val (i := 17) (v := .agg #[.int .i64 n0, .int .i64 n1, .int .i64 n2]) hf23 rfl rfl rfl rfl rfl rfl (fun _ _ _ h => h) (by kernel_rfl) (by kernel_rfl) (by kernel_rfl) (fun wd6 hS5 => (r_loadW ag_30 sz_30 rfl (hS5.at 1 rfl) rfl)) hS5 fun ac22 hf24 => ?_
  refine any_val (i := 18) (v := .int .i64 m) hf24 rfl rfl rfl rfl rfl rfl (fun _ _ _ h => h) (by kernel_rfl) (by kernel_rfl) (by kernel_rfl) (fun wd6 hS5 => (r_move rfl)) hS5 fun ac23 hf25 => ?_
  refine any_val (i := 20) (v := .agg #[.int .i64 n0, .int .i64 n1, .int .i64 n2]) hf25 rfl rfl rfl rfl rfl rfl (fun _ _ _ h => h) (by kernel_rfl) (by kernel_rfl) (by kernel_rfl) (fun wd6 hS5 => (r_loadW ag_30 sz_30 rfl (hS5.at 1 rfl) rfl)) hS5 fun ac24 hf26 => ?_
  refine any_val (i := 21) (v := .int .i64 m) hf26 rfl rfl rfl rfl rfl rfl (fun _ _ _ h => h) (by kernel_rfl) (by kernel_rfl) (by kernel_rfl) (fun wd6 hS5 => (r_move rfl)) hS5 fun ac25 hf27 => ?_
  refine any_one (i := 19) (by kernel_rfl) ?_
  refine (op_pure hf27 rfl rfl rfl rfl ca_12 (with_pur n0 n1 n2 m n0l n0r n1l n1r n2l n2r ml mr) hI10 fun ac26 wd7 hI11 hf28 => ⟨?_, ?_⟩)
  · exact (Has.cons (hI11.at 0 rfl) (Has.cons (hI11.at 1 rfl) Has.nil))
  have hS6 : Has [(b1, cs, 28), (b2, #[.int .i64 n0, .int .i64 n1, .int .i64 n2], 30)] _ := (Has.cons (hI11.at 0 rfl) (Has.cons (hI11.at 1 rfl) Has.nil))
  refine any_one (i := 22) (by kernel_rfl) ?_
  refine (op_pure hf28 rfl rfl rfl rfl ca_13 (withR_pur n0 n1 n2 m n0l n0r n1l n1r n2l n2r ml mr) hI11 fun ac27 wd8 hI12 hf29 => ⟨?_, ?_⟩)
  · exact (Has.cons (hI12.at 0 rfl) (Has.cons (hI12.at 1 rfl) Has.nil))
  have hS7 : Has [(b1, cs, 28), (b2, #[.int .i64 n0, .int .i64 n1, .int .i64 n2], 30)] _ := (Has.cons (hI12.at 0 rfl) (Has.cons (hI12.at 1 rfl) Has.nil))
  refine any_val (i := 23) (v := .bool (eqA (#[.int .i64 (moreF n0 m), .int .i64 (moreF n1 m), .int .i64 (moreF n2 m)]) (#[.int .i64 (moreF n0 m), .int .i64 (moreF n1 m), .int .i64 (moreF n2 m)]))) hf29 rfl rfl rfl rfl rfl rfl (fun _ _ _ h => h) (by kernel_rfl) (by kernel_rfl) (by kernel_rfl) (fun wd8 hS7 => (r_eqA sh_30 kt_30 rw_30 rfl zk_30 eg_30 rfl rfl ⟨⟨_, rfl, (wf_i64 (moreF_range n0l n0r ml mr).1 (moreF_range n0l n0r ml mr).2)⟩, ⟨_, rfl, (wf_i64 (moreF_range n1l n1r ml mr).1 (moreF_range n1l n1r ml mr).2)⟩, ⟨_, rfl, (wf_i64 (moreF_range n2l n2r ml mr).1 (moreF_range n2l n2r ml mr).2)⟩, trivial⟩ ⟨⟨_, rfl, (wf_i64 (moreF_range n0l n0r ml mr).1 (moreF_range n0l n0r ml mr).2)⟩, ⟨_, rfl, (wf_i64 (moreF_range n1l n1r ml mr).1 (moreF_range n1l n1r ml mr).2)⟩, ⟨_, rfl, (wf_i64 (moreF_range n2l n2r ml mr).1 (moreF_range n2l n2r ml mr).2)⟩, trivial⟩)) hS7 fun ac28 hf30 => ?_
  refine any_val (i := 24) (v := .bool (eqA (#[.int .i64 (moreF n0 m), .int .i64 (moreF n1 m), .int .i64 (moreF n2 m)]) (#[.int .i64 (moreF n0 m), .int .i64 (moreF n1 m), .int .i64 (moreF n2 m)]))) hf30 rfl rfl rfl rfl rfl rfl (fun _ _ _ h => h) (by kernel_rfl) (by kernel_rfl) (by kernel_rfl) (fun wd8 hS7 => (r_pickT rfl rfl)) hS7 fun ac29 hf31 => ?_
  refine any_val (i := 25) (v := .bool (eqA (#[.int .i64 (moreF n0 m), .int .i64 (moreF n1 m), .int .i64 (moreF n2 m)]) (#[.int .i64 (moreF n0 m), .int .i64 (moreF n1 m), .int .i64 (moreF n2 m)]))) hf31 rfl rfl rfl rfl rfl rfl (fun _ _ _ h => h) (by kernel_rfl) (by kernel_rfl) (by kernel_rfl) (fun wd8 hS7 => (r_move rfl)) hS7 fun ac30 hf32 => ?_
  have hf33 := hf32.know 32 (u := .bool true) rfl (congrArg Value.bool (eqA_true rfl))
  refine any_val (i := 26) (v := .agg cs) hf33 rfl rfl rfl rfl rfl rfl (fun _ _ _ h => h) (by kernel_rfl) (by kernel_rfl) (by kernel_rfl) (fun wd8 hS7 => (r_loadW ag_28 sz_28 rfl (hS7.at 0 rfl) hc.size)) hS7 fun ac31 hf34 => ?_
  refine any_val (i := 28) (v := .agg cs) hf34 rfl rfl rfl rfl rfl rfl (fun _ _ _ h => h) (by kernel_rfl) (by kernel_rfl) (by kernel_rfl) (fun wd8 hS7 => (r_loadW ag_28 sz_28 rfl (hS7.at 0 rfl) hc.size)) hS7 fun ac32 hf35 => ?_
  refine any_one (i := 27) (by kernel_rfl) ?_
  refine (op_pure hf35 rfl rfl rfl rfl ca_14 (most_pur _ r b f hc ) hI12 fun ac33 wd9 hI13 hf36 => ⟨?_, ?_⟩)
  · exact (Has.cons (hI13.at 0 rfl) (Has.cons (hI13.at 1 rfl) Has.nil))
  have hS8 : Has [(b1, cs, 28), (b2, #[.int .i64 n0, .int .i64 n1, .int .i64 n2], 30)] _ := (Has.cons (hI13.at 0 rfl) (Has.cons (hI13.at 1 rfl) Has.nil))
  refine any_one (i := 29) (by kernel_rfl) ?_
  refine (op_pure hf36 rfl rfl rfl rfl ca_15 (mostR_pur _ r b f hc ) hI13 fun ac34 wd10 hI14 hf37 => ⟨?_, ?_⟩)
  · exact (Has.cons (hI14.at 0 rfl) (Has.cons (hI14.at 1 rfl) Has.nil))
  have hS9 : Has [(b1, cs, 28), (b2, #[.int .i64 n0, .int .i64 n1, .int .i64 n2], 30)] _ := (Has.cons (hI14.at 0 rfl) (Has.cons (hI14.at 1 rfl) Has.nil))
  refine any_val (i := 30) (v := .bool ((leftF r b f 0 0 0) == (leftF r b f 0 0 0))) hf37 rfl rfl rfl rfl rfl rfl (fun _ _ _ h => h) (by kernel_rfl) (by kernel_rfl) (by kernel_rfl) (fun wd10 hS9 => (r_eql rfl rfl)) hS9 fun ac35 hf38 => ?_
  refine any_val (i := 31) (v := .bool ((leftF r b f 0 0 0) == (leftF r b f 0 0 0))) hf38 rfl rfl rfl rfl rfl rfl (fun _ _ _ h => h) (by kernel_rfl) (by kernel_rfl) (by kernel_rfl) (fun wd10 hS9 => (r_pickT rfl rfl)) hS9 fun ac36 hf39 => ?_
  refine any_val (i := 32) (v := .bool ((leftF r b f 0 0 0) == (leftF r b f 0 0 0))) hf39 rfl rfl rfl rfl rfl rfl (fun _ _ _ h => h) (by kernel_rfl) (by kernel_rfl) (by kernel_rfl) (fun wd10 hS9 => (r_move rfl)) hS9 fun ac37 hf40 => ?_
  have hf41 := hf40.know 39 (u := .bool true) rfl (congrArg Value.bool (beq_self_eq_true _))
  refine any_one (i := 33) (by kernel_rfl) ?_
  refine (op_pure hf41 rfl rfl rfl rfl ca_16 awake_pur hI14 fun ac38 wd11 hI15 hf42 => ⟨?_, ?_⟩)
  · exact (Has.cons (hI15.at 0 rfl) (Has.cons (hI15.at 1 rfl) Has.nil))
  have hS10 : Has [(b1, cs, 28), (b2, #[.int .i64 n0, .int .i64 n1, .int .i64 n2], 30)] _ := (Has.cons (hI15.at 0 rfl) (Has.cons (hI15.at 1 rfl) Has.nil))
  refine any_val (i := 34) (v := .bool true) hf42 rfl rfl rfl rfl rfl rfl (fun _ _ _ h => h) (by kernel_rfl) (by kernel_rfl) (by kernel_rfl) (fun wd11 hS10 => (r_pickT rfl rfl)) hS10 fun ac39 hf43 => ?_
  refine any_val (i := 35) (v := .bool true) hf43 rfl rfl rfl rfl rfl rfl (fun _ _ _ h => h) (by kernel_rfl) (by kernel_rfl) (by kernel_rfl) (fun wd11 hS10 => (r_assign rfl)) hS10 fun ac40 hf44 => ?_
  refine any_end (by kernel_rfl) ?_
  clear hI5 ac4 hf4 ac5 hf5 ac6 hf6 ac7 hf7 ac8 wd2 hI6 hf8 hS1 ac9 wd3 hI7 hf9 hS2 ac10 hf10 ac11 hf11 hf12 ac12 hf13 ac13 hf14 ac14 hf15 ac15 hf16 ac16 wd4 hI8 hf17 hS3 ac17 wd5 hI9 hf18 hS4 ac18 hf19 ac19 hf20 ac20 hf21 hf22 ac21 hf23 ac22 hf24 ac23 hf25 ac24 hf26 ac25 wd6 hI10 hf27 hS5 ac26 wd7 hI11 hf28 hS6 ac27 hf29 ac28 hf30 ac29 hf31 hf32 ac30 hf33 ac31 hf34 ac32 wd8 hI12 hf35 hS7 ac33 wd9 hI13 hf36 hS8 ac34 hf37 ac35 hf38 ac36 hf39 hf40 ac37 wd10 hI14 hf41 hS9 ac38 hf42 ac39 hf43 hS10
  refine then_normal ?_
  refine wp_ret ?_
  refine post1 rfl hf44 rfl ⟨?_, hI15.done (fresh_keys (ks := [b1, b2]) rfl (fk_cons hb1 (fk_cons hb2 fk_nil)))⟩
  rfl
theorem bnd {n : Int} (h : (Lit.int .i64 n).wf = true) : -9223372036854775808 ≤ n ∧ n ≤ 9223372036854775807 := bounds_i64 h
theorem LC_of {cs : List Value} (o : Oks [.i .i64, .i .i64, .i .i64, .i .i64, .i .i64, .i .i64, .i .i64, .i .u64, .i .u64, .i .u64, .i .i64, .i .i64, .i .i64, .i .u8, .i .u8, .i .u8, .i .u8, .i .u8, .i .u8, .i .u8, .i .u8, .i .u8, .i .u8, .i .u8, .i .u8, .i .u8, .i .u8, .i .u8, .i .u8, .i .u64, .b, .i .u64, .i .i64, .i .u64, .i .i64, .i .i64, .i .i64] cs) : ∃ r b f, LC cs.toArray r b f := by
  obtain ⟨_, _, rfl, ⟨c0_0, rfl, f0_0⟩, o_0⟩ := Oks_cons o
  obtain ⟨_, _, rfl, ⟨c0_1, rfl, f0_1⟩, o_1⟩ := Oks_cons o_0
  obtain ⟨_, _, rfl, ⟨c0_2, rfl, f0_2⟩, o_2⟩ := Oks_cons o_1
  obtain ⟨_, _, rfl, ⟨c0_3, rfl, f0_3⟩, o_3⟩ := Oks_cons o_2
  obtain ⟨_, _, rfl, ⟨c0_4, rfl, f0_4⟩, o_4⟩ := Oks_cons o_3
  obtain ⟨_, _, rfl, ⟨c0_5, rfl, f0_5⟩, o_5⟩ := Oks_cons o_4
  obtain ⟨_, _, rfl, ⟨c0_6, rfl, f0_6⟩, o_6⟩ := Oks_cons o_5
  obtain ⟨_, _, rfl, ⟨c0_7, rfl, f0_7⟩, o_7⟩ := Oks_cons o_6
  obtain ⟨_, _, rfl, ⟨c0_8, rfl, f0_8⟩, o_8⟩ := Oks_cons o_7
  obtain ⟨_, _, rfl, ⟨c0_9, rfl, f0_9⟩, o_9⟩ := Oks_cons o_8
  obtain ⟨_, _, rfl, ⟨c0_10, rfl, f0_10⟩, o_10⟩ := Oks_cons o_9
  obtain ⟨_, _, rfl, ⟨c0_11, rfl, f0_11⟩, o_11⟩ := Oks_cons o_10
  obtain ⟨_, _, rfl, ⟨c0_12, rfl, f0_12⟩, o_12⟩ := Oks_cons o_11
  obtain ⟨_, _, rfl, ⟨c0_13, rfl, f0_13⟩, o_13⟩ := Oks_cons o_12
  obtain ⟨_, _, rfl, ⟨c0_14, rfl, f0_14⟩, o_14⟩ := Oks_cons o_13
  obtain ⟨_, _, rfl, ⟨c0_15, rfl, f0_15⟩, o_15⟩ := Oks_cons o_14
  obtain ⟨_, _, rfl, ⟨c0_16, rfl, f0_16⟩, o_16⟩ := Oks_cons o_15
  obtain ⟨_, _, rfl, ⟨c0_17, rfl, f0_17⟩, o_17⟩ := Oks_cons o_16
  obtain ⟨_, _, rfl, ⟨c0_18, rfl, f0_18⟩, o_18⟩ := Oks_cons o_17
  obtain ⟨_, _, rfl, ⟨c0_19, rfl, f0_19⟩, o_19⟩ := Oks_cons o_18
  obtain ⟨_, _, rfl, ⟨c0_20, rfl, f0_20⟩, o_20⟩ := Oks_cons o_19
  obtain ⟨_, _, rfl, ⟨c0_21, rfl, f0_21⟩, o_21⟩ := Oks_cons o_20
  obtain ⟨_, _, rfl, ⟨c0_22, rfl, f0_22⟩, o_22⟩ := Oks_cons o_21
  obtain ⟨_, _, rfl, ⟨c0_23, rfl, f0_23⟩, o_23⟩ := Oks_cons o_22
  obtain ⟨_, _, rfl, ⟨c0_24, rfl, f0_24⟩, o_24⟩ := Oks_cons o_23
  obtain ⟨_, _, rfl, ⟨c0_25, rfl, f0_25⟩, o_25⟩ := Oks_cons o_24
  obtain ⟨_, _, rfl, ⟨c0_26, rfl, f0_26⟩, o_26⟩ := Oks_cons o_25
  obtain ⟨_, _, rfl, ⟨c0_27, rfl, f0_27⟩, o_27⟩ := Oks_cons o_26
  obtain ⟨_, _, rfl, ⟨c0_28, rfl, f0_28⟩, o_28⟩ := Oks_cons o_27
  obtain ⟨_, _, rfl, ⟨c0_29, rfl, f0_29⟩, o_29⟩ := Oks_cons o_28
  obtain ⟨_, _, rfl, ⟨c0_30, rfl⟩, o_30⟩ := Oks_cons o_29
  obtain ⟨_, _, rfl, ⟨c0_31, rfl, f0_31⟩, o_31⟩ := Oks_cons o_30
  obtain ⟨_, _, rfl, ⟨c0_32, rfl, f0_32⟩, o_32⟩ := Oks_cons o_31
  obtain ⟨_, _, rfl, ⟨c0_33, rfl, f0_33⟩, o_33⟩ := Oks_cons o_32
  obtain ⟨_, _, rfl, ⟨c0_34, rfl, f0_34⟩, o_34⟩ := Oks_cons o_33
  obtain ⟨_, _, rfl, ⟨c0_35, rfl, f0_35⟩, o_35⟩ := Oks_cons o_34
  obtain ⟨_, _, rfl, ⟨c0_36, rfl, f0_36⟩, o_36⟩ := Oks_cons o_35
  obtain rfl := Oks_nil o_36
  exact ⟨c0_0, c0_4, c0_3, rfl, rfl, rfl, rfl, rfl, (bnd f0_0).1, (bnd f0_0).2, (bnd f0_4).1, (bnd f0_4).2, (bnd f0_3).1, (bnd f0_3).2⟩
theorem counts_of {cs : List Value} (o : Oks [.i .i64, .i .i64, .i .i64] cs) : ∃ n0 n1 n2 : Int, cs = [.int .i64 n0, .int .i64 n1, .int .i64 n2] ∧ (-9223372036854775808 ≤ n0 ∧ n0 ≤ 9223372036854775807) ∧ (-9223372036854775808 ≤ n1 ∧ n1 ≤ 9223372036854775807) ∧ (-9223372036854775808 ≤ n2 ∧ n2 ≤ 9223372036854775807) := by
  obtain ⟨_, _, rfl, ⟨c0_0, rfl, f0_0⟩, o_0⟩ := Oks_cons o
  obtain ⟨_, _, rfl, ⟨c0_1, rfl, f0_1⟩, o_1⟩ := Oks_cons o_0
  obtain ⟨_, _, rfl, ⟨c0_2, rfl, f0_2⟩, o_2⟩ := Oks_cons o_1
  obtain rfl := Oks_nil o_2
  exact ⟨_, _, _, rfl, bnd f0_0, bnd f0_1, bnd f0_2⟩
theorem Pur.walk {P : Program} {g : FuncId} {vs : List Value} {v : Value} (h : Pur P g vs v) (w : World) : Calls P g vs.toArray w fun e w' => e = .returned v ∧ Below w.heap.size w w' := (h w).mono fun _ _ ⟨he, hI⟩ => ⟨he, hI.below⟩
end Go.Proofs.Ytnajiccihfdggaa
