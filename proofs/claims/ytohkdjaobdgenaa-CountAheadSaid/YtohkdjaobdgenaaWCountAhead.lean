/-
  The walk of CountAhead.
-/
import Derived.Test.YtohkdjaobdgenaaAwake
namespace Go.Proofs.Ytohkdjaobdgenaa
set_option linter.unusedVariables false
set_option linter.unusedSimpArgs false
set_option maxRecDepth 100000
open Go.RowKit
set_option maxHeartbeats 8000000 in
theorem countAhead_walk {now was b : Int} {k : Nat} (h1 : 0 ≤ now) (h2 : 0 ≤ was) (tb : 0 ≤ b.tmod 64 ∧ b.tmod 64 ≤ 63) (ek : 1 + b.tmod 64 = (k : Int)) (hk1 : 1 ≤ k) (hk2 : k ≤ 64) (w : World) : Calls Try.prog 7 [.int .u64 now, .int .u64 was, .int .u8 b].toArray w fun e w' => e = .returned (.bool true) ∧ Inv w [] w' := by
  have hI1 := Inv.start w
  refine enter (n := 152) Try.func7 rfl rfl rfl ?_
  intro ac1 hf1
  refine code_seq ?_
  refine seq_start (l := [0]) rfl ?_
  refine seq_one (op_val (v := .bool false) hf1 rfl rfl rfl rfl rfl rfl (r_assign rfl) fun ac2 hf2 => ?_)
  refine seq_end ?_
  clear ac1 hf1
  refine then_normal ?_
  refine code_seq ?_
  refine seq_start (l := [0, 1, 2, 3, 4]) rfl ?_
  refine seq_one (op_val (v := .int .u8 b) hf2 rfl rfl rfl rfl rfl rfl (r_move rfl) fun ac3 hf3 => ?_)
  refine seq_one (op_val (v := .int .u8 (b.tmod 64)) hf3 rfl rfl rfl rfl rfl rfl (r_rem (c := (b.tmod 64)) rfl rfl (by omega) rfl) fun ac4 hf4 => ?_)
  refine seq_one (op_val (v := .int .i64 (b.tmod 64)) hf4 rfl rfl rfl rfl rfl rfl (r_conv (c := (b.tmod 64)) ui_5 ui_3 rfl (wrap_i64 (by omega) (by omega))) fun ac5 hf5 => ?_)
  refine seq_one (op_val (v := .int .i64 (k : Int)) hf5 rfl rfl rfl rfl rfl rfl (r_add (c := (k : Int)) rfl rfl (by rw [← ek]; exact wrap_i64 (by omega) (by omega))) fun ac6 hf6 => ?_)
  refine seq_one (op_val (v := .int .i64 (k : Int)) hf6 rfl rfl rfl rfl rfl rfl (r_assign rfl) fun ac7 hf7 => ?_)
  refine seq_end ?_
  clear ac2 hf2 ac3 hf3 ac4 hf4 ac5 hf5 ac6 hf6
  refine then_normal ?_
  refine code_seq ?_
  refine seq_start (l := [0, 1, 2, 3]) rfl ?_
  refine seq_one (op_val (v := .int .i64 (k : Int)) hf7 rfl rfl rfl rfl rfl rfl (r_move rfl) fun ac8 hf8 => ?_)
  refine seq_one (op_val (v := .int .i64 ((64 - k : Nat) : Int)) hf8 rfl rfl rfl rfl rfl rfl (r_sub (c := ((64 - k : Nat) : Int)) rfl rfl (by rw [show (64 : Int) - (k : Int) = ((64 - k : Nat) : Int) by omega]; exact wrap_i64 (by omega) (by omega))) fun ac9 hf9 => ?_)
  refine seq_one (op_val (v := .int .u64 (pw k - 1)) hf9 rfl rfl rfl rfl rfl rfl (r_shr (c := (pw k - 1)) rfl rfl (by omega) (pw_k hk1 hk2).2.2.2.1) fun ac10 hf10 => ?_)
  refine seq_one (op_val (v := .int .u64 (pw k - 1)) hf10 rfl rfl rfl rfl rfl rfl (r_assign rfl) fun ac11 hf11 => ?_)
  refine seq_end ?_
  clear ac7 hf7 ac8 hf8 ac9 hf9 ac10 hf10
  refine then_normal ?_
  refine code_seq ?_
  refine seq_start (l := [0, 1, 2, 3, 4, 5, 6, 7]) rfl ?_
  refine seq_one (op_val (v := .int .u64 now) hf11 rfl rfl rfl rfl rfl rfl (r_move rfl) fun ac12 hf12 => ?_)
  refine seq_one (op_val (v := .int .u64 (pw k - 1)) hf12 rfl rfl rfl rfl rfl rfl (r_move rfl) fun ac13 hf13 => ?_)
  refine seq_one (op_val (v := .int .u64 (now % pw k)) hf13 rfl rfl rfl rfl rfl rfl (r_and (c := (now % pw k)) rfl rfl (and_pw hk1 hk2 (by omega))) fun ac14 hf14 => ?_)
  refine seq_one (op_val (v := .int .u64 was) hf14 rfl rfl rfl rfl rfl rfl (r_move rfl) fun ac15 hf15 => ?_)
  refine seq_one (op_val (v := .int .u64 (pw k - 1)) hf15 rfl rfl rfl rfl rfl rfl (r_move rfl) fun ac16 hf16 => ?_)
  refine seq_one (op_val (v := .int .u64 (was % pw k)) hf16 rfl rfl rfl rfl rfl rfl (r_and (c := (was % pw k)) rfl rfl (and_pw hk1 hk2 (by omega))) fun ac17 hf17 => ?_)
  refine seq_one (op_val (v := .int .u64 (now % pw k)) hf17 rfl rfl rfl rfl rfl rfl (r_assign rfl) fun ac18 hf18 => ?_)
  refine seq_one (op_val (v := .int .u64 (was % pw k)) hf18 rfl rfl rfl rfl rfl rfl (r_assign rfl) fun ac19 hf19 => ?_)
  refine seq_end ?_
  clear ac11 hf11 ac12 hf12 ac13 hf13 ac14 hf14 ac15 hf15 ac16 hf16 ac17 hf17 ac18 hf18
  refine then_normal ?_
  refine code_seq ?_
  refine seq_start (l := [0, 1, 2, 3, 4, 5, 6, 7, 8]) rfl ?_
  refine seq_one (op_val (v := .int .u64 (now % pw k)) hf19 rfl rfl rfl rfl rfl rfl (r_move rfl) fun ac20 hf20 => ?_)
  refine seq_one (op_val (v := .int .u64 (was % pw k)) hf20 rfl rfl rfl rfl rfl rfl (r_move rfl) fun ac21 hf21 => ?_)
  refine seq_one (op_val (v := .int .i64 (k : Int)) hf21 rfl rfl rfl rfl rfl rfl (r_move rfl) fun ac22 hf22 => ?_)
  refine seq_one (op_pure hf22 rfl rfl rfl rfl ca_9 (ahead_ok (k := k) hk1 hk2 (by have := md_b (m := now) hk1 hk2; omega) (by have := md_b (m := was) hk1 hk2; omega)) hI1 fun ac23 wd1 hI2 hf23 => ?_)
  refine seq_one (op_val (v := .tuple #[.int .u64 (((now % pw k) - (was % pw k)) % pw k), .int .i64 0]) hf23 rfl rfl rfl rfl rfl rfl (r_move rfl) fun ac24 hf24 => ?_)
  refine seq_one (op_val (v := .int .u64 (((now % pw k) - (was % pw k)) % pw k)) hf24 rfl rfl rfl rfl rfl rfl (r_extract rfl rfl) fun ac25 hf25 => ?_)
  refine seq_one (op_val (v := .int .i64 0) hf25 rfl rfl rfl rfl rfl rfl (r_extract rfl rfl) fun ac26 hf26 => ?_)
  refine seq_one (op_val (v := .int .u64 (((now % pw k) - (was % pw k)) % pw k)) hf26 rfl rfl rfl rfl rfl rfl (r_assign rfl) fun ac27 hf27 => ?_)
  refine seq_one (op_val (v := .int .i64 0) hf27 rfl rfl rfl rfl rfl rfl (r_assign rfl) fun ac28 hf28 => ?_)
  refine seq_end ?_
  clear ac19 hf19 ac20 hf20 ac21 hf21 ac22 hI1 hf22 ac23 hf23 ac24 hf24 ac25 hf25 ac26 hf26 ac27 hf27
  refine then_normal ?_
  refine code_seq ?_
  refine seq_start (l := [0, 1, 2, 3, 4, 5, 6, 7, 8]) rfl ?_
  refine seq_one (op_val (v := .int .u64 (was % pw k)) hf28 rfl rfl rfl rfl rfl rfl (r_move rfl) fun ac29 hf29 => ?_)
  refine seq_one (op_val (v := .int .u64 (now % pw k)) hf29 rfl rfl rfl rfl rfl rfl (r_move rfl) fun ac30 hf30 => ?_)
  refine seq_one (op_val (v := .int .i64 (k : Int)) hf30 rfl rfl rfl rfl rfl rfl (r_move rfl) fun ac31 hf31 => ?_)
  refine seq_one (op_pure hf31 rfl rfl rfl rfl ca_9 (ahead_ok (k := k) hk1 hk2 (by have := md_b (m := was) hk1 hk2; omega) (by have := md_b (m := now) hk1 hk2; omega)) hI2 fun ac32 wd2 hI3 hf32 => ?_)
  refine seq_one (op_val (v := .tuple #[.int .u64 (((was % pw k) - (now % pw k)) % pw k), .int .i64 0]) hf32 rfl rfl rfl rfl rfl rfl (r_move rfl) fun ac33 hf33 => ?_)
  refine seq_one (op_val (v := .int .u64 (((was % pw k) - (now % pw k)) % pw k)) hf33 rfl rfl rfl rfl rfl rfl (r_extract rfl rfl) fun ac34 hf34 => ?_)
  refine seq_one (op_val (v := .int .i64 0) hf34 rfl rfl rfl rfl rfl rfl (r_extract rfl rfl) fun ac35 hf35 => ?_)
  refine seq_one (op_val (v := .int .u64 (((was % pw k) - (now % pw k)) % pw k)) hf35 rfl rfl rfl rfl rfl rfl (r_assign rfl) fun ac36 hf36 => ?_)
  refine seq_one (op_val (v := .int .i64 0) hf36 rfl rfl rfl rfl rfl rfl (r_assign rfl) fun ac37 hf37 => ?_)
  refine seq_end ?_
  clear ac28 hf28 ac29 hf29 ac30 hf30 ac31 wd1 hI2 hf31 ac32 hf32 ac33 hf33 ac34 hf34 ac35 hf35 ac36 hf36
  refine then_normal ?_
  refine code_seq ?_
  refine seq_start (l := [0, 1, 2, 3, 4, 5, 6, 7, 8]) rfl ?_
  refine seq_one (op_val (v := .int .u64 (now % pw k)) hf37 rfl rfl rfl rfl rfl rfl (r_move rfl) fun ac38 hf38 => ?_)
  refine seq_one (op_val (v := .int .u64 (now % pw k)) hf38 rfl rfl rfl rfl rfl rfl (r_move rfl) fun ac39 hf39 => ?_)
  refine seq_one (op_val (v := .int .i64 (k : Int)) hf39 rfl rfl rfl rfl rfl rfl (r_move rfl) fun ac40 hf40 => ?_)
  refine seq_one (op_pure hf40 rfl rfl rfl rfl ca_9 (ahead_ok (k := k) hk1 hk2 (by have := md_b (m := now) hk1 hk2; omega) (by have := md_b (m := now) hk1 hk2; omega)) hI3 fun ac41 wd3 hI4 hf41 => ?_)
  refine seq_one (op_val (v := .tuple #[.int .u64 (((now % pw k) - (now % pw k)) % pw k), .int .i64 0]) hf41 rfl rfl rfl rfl rfl rfl (r_move rfl) fun ac42 hf42 => ?_)
  refine seq_one (op_val (v := .int .u64 (((now % pw k) - (now % pw k)) % pw k)) hf42 rfl rfl rfl rfl rfl rfl (r_extract rfl rfl) fun ac43 hf43 => ?_)
  refine seq_one (op_val (v := .int .i64 0) hf43 rfl rfl rfl rfl rfl rfl (r_extract rfl rfl) fun ac44 hf44 => ?_)
  refine seq_one (op_val (v := .int .u64 (((now % pw k) - (now % pw k)) % pw k)) hf44 rfl rfl rfl rfl rfl rfl (r_assign rfl) fun ac45 hf45 => ?_)
  refine seq_one (op_val (v := .int .i64 0) hf45 rfl rfl rfl rfl rfl rfl (r_assign rfl) fun ac46 hf46 => ?_)
  refine seq_end ?_
  clear ac37 hf37 ac38 hf38 ac39 hf39 ac40 wd2 hI3 hf40 ac41 hf41 ac42 hf42 ac43 hf43 ac44 hf44 ac45 hf45
  refine then_normal ?_
  refine code_seq ?_
  refine code_seq ?_
  refine seq_start (l := [0, 1, 2, 3, 4, 5, 6, 7, 8, 9, 10, 11, 12, 13, 14, 15, 16, 17, 18, 19, 20, 21, 22, 23, 24, 25, 26, 27, 28, 29, 30, 31, 32, 33, 34, 35, 36, 37, 38, 39, 40, 41, 42, 43]) rfl ?_
  refine seq_one (op_val (v := .int .i64 0) hf46 rfl rfl rfl rfl rfl rfl (r_move rfl) fun ac47 hf47 => ?_)
  refine seq_one (op_val (v := .bool false) hf47 rfl rfl rfl rfl rfl rfl (r_neqC rfl rfl (by decide)) fun ac48 hf48 => ?_)
  refine seq_one (op_val (v := .bool false) hf48 rfl rfl rfl rfl rfl rfl (r_move rfl) fun ac49 hf49 => ?_)
  refine seq_one (op_val (v := .int .i64 0) hf49 rfl rfl rfl rfl rfl rfl (r_move rfl) fun ac50 hf50 => ?_)
  refine seq_one (op_val (v := .bool false) hf50 rfl rfl rfl rfl rfl rfl (r_neqC rfl rfl (by decide)) fun ac51 hf51 => ?_)
  refine seq_one (op_val (v := .bool false) hf51 rfl rfl rfl rfl rfl rfl (r_pickF rfl rfl) fun ac52 hf52 => ?_)
  refine seq_one (op_val (v := .bool false) hf52 rfl rfl rfl rfl rfl rfl (r_move rfl) fun ac53 hf53 => ?_)
  refine seq_one (op_val (v := .int .i64 0) hf53 rfl rfl rfl rfl rfl rfl (r_move rfl) fun ac54 hf54 => ?_)
  refine seq_one (op_val (v := .bool false) hf54 rfl rfl rfl rfl rfl rfl (r_neqC rfl rfl (by decide)) fun ac55 hf55 => ?_)
  refine seq_one (op_val (v := .bool false) hf55 rfl rfl rfl rfl rfl rfl (r_pickF rfl rfl) fun ac56 hf56 => ?_)
  refine seq_one (op_val (v := .bool false) hf56 rfl rfl rfl rfl rfl rfl (r_move rfl) fun ac57 hf57 => ?_)
  refine seq_one (op_val (v := .int .u64 (((now % pw k) - (now % pw k)) % pw k)) hf57 rfl rfl rfl rfl rfl rfl (r_move rfl) fun ac58 hf58 => ?_)
  refine seq_one (op_val (v := .bool ((((now % pw k) - (now % pw k)) % pw k) != 0)) hf58 rfl rfl rfl rfl rfl rfl (r_neq rfl rfl) fun ac59 hf59 => ?_)
  refine seq_one (op_val (v := .bool ((((now % pw k) - (now % pw k)) % pw k) != 0)) hf59 rfl rfl rfl rfl rfl rfl (r_pickF rfl rfl) fun ac60 hf60 => ?_)
  refine seq_one (op_val (v := .bool ((((now % pw k) - (now % pw k)) % pw k) != 0)) hf60 rfl rfl rfl rfl rfl rfl (r_move rfl) fun ac61 hf61 => ?_)
  have hf62 := hf61.know 73 (u := .bool false) rfl (congrArg Value.bool (bne_eq_false_iff_eq.2 (by rw [Int.sub_self, Int.zero_emod])))
  refine seq_one (op_val (v := .int .u64 (((now % pw k) - (was % pw k)) % pw k)) hf62 rfl rfl rfl rfl rfl rfl (r_move rfl) fun ac62 hf63 => ?_)
  refine seq_one (op_val (v := .int .u64 (pw k - 1)) hf63 rfl rfl rfl rfl rfl rfl (r_move rfl) fun ac63 hf64 => ?_)
  refine seq_one (op_val (v := .bool (decide ((((now % pw k) - (was % pw k)) % pw k) > (pw k - 1)))) hf64 rfl rfl rfl rfl rfl rfl (r_gtr rfl rfl) fun ac64 hf65 => ?_)
  refine seq_one (op_val (v := .bool (decide ((((now % pw k) - (was % pw k)) % pw k) > (pw k - 1)))) hf65 rfl rfl rfl rfl rfl rfl (r_pickF rfl rfl) fun ac65 hf66 => ?_)
  refine seq_one (op_val (v := .bool (decide ((((now % pw k) - (was % pw k)) % pw k) > (pw k - 1)))) hf66 rfl rfl rfl rfl rfl rfl (r_move rfl) fun ac66 hf67 => ?_)
  have hf68 := hf67.know 78 (u := .bool false) rfl (congrArg Value.bool (decide_eq_false (by have := md_b (m := (now % pw k - was % pw k)) hk1 hk2; omega)))
  refine seq_one (op_val (v := .int .u64 (was % pw k)) hf68 rfl rfl rfl rfl rfl rfl (r_move rfl) fun ac67 hf69 => ?_)
  refine seq_one (op_val (v := .int .u64 (((now % pw k) - (was % pw k)) % pw k)) hf69 rfl rfl rfl rfl rfl rfl (r_move rfl) fun ac68 hf70 => ?_)
  refine seq_one (op_val (v := .int .u64 (IntKind.wrap .u64 ((was % pw k) + (((now % pw k) - (was % pw k)) % pw k)))) hf70 rfl rfl rfl rfl rfl rfl (r_add rfl rfl rfl) fun ac69 hf71 => ?_)
  refine seq_one (op_val (v := .int .u64 (pw k - 1)) hf71 rfl rfl rfl rfl rfl rfl (r_move rfl) fun ac70 hf72 => ?_)
  refine seq_one (op_val (v := .int .u64 (((was % pw k) + (((now % pw k) - (was % pw k)) % pw k)) % pw k)) hf72 rfl rfl rfl rfl rfl rfl (r_and (c := (((was % pw k) + (((now % pw k) - (was % pw k)) % pw k)) % pw k)) rfl rfl (and_wr hk1 hk2)) fun ac71 hf73 => ?_)
  refine seq_one (op_val (v := .int .u64 (now % pw k)) hf73 rfl rfl rfl rfl rfl rfl (r_move rfl) fun ac72 hf74 => ?_)
  refine seq_one (op_val (v := .bool ((((was % pw k) + (((now % pw k) - (was % pw k)) % pw k)) % pw k) != (now % pw k))) hf74 rfl rfl rfl rfl rfl rfl (r_neq rfl rfl) fun ac73 hf75 => ?_)
  refine seq_one (op_val (v := .bool ((((was % pw k) + (((now % pw k) - (was % pw k)) % pw k)) % pw k) != (now % pw k))) hf75 rfl rfl rfl rfl rfl rfl (r_pickF rfl rfl) fun ac74 hf76 => ?_)
  refine seq_one (op_val (v := .bool ((((was % pw k) + (((now % pw k) - (was % pw k)) % pw k)) % pw k) != (now % pw k))) hf76 rfl rfl rfl rfl rfl rfl (r_move rfl) fun ac75 hf77 => ?_)
  have hf78 := hf77.know 87 (u := .bool false) rfl (congrArg Value.bool (bne_eq_false_iff_eq.2 (ahead_a hk1 hk2)))
  refine seq_one (op_val (v := .int .u64 (((now % pw k) - (was % pw k)) % pw k)) hf78 rfl rfl rfl rfl rfl rfl (r_move rfl) fun ac76 hf79 => ?_)
  refine seq_one (op_val (v := .int .u64 (((was % pw k) - (now % pw k)) % pw k)) hf79 rfl rfl rfl rfl rfl rfl (r_move rfl) fun ac77 hf80 => ?_)
  refine seq_one (op_val (v := .int .u64 (IntKind.wrap .u64 ((((now % pw k) - (was % pw k)) % pw k) + (((was % pw k) - (now % pw k)) % pw k)))) hf80 rfl rfl rfl rfl rfl rfl (r_add rfl rfl rfl) fun ac78 hf81 => ?_)
  refine seq_one (op_val (v := .int .u64 (pw k - 1)) hf81 rfl rfl rfl rfl rfl rfl (r_move rfl) fun ac79 hf82 => ?_)
  refine seq_one (op_val (v := .int .u64 (((((now % pw k) - (was % pw k)) % pw k) + (((was % pw k) - (now % pw k)) % pw k)) % pw k)) hf82 rfl rfl rfl rfl rfl rfl (r_and (c := (((((now % pw k) - (was % pw k)) % pw k) + (((was % pw k) - (now % pw k)) % pw k)) % pw k)) rfl rfl (and_wr hk1 hk2)) fun ac80 hf83 => ?_)
  refine seq_one (op_val (v := .bool ((((((now % pw k) - (was % pw k)) % pw k) + (((was % pw k) - (now % pw k)) % pw k)) % pw k) != 0)) hf83 rfl rfl rfl rfl rfl rfl (r_neq rfl rfl) fun ac81 hf84 => ?_)
  refine seq_one (op_val (v := .bool ((((((now % pw k) - (was % pw k)) % pw k) + (((was % pw k) - (now % pw k)) % pw k)) % pw k) != 0)) hf84 rfl rfl rfl rfl rfl rfl (r_pickF rfl rfl) fun ac82 hf85 => ?_)
  refine seq_one (op_val (v := .bool ((((((now % pw k) - (was % pw k)) % pw k) + (((was % pw k) - (now % pw k)) % pw k)) % pw k) != 0)) hf85 rfl rfl rfl rfl rfl rfl (r_move rfl) fun ac83 hf86 => ?_)
  have hf87 := hf86.know 95 (u := .bool false) rfl (congrArg Value.bool (bne_eq_false_iff_eq.2 (ahead_b hk1 hk2)))
  refine seq_one (op_val (v := .int .u64 (((now % pw k) - (was % pw k)) % pw k)) hf87 rfl rfl rfl rfl rfl rfl (r_move rfl) fun ac84 hf88 => ?_)
  refine seq_one (op_val (v := .bool ((((now % pw k) - (was % pw k)) % pw k) == 0)) hf88 rfl rfl rfl rfl rfl rfl (r_eql rfl rfl) fun ac85 hf89 => ?_)
  refine seq_one (op_val (v := .int .u64 (now % pw k)) hf89 rfl rfl rfl rfl rfl rfl (r_move rfl) fun ac86 hf90 => ?_)
  refine seq_one (op_val (v := .int .u64 (was % pw k)) hf90 rfl rfl rfl rfl rfl rfl (r_move rfl) fun ac87 hf91 => ?_)
  refine seq_one (op_val (v := .bool ((now % pw k) == (was % pw k))) hf91 rfl rfl rfl rfl rfl rfl (r_eql rfl rfl) fun ac88 hf92 => ?_)
  refine seq_one (op_val (v := .bool (((((now % pw k) - (was % pw k)) % pw k) == 0) != ((now % pw k) == (was % pw k)))) hf92 rfl rfl rfl rfl rfl rfl (r_neB ub_4 rfl rfl) fun ac89 hf93 => ?_)
  refine seq_one (op_val (v := .bool (((((now % pw k) - (was % pw k)) % pw k) == 0) != ((now % pw k) == (was % pw k)))) hf93 rfl rfl rfl rfl rfl rfl (r_pickF rfl rfl) fun ac90 hf94 => ?_)
  refine seq_end ?_
  clear ac46 hf46 ac47 hf47 ac48 hf48 ac49 hf49 ac50 hf50 ac51 hf51 ac52 hf52 ac53 hf53 ac54 hf54 ac55 hf55 ac56 hf56 ac57 hf57 ac58 hf58 ac59 hf59 ac60 hf60 hf61 ac61 hf62 ac62 hf63 ac63 hf64 ac64 hf65 ac65 hf66 hf67 ac66 hf68 ac67 hf69 ac68 hf70 ac69 hf71 ac70 hf72 ac71 hf73 ac72 hf74 ac73 hf75 ac74 hf76 hf77 ac75 hf78 ac76 hf79 ac77 hf80 ac78 hf81 ac79 hf82 ac80 hf83 ac81 hf84 ac82 hf85 hf86 ac83 hf87 ac84 hf88 ac85 hf89 ac86 hf90 ac87 hf91 ac88 hf92 ac89 hf93
  refine then_normal ?_
  have hf95 := hf94.know 102 (u := .bool false) rfl (congrArg Value.bool (ahead_c hk1 hk2))
  refine code_if_false hf95 rfl ?_
  refine wp_skip ?_
  refine then_normal ?_
  refine code_seq ?_
  refine code_seq ?_
  refine seq_start (l := [0, 1]) rfl ?_
  refine seq_one (op_val (v := .int .i64 (k : Int)) hf95 rfl rfl rfl rfl rfl rfl (r_move rfl) fun ac91 hf96 => ?_)
  refine seq_one (op_val (v := .bool (decide ((k : Int) < 64))) hf96 rfl rfl rfl rfl rfl rfl (r_lss rfl rfl) fun ac92 hf97 => ?_)
  refine seq_end ?_
  clear hf94 ac90 hf95 ac91 hf96
  refine then_normal ?_
  refine code_if hf97 rfl (fun c104_1 => ?_) (fun c104_1 => ?_)
  · have hf98 := hf97.know 104 (u := .bool true) rfl (congrArg Value.bool c104_1)
    refine code_seq ?_
    refine seq_start (l := [0, 1, 2, 3, 4, 5, 6, 7, 8, 9]) rfl ?_
    refine seq_one (op_val (v := .int .u64 (now % pw k)) hf98 rfl rfl rfl rfl rfl rfl (r_move rfl) fun ac93 hf99 => ?_)
    refine seq_one (op_val (v := .int .u64 (pw k - 1)) hf99 rfl rfl rfl rfl rfl rfl (r_move rfl) fun ac94 hf100 => ?_)
    refine seq_one (op_val (v := .int .u64 (pw k - 1 + 1)) hf100 rfl rfl rfl rfl rfl rfl (r_add (c := (pw k - 1 + 1)) rfl rfl (wrap_u64 (by have := pw2 hk1 hk2; omega) (by have := pw_lt hk1 (by have := of_decide_eq_true c104_1; omega); omega))) fun ac95 hf101 => ?_)
    refine seq_one (op_val (v := .int .i64 (k : Int)) hf101 rfl rfl rfl rfl rfl rfl (r_move rfl) fun ac96 hf102 => ?_)
    refine seq_one (op_pure hf102 rfl rfl rfl rfl ca_9 (ahead_big (k := k) hk1 hk2 (by have := md_b (m := now) hk1 hk2; have := md_b (m := was) hk1 hk2; omega)) hI4 fun ac97 wd4 hI5 hf103 => ?_)
    refine seq_one (op_val (v := .tuple #[.int .u64 0, .int .i64 2]) hf103 rfl rfl rfl rfl rfl rfl (r_move rfl) fun ac98 hf104 => ?_)
    refine seq_one (op_val (v := .int .u64 0) hf104 rfl rfl rfl rfl rfl rfl (r_extract rfl rfl) fun ac99 hf105 => ?_)
    refine seq_one (op_val (v := .int .i64 2) hf105 rfl rfl rfl rfl rfl rfl (r_extract rfl rfl) fun ac100 hf106 => ?_)
    refine seq_one (op_val (v := .int .u64 0) hf106 rfl rfl rfl rfl rfl rfl (r_assign rfl) fun ac101 hf107 => ?_)
    refine seq_one (op_val (v := .int .i64 2) hf107 rfl rfl rfl rfl rfl rfl (r_assign rfl) fun ac102 hf108 => ?_)
    refine seq_end ?_
    clear hf97 ac92 hf98 ac93 hf99 ac94 hf100 ac95 hf101 ac96 wd3 hI4 hf102 ac97 hf103 ac98 hf104 ac99 hf105 ac100 hf106 ac101 hf107
    refine then_normal ?_
    refine code_seq ?_
    refine seq_start (l := [0, 1, 2, 3, 4, 5, 6, 7, 8, 9, 10, 11]) rfl ?_
    refine seq_one (op_val (v := .int .u64 (pw k - 1)) hf108 rfl rfl rfl rfl rfl rfl (r_move rfl) fun ac103 hf109 => ?_)
    refine seq_one (op_val (v := .int .u64 (pw k - 1 + 1)) hf109 rfl rfl rfl rfl rfl rfl (r_add (c := (pw k - 1 + 1)) rfl rfl (wrap_u64 (by have := pw2 hk1 hk2; omega) (by have := pw_lt hk1 (by have := of_decide_eq_true c104_1; omega); omega))) fun ac104 hf110 => ?_)
    refine seq_one (op_val (v := .int .u64 (was % pw k)) hf110 rfl rfl rfl rfl rfl rfl (r_move rfl) fun ac105 hf111 => ?_)
    refine seq_one (op_val (v := .int .u64 (pw k - 1 + 1 + was % pw k)) hf111 rfl rfl rfl rfl rfl rfl (r_add (c := (pw k - 1 + 1 + was % pw k)) rfl rfl (wrap_u64 (by have := pw2 hk1 hk2; have := md_b (m := was) hk1 hk2; omega) (by have := pw_lt hk1 (by have := of_decide_eq_true c104_1; omega); have := md_b (m := was) hk1 hk2; omega))) fun ac106 hf112 => ?_)
    refine seq_one (op_val (v := .int .u64 (now % pw k)) hf112 rfl rfl rfl rfl rfl rfl (r_move rfl) fun ac107 hf113 => ?_)
    refine seq_one (op_val (v := .int .i64 (k : Int)) hf113 rfl rfl rfl rfl rfl rfl (r_move rfl) fun ac108 hf114 => ?_)
    refine seq_one (op_pure hf114 rfl rfl rfl rfl ca_9 (ahead_big (k := k) hk1 hk2 (by have := md_b (m := now) hk1 hk2; have := md_b (m := was) hk1 hk2; omega)) hI5 fun ac109 wd5 hI6 hf115 => ?_)
    refine seq_one (op_val (v := .tuple #[.int .u64 0, .int .i64 2]) hf115 rfl rfl rfl rfl rfl rfl (r_move rfl) fun ac110 hf116 => ?_)
    refine seq_one (op_val (v := .int .u64 0) hf116 rfl rfl rfl rfl rfl rfl (r_extract rfl rfl) fun ac111 hf117 => ?_)
    refine seq_one (op_val (v := .int .i64 2) hf117 rfl rfl rfl rfl rfl rfl (r_extract rfl rfl) fun ac112 hf118 => ?_)
    refine seq_one (op_val (v := .int .u64 0) hf118 rfl rfl rfl rfl rfl rfl (r_assign rfl) fun ac113 hf119 => ?_)
    refine seq_one (op_val (v := .int .i64 2) hf119 rfl rfl rfl rfl rfl rfl (r_assign rfl) fun ac114 hf120 => ?_)
    refine seq_end ?_
    clear ac102 hf108 ac103 hf109 ac104 hf110 ac105 hf111 ac106 hf112 ac107 hf113 ac108 wd4 hI5 hf114 ac109 hf115 ac110 hf116 ac111 hf117 ac112 hf118 ac113 hf119
    refine then_normal ?_
    refine code_seq ?_
    refine seq_start (l := [0, 1, 2, 3, 4, 5, 6, 7, 8, 9, 10, 11]) rfl ?_
    refine seq_one (op_val (v := .int .i64 2) hf120 rfl rfl rfl rfl rfl rfl (r_move rfl) fun ac115 hf121 => ?_)
    refine seq_one (op_val (v := .bool false) hf121 rfl rfl rfl rfl rfl rfl (r_neqC rfl rfl (by decide)) fun ac116 hf122 => ?_)
    refine seq_one (op_val (v := .bool false) hf122 rfl rfl rfl rfl rfl rfl (r_move rfl) fun ac117 hf123 => ?_)
    refine seq_one (op_val (v := .int .i64 2) hf123 rfl rfl rfl rfl rfl rfl (r_move rfl) fun ac118 hf124 => ?_)
    refine seq_one (op_val (v := .bool false) hf124 rfl rfl rfl rfl rfl rfl (r_neqC rfl rfl (by decide)) fun ac119 hf125 => ?_)
    refine seq_one (op_val (v := .bool false) hf125 rfl rfl rfl rfl rfl rfl (r_pickF rfl rfl) fun ac120 hf126 => ?_)
    refine seq_one (op_val (v := .bool false) hf126 rfl rfl rfl rfl rfl rfl (r_move rfl) fun ac121 hf127 => ?_)
    refine seq_one (op_val (v := .int .u64 0) hf127 rfl rfl rfl rfl rfl rfl (r_move rfl) fun ac122 hf128 => ?_)
    refine seq_one (op_val (v := .int .u64 0) hf128 rfl rfl rfl rfl rfl rfl (r_move rfl) fun ac123 hf129 => ?_)
    refine seq_one (op_val (v := .int .u64 0) hf129 rfl rfl rfl rfl rfl rfl (r_add (c := 0) rfl rfl (by rfl)) fun ac124 hf130 => ?_)
    refine seq_one (op_val (v := .bool false) hf130 rfl rfl rfl rfl rfl rfl (r_neqC rfl rfl (by decide)) fun ac125 hf131 => ?_)
    refine seq_one (op_val (v := .bool false) hf131 rfl rfl rfl rfl rfl rfl (r_pickF rfl rfl) fun ac126 hf132 => ?_)
    refine seq_end ?_
    clear ac114 hf120 ac115 hf121 ac116 hf122 ac117 hf123 ac118 hf124 ac119 hf125 ac120 hf126 ac121 hf127 ac122 hf128 ac123 hf129 ac124 hf130 ac125 hf131
    refine then_normal ?_
    refine code_if_false hf132 rfl ?_
    refine wp_skip ?_
    refine then_normal ?_
    refine code_seq ?_
    refine seq_start (l := [0, 1, 2, 3, 4, 5]) rfl ?_
    refine seq_one (op_pure hf132 rfl rfl rfl rfl ca_9 (ahead_bits (by decide)) hI6 fun ac127 wd6 hI7 hf133 => ?_)
    refine seq_one (op_val (v := .tuple #[.int .u64 0, .int .i64 2]) hf133 rfl rfl rfl rfl rfl rfl (r_move rfl) fun ac128 hf134 => ?_)
    refine seq_one (op_val (v := .int .u64 0) hf134 rfl rfl rfl rfl rfl rfl (r_extract rfl rfl) fun ac129 hf135 => ?_)
    refine seq_one (op_val (v := .int .i64 2) hf135 rfl rfl rfl rfl rfl rfl (r_extract rfl rfl) fun ac130 hf136 => ?_)
    refine seq_one (op_val (v := .int .u64 0) hf136 rfl rfl rfl rfl rfl rfl (r_assign rfl) fun ac131 hf137 => ?_)
    refine seq_one (op_val (v := .int .i64 2) hf137 rfl rfl rfl rfl rfl rfl (r_assign rfl) fun ac132 hf138 => ?_)
    refine seq_end ?_
    clear ac126 wd5 hI6 hf132 ac127 hf133 ac128 hf134 ac129 hf135 ac130 hf136 ac131 hf137
    refine then_normal ?_
    refine code_seq ?_
    refine seq_start (l := [0, 1, 2, 3, 4, 5]) rfl ?_
    refine seq_one (op_pure hf138 rfl rfl rfl rfl ca_9 (ahead_bits (by decide)) hI7 fun ac133 wd7 hI8 hf139 => ?_)
    refine seq_one (op_val (v := .tuple #[.int .u64 0, .int .i64 2]) hf139 rfl rfl rfl rfl rfl rfl (r_move rfl) fun ac134 hf140 => ?_)
    refine seq_one (op_val (v := .int .u64 0) hf140 rfl rfl rfl rfl rfl rfl (r_extract rfl rfl) fun ac135 hf141 => ?_)
    refine seq_one (op_val (v := .int .i64 2) hf141 rfl rfl rfl rfl rfl rfl (r_extract rfl rfl) fun ac136 hf142 => ?_)
    refine seq_one (op_val (v := .int .u64 0) hf142 rfl rfl rfl rfl rfl rfl (r_assign rfl) fun ac137 hf143 => ?_)
    refine seq_one (op_val (v := .int .i64 2) hf143 rfl rfl rfl rfl rfl rfl (r_assign rfl) fun ac138 hf144 => ?_)
    refine seq_end ?_
    clear ac132 wd6 hI7 hf138 ac133 hf139 ac134 hf140 ac135 hf141 ac136 hf142 ac137 hf143
    refine then_normal ?_
    refine code_seq ?_
    refine seq_start (l := [0, 1, 2, 3, 4, 5, 6, 7, 8, 9]) rfl ?_
    refine seq_one (op_val (v := .int .i64 2) hf144 rfl rfl rfl rfl rfl rfl (r_move rfl) fun ac139 hf145 => ?_)
    refine seq_one (op_val (v := .bool true) hf145 rfl rfl rfl rfl rfl rfl (r_eqlC rfl rfl (by decide)) fun ac140 hf146 => ?_)
    refine seq_one (op_val (v := .bool true) hf146 rfl rfl rfl rfl rfl rfl (r_move rfl) fun ac141 hf147 => ?_)
    refine seq_one (op_val (v := .int .i64 2) hf147 rfl rfl rfl rfl rfl rfl (r_move rfl) fun ac142 hf148 => ?_)
    refine seq_one (op_val (v := .bool true) hf148 rfl rfl rfl rfl rfl rfl (r_eqlC rfl rfl (by decide)) fun ac143 hf149 => ?_)
    refine seq_one (op_val (v := .bool true) hf149 rfl rfl rfl rfl rfl rfl (r_pickT rfl rfl) fun ac144 hf150 => ?_)
    refine seq_one (op_val (v := .bool true) hf150 rfl rfl rfl rfl rfl rfl (r_move rfl) fun ac145 hf151 => ?_)
    refine seq_one (op_pure hf151 rfl rfl rfl rfl ca_13 awake_pur hI8 fun ac146 wd8 hI9 hf152 => ?_)
    refine seq_one (op_val (v := .bool true) hf152 rfl rfl rfl rfl rfl rfl (r_pickT rfl rfl) fun ac147 hf153 => ?_)
    refine seq_one (op_val (v := .bool true) hf153 rfl rfl rfl rfl rfl rfl (r_assign rfl) fun ac148 hf154 => ?_)
    refine seq_end ?_
    clear ac138 hf144 ac139 hf145 ac140 hf146 ac141 hf147 ac142 hf148 ac143 hf149 ac144 hf150 ac145 wd7 hI8 hf151 ac146 hf152 ac147 hf153
    refine then_normal ?_
    refine wp_ret ?_
    refine post1 rfl hf154 rfl ⟨?_, hI9.done (fresh_keys (ks := []) rfl fk_nil)⟩
    rfl
  · have hf155 := hf97.know 104 (u := .bool false) rfl (congrArg Value.bool c104_1)
    refine wp_skip ?_
    refine then_normal ?_
    refine code_seq ?_
    refine seq_start (l := [0, 1, 2, 3, 4, 5]) rfl ?_
    refine seq_one (op_pure hf155 rfl rfl rfl rfl ca_9 (ahead_bits (by decide)) hI4 fun ac149 wd9 hI10 hf156 => ?_)
    refine seq_one (op_val (v := .tuple #[.int .u64 0, .int .i64 2]) hf156 rfl rfl rfl rfl rfl rfl (r_move rfl) fun ac150 hf157 => ?_)
    refine seq_one (op_val (v := .int .u64 0) hf157 rfl rfl rfl rfl rfl rfl (r_extract rfl rfl) fun ac151 hf158 => ?_)
    refine seq_one (op_val (v := .int .i64 2) hf158 rfl rfl rfl rfl rfl rfl (r_extract rfl rfl) fun ac152 hf159 => ?_)
    refine seq_one (op_val (v := .int .u64 0) hf159 rfl rfl rfl rfl rfl rfl (r_assign rfl) fun ac153 hf160 => ?_)
    refine seq_one (op_val (v := .int .i64 2) hf160 rfl rfl rfl rfl rfl rfl (r_assign rfl) fun ac154 hf161 => ?_)
    refine seq_end ?_
    clear hf97 ac92 wd3 hI4 hf155 ac149 hf156 ac150 hf157 ac151 hf158 ac152 hf159 ac153 hf160
    refine then_normal ?_
    refine code_seq ?_
    refine seq_start (l := [0, 1, 2, 3, 4, 5]) rfl ?_
    refine seq_one (op_pure hf161 rfl rfl rfl rfl ca_9 (ahead_bits (by decide)) hI10 fun ac155 wd10 hI11 hf162 => ?_)
    refine seq_one (op_val (v := .tuple #[.int .u64 0, .int .i64 2]) hf162 rfl rfl rfl rfl rfl rfl (r_move rfl) fun ac156 hf163 => ?_)
    refine seq_one (op_val (v := .int .u64 0) hf163 rfl rfl rfl rfl rfl rfl (r_extract rfl rfl) fun ac157 hf164 => ?_)
    refine seq_one (op_val (v := .int .i64 2) hf164 rfl rfl rfl rfl rfl rfl (r_extract rfl rfl) fun ac158 hf165 => ?_)
    refine seq_one (op_val (v := .int .u64 0) hf165 rfl rfl rfl rfl rfl rfl (r_assign rfl) fun ac159 hf166 => ?_)
    refine seq_one (op_val (v := .int .i64 2) hf166 rfl rfl rfl rfl rfl rfl (r_assign rfl) fun ac160 hf167 => ?_)
    refine seq_end ?_
    clear ac154 wd9 hI10 hf161 ac155 hf162 ac156 hf163 ac157 hf164 ac158 hf165 ac159 hf166
    refine then_normal ?_
    refine code_seq ?_
    refine seq_start (l := [0, 1, 2, 3, 4, 5, 6, 7, 8, 9]) rfl ?_
    refine seq_one (op_val (v := .int .i64 2) hf167 rfl rfl rfl rfl rfl rfl (r_move rfl) fun ac161 hf168 => ?_)
    refine seq_one (op_val (v := .bool true) hf168 rfl rfl rfl rfl rfl rfl (r_eqlC rfl rfl (by decide)) fun ac162 hf169 => ?_)
    refine seq_one (op_val (v := .bool true) hf169 rfl rfl rfl rfl rfl rfl (r_move rfl) fun ac163 hf170 => ?_)
    refine seq_one (op_val (v := .int .i64 2) hf170 rfl rfl rfl rfl rfl rfl (r_move rfl) fun ac164 hf171 => ?_)
    refine seq_one (op_val (v := .bool true) hf171 rfl rfl rfl rfl rfl rfl (r_eqlC rfl rfl (by decide)) fun ac165 hf172 => ?_)
    refine seq_one (op_val (v := .bool true) hf172 rfl rfl rfl rfl rfl rfl (r_pickT rfl rfl) fun ac166 hf173 => ?_)
    refine seq_one (op_val (v := .bool true) hf173 rfl rfl rfl rfl rfl rfl (r_move rfl) fun ac167 hf174 => ?_)
    refine seq_one (op_pure hf174 rfl rfl rfl rfl ca_13 awake_pur hI11 fun ac168 wd11 hI12 hf175 => ?_)
    refine seq_one (op_val (v := .bool true) hf175 rfl rfl rfl rfl rfl rfl (r_pickT rfl rfl) fun ac169 hf176 => ?_)
    refine seq_one (op_val (v := .bool true) hf176 rfl rfl rfl rfl rfl rfl (r_assign rfl) fun ac170 hf177 => ?_)
    refine seq_end ?_
    clear ac160 hf167 ac161 hf168 ac162 hf169 ac163 hf170 ac164 hf171 ac165 hf172 ac166 hf173 ac167 wd10 hI11 hf174 ac168 hf175 ac169 hf176
    refine then_normal ?_
    refine wp_ret ?_
    refine post1 rfl hf177 rfl ⟨?_, hI12.done (fresh_keys (ks := []) rfl fk_nil)⟩
    rfl
end Go.Proofs.Ytohkdjaobdgenaa
