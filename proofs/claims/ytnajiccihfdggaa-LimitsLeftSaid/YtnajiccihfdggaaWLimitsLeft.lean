/-
  The walk of LimitsLeft: it comes to true.
-/
import Derived.Test.YtnajiccihfdggaaLaws
import Derived.Test.YtnajiccihfdggaaPlain
namespace Go.Proofs.Ytnajiccihfdggaa
set_option linter.unusedVariables false
set_option linter.unusedSimpArgs false
set_option maxRecDepth 100000
open Go.RowKit
set_option maxHeartbeats 8000000 in
theorem limitsLeft_pur (cs : Array Value) (r b f n0 n1 n2 : Int) (hc : LC cs r b f) (n0l : -9223372036854775808 ≤ n0) (n0r : n0 ≤ 9223372036854775807) (n1l : -9223372036854775808 ≤ n1) (n1r : n1 ≤ 9223372036854775807) (n2l : -9223372036854775808 ≤ n2) (n2r : n2 ≤ 9223372036854775807) : Pur Try.prog 4 [.agg cs, .agg #[.int .i64 n0, .int .i64 n1, .int .i64 n2]] (.bool true) := by
  intro w
  have hI1 := Inv.start w
  refine enter (n := 65) Try.func4 rfl rfl rfl ?_
  intro ac1 hf1
  refine code_seq ?_
  refine seq_start (l := [0, 1, 2]) rfl ?_
  refine seq_one (op_box hf1 rfl rfl rfl rfl hI1 fun ac2 b1 wd1 hb1 hI2 hf2 => ?_)
  have hI3 : Inv w [(b1, cs, 28)] wd1 := hI2
  refine seq_one (op_box hf2 rfl rfl rfl rfl hI3 fun ac3 b2 wd2 hb2 hI4 hf3 => ?_)
  have hI5 : Inv w [(b1, cs, 28), (b2, #[.int .i64 n0, .int .i64 n1, .int .i64 n2], 30)] wd2 := hI4
  refine seq_one (op_val (v := .bool false) hf3 rfl rfl rfl rfl rfl rfl (r_assign rfl) fun ac4 hf4 => ?_)
  refine seq_end ?_
  clear ac1 hI1 hf1 hI2 ac2 wd1 hI3 hf2 hI4 ac3 hf3
  refine then_normal ?_
  refine code_seq ?_
  refine seq_start (l := [0, 1, 2, 3]) rfl ?_
  refine seq_one (op_val (v := .agg cs) hf4 rfl rfl rfl rfl rfl rfl (r_loadW ag_28 sz_28 rfl (hI5.at 0 rfl) hc.size) fun ac5 hf5 => ?_)
  refine seq_one (op_val (v := .agg #[.int .i64 n0, .int .i64 n1, .int .i64 n2]) hf5 rfl rfl rfl rfl rfl rfl (r_loadW ag_30 sz_30 rfl (hI5.at 1 rfl) rfl) fun ac6 hf6 => ?_)
  refine seq_one (op_pure hf6 rfl rfl rfl rfl ca_10 (left_pur _ r b f n0 n1 n2 hc n0l n0r n1l n1r n2l n2r) hI5 fun ac7 wd3 hI6 hf7 => ?_)
  refine seq_one (op_val (v := .int .i64 (leftF r b f n0 n1 n2)) hf7 rfl rfl rfl rfl rfl rfl (r_assign rfl) fun ac8 hf8 => ?_)
  refine seq_end ?_
  clear ac4 hf4 ac5 hf5 ac6 wd2 hI5 hf6 ac7 hf7
  refine then_normal ?_
  refine code_seq ?_
  refine code_seq ?_
  refine seq_start (l := [0, 1, 2, 3, 4, 5, 6, 7, 8, 9, 10]) rfl ?_
  refine seq_one (op_val (v := .int .i64 (leftF r b f n0 n1 n2)) hf8 rfl rfl rfl rfl rfl rfl (r_move rfl) fun ac9 hf9 => ?_)
  refine seq_one (op_val (v := .bool (decide ((leftF r b f n0 n1 n2) < 0))) hf9 rfl rfl rfl rfl rfl rfl (r_lss rfl rfl) fun ac10 hf10 => ?_)
  refine seq_one (op_val (v := .bool (decide ((leftF r b f n0 n1 n2) < 0))) hf10 rfl rfl rfl rfl rfl rfl (r_move rfl) fun ac11 hf11 => ?_)
  have hf12 := hf11.know 13 (u := .bool false) rfl (congrArg Value.bool (decide_eq_false (Int.not_lt.2 (leftF_rng hc n0 n1 n2).1)))
  refine seq_one (op_val (v := .int .i64 (leftF r b f n0 n1 n2)) hf12 rfl rfl rfl rfl rfl rfl (r_move rfl) fun ac12 hf13 => ?_)
  refine seq_one (op_val (v := .bool (decide ((leftF r b f n0 n1 n2) > 0))) hf13 rfl rfl rfl rfl rfl rfl (r_gtr rfl rfl) fun ac13 hf14 => ?_)
  refine seq_one (op_val (v := .agg cs) hf14 rfl rfl rfl rfl rfl rfl (r_loadW ag_28 sz_28 rfl (hI6.at 0 rfl) hc.size) fun ac14 hf15 => ?_)
  refine seq_one (op_val (v := .agg #[.int .i64 n0, .int .i64 n1, .int .i64 n2]) hf15 rfl rfl rfl rfl rfl rfl (r_loadW ag_30 sz_30 rfl (hI6.at 1 rfl) rfl) fun ac15 hf16 => ?_)
  refine seq_one (op_pure hf16 rfl rfl rfl rfl ca_8 (why_pur _ r b f n0 n1 n2 hc ) hI6 fun ac16 wd4 hI7 hf17 => ?_)
  refine seq_one (op_val (v := .bool ((whyF r b f n0 n1 n2) == 0)) hf17 rfl rfl rfl rfl rfl rfl (r_eql rfl rfl) fun ac17 hf18 => ?_)
  refine seq_one (op_val (v := .bool ((decide ((leftF r b f n0 n1 n2) > 0)) != ((whyF r b f n0 n1 n2) == 0))) hf18 rfl rfl rfl rfl rfl rfl (r_neB ub_4 rfl rfl) fun ac18 hf19 => ?_)
  refine seq_one (op_val (v := .bool ((decide ((leftF r b f n0 n1 n2) > 0)) != ((whyF r b f n0 n1 n2) == 0))) hf19 rfl rfl rfl rfl rfl rfl (r_pickF rfl rfl) fun ac19 hf20 => ?_)
  refine seq_end ?_
  clear ac8 hf8 ac9 hf9 ac10 hf10 hf11 ac11 hf12 ac12 hf13 ac13 hf14 ac14 hf15 ac15 wd3 hI6 hf16 ac16 hf17 ac17 hf18 ac18 hf19
  refine then_normal ?_
  have hf21 := hf20.know 21 (u := .bool false) rfl (congrArg Value.bool (law4_pos hc n0 n1 n2))
  refine code_if_false hf21 rfl ?_
  refine wp_skip ?_
  refine then_normal ?_
  refine code_seq ?_
  refine code_seq ?_
  refine seq_start (l := [0, 1, 2, 3, 4, 5]) rfl ?_
  refine seq_one (op_val (v := .int .i64 (leftF r b f n0 n1 n2)) hf21 rfl rfl rfl rfl rfl rfl (r_move rfl) fun ac20 hf22 => ?_)
  refine seq_one (op_val (v := .bool ((leftF r b f n0 n1 n2) == 0)) hf22 rfl rfl rfl rfl rfl rfl (r_eql rfl rfl) fun ac21 hf23 => ?_)
  refine seq_one (op_val (v := .bool ((leftF r b f n0 n1 n2) == 0)) hf23 rfl rfl rfl rfl rfl rfl (r_move rfl) fun ac22 hf24 => ?_)
  rcases Bool.eq_false_or_eq_true ((leftF r b f n0 n1 n2) == 0 : Bool) with g24_1 | g24_1
  · have hf25 := hf24.know 24 (u := .bool true) rfl (congrArg Value.bool g24_1)
    refine seq_one (op_skip hf25 rfl rfl rfl rfl fun ac23 hf26 => ?_)
    refine seq_one (op_skip hf26 rfl rfl rfl rfl fun ac24 hf27 => ?_)
    refine seq_one (op_val (v := .bool true) hf27 rfl rfl rfl rfl rfl rfl (r_pickT rfl rfl) fun ac25 hf28 => ?_)
    refine seq_end ?_
    clear hf20 ac19 hf21 ac20 hf22 ac21 hf23 hf24 ac22 hf25 ac23 hf26 ac24 hf27
    refine then_normal ?_
    refine code_if_true hf28 rfl ?_
    refine code_seq ?_
    refine seq_start (l := [0, 1]) rfl ?_
    refine seq_one (op_pure hf28 rfl rfl rfl rfl ca_16 awake_pur hI7 fun ac26 wd5 hI8 hf29 => ?_)
    refine seq_one (op_val (v := .bool true) hf29 rfl rfl rfl rfl rfl rfl (r_assign rfl) fun ac27 hf30 => ?_)
    refine seq_end ?_
    clear ac25 wd4 hI7 hf28 ac26 hf29
    refine then_normal ?_
    refine wp_ret ?_
    refine then_ret ?_
    refine post1 rfl hf30 rfl ⟨?_, hI8.done (fresh_keys (ks := [b1, b2]) rfl (fk_cons hb1 (fk_cons hb2 fk_nil)))⟩
    rfl
  · have hf31 := hf24.know 24 (u := .bool false) rfl (congrArg Value.bool g24_1)
    refine seq_one (op_val (v := .int .i64 (leftF r b f n0 n1 n2)) hf31 rfl rfl rfl rfl rfl rfl (r_move rfl) fun ac28 hf32 => ?_)
    refine seq_one (op_val (v := .bool ((leftF r b f n0 n1 n2) == 9223372036854775807)) hf32 rfl rfl rfl rfl rfl rfl (r_eql rfl rfl) fun ac29 hf33 => ?_)
    refine seq_one (op_val (v := .bool ((leftF r b f n0 n1 n2) == 9223372036854775807)) hf33 rfl rfl rfl rfl rfl rfl (r_pickF rfl rfl) fun ac30 hf34 => ?_)
    refine seq_end ?_
    clear hf20 ac19 hf21 ac20 hf22 ac21 hf23 hf24 ac22 hf31 ac28 hf32 ac29 hf33
    refine then_normal ?_
    refine code_if hf34 rfl (fun c27_2 => ?_) (fun c27_2 => ?_)
    · have hf35 := hf34.know 27 (u := .bool true) rfl (congrArg Value.bool c27_2)
      refine code_seq ?_
      refine seq_start (l := [0, 1]) rfl ?_
      refine seq_one (op_pure hf35 rfl rfl rfl rfl ca_16 awake_pur hI7 fun ac31 wd6 hI9 hf36 => ?_)
      refine seq_one (op_val (v := .bool true) hf36 rfl rfl rfl rfl rfl rfl (r_assign rfl) fun ac32 hf37 => ?_)
      refine seq_end ?_
      clear hf34 ac30 wd4 hI7 hf35 ac31 hf36
      refine then_normal ?_
      refine wp_ret ?_
      refine then_ret ?_
      refine post1 rfl hf37 rfl ⟨?_, hI9.done (fresh_keys (ks := [b1, b2]) rfl (fk_cons hb1 (fk_cons hb2 fk_nil)))⟩
      rfl
    · have hf38 := hf34.know 27 (u := .bool false) rfl (congrArg Value.bool c27_2)
      refine wp_skip ?_
      refine then_normal ?_
      refine code_seq ?_
      refine seq_start (l := [0, 1, 2, 3, 4]) rfl ?_
      refine seq_one (op_val (v := .agg #[.int .i64 n0, .int .i64 n1, .int .i64 n2]) hf38 rfl rfl rfl rfl rfl rfl (r_loadW ag_30 sz_30 rfl (hI7.at 1 rfl) rfl) fun ac33 hf39 => ?_)
      refine seq_one (op_val (v := .int .i64 (leftF r b f n0 n1 n2)) hf39 rfl rfl rfl rfl rfl rfl (r_move rfl) fun ac34 hf40 => ?_)
      refine seq_one (op_pure hf40 rfl rfl rfl rfl ca_12 (with_pur n0 n1 n2 (leftF r b f n0 n1 n2) n0l n0r n1l n1r n2l n2r (Int.le_trans (by decide) (leftF_rng hc n0 n1 n2).1) (leftF_rng hc n0 n1 n2).2) hI7 fun ac35 wd7 hI10 hf41 => ?_)
      refine seq_one (op_alloc hf41 rfl rfl rfl ze_30 hI10 fun ac36 b3 wd8 hb3 hI11 hf42 => ?_)
      have hI12 : Inv w [(b1, cs, 28), (b2, #[.int .i64 n0, .int .i64 n1, .int .i64 n2], 30), (b3, #[.int .i64 0, .int .i64 0, .int .i64 0], 30)] wd8 := hI11
      refine seq_one (op_storeW (cells := #[.int .i64 (moreF n0 (leftF r b f n0 n1 n2)), .int .i64 (moreF n1 (leftF r b f n0 n1 n2)), .int .i64 (moreF n2 (leftF r b f n0 n1 n2))]) 2 hf42 rfl rfl rfl rfl rfl sz_30 rfl rfl hI12 rfl rfl fun wd9 hI13 => ?_)
      have hI14 : Inv w [(b1, cs, 28), (b2, #[.int .i64 n0, .int .i64 n1, .int .i64 n2], 30), (b3, #[.int .i64 (moreF n0 (leftF r b f n0 n1 n2)), .int .i64 (moreF n1 (leftF r b f n0 n1 n2)), .int .i64 (moreF n2 (leftF r b f n0 n1 n2))], 30)] wd9 := hI13
      refine seq_end ?_
      clear hf34 ac30 hf38 ac33 hf39 ac34 wd4 hI7 hf40 ac35 wd7 hI10 hf41 hI11 wd8 hI12 hI13
      refine then_normal ?_
      refine code_seq ?_
      refine code_seq ?_
      refine any_start (fun w => Has [(b1, cs, 28), (b2, #[.int .i64 n0, .int .i64 n1, .int .i64 n2], 30), (b3, #[.int .i64 (moreF n0 (leftF r b f n0 n1 n2)), .int .i64 (moreF n1 (leftF r b f n0 n1 n2)), .int .i64 (moreF n2 (leftF r b f n0 n1 n2))], 30)] w) follows (Has.drew (Has.cons (hI14.at 0 rfl) (Has.cons (hI14.at 1 rfl) (Has.cons (hI14.at 2 rfl) Has.nil)))) ?_
      have hS1 : Has [(b1, cs, 28), (b2, #[.int .i64 n0, .int .i64 n1, .int .i64 n2], 30), (b3, #[.int .i64 (moreF n0 (leftF r b f n0 n1 n2)), .int .i64 (moreF n1 (leftF r b f n0 n1 n2)), .int .i64 (moreF n2 (leftF r b f n0 n1 n2))], 30)] _ := Has.drew (Has.cons (hI14.at 0 rfl) (Has.cons (hI14.at 1 rfl) (Has.cons (hI14.at 2 rfl) Has.nil)))
      have hI15 := hI14.drew
      refine any_val (i := 0) (v := .agg cs) hf42 rfl rfl rfl rfl rfl rfl (fun _ _ _ h => h) (by kernel_rfl) (by kernel_rfl) (by kernel_rfl) (fun wd9 hS1 => (r_loadW ag_28 sz_28 rfl (hS1.at 0 rfl) hc.size)) hS1 fun ac37 hf43 => ?_
      refine any_val (i := 1) (v := .agg #[.int .i64 (moreF n0 (leftF r b f n0 n1 n2)), .int .i64 (moreF n1 (leftF r b f n0 n1 n2)), .int .i64 (moreF n2 (leftF r b f n0 n1 n2))]) hf43 rfl rfl rfl rfl rfl rfl (fun _ _ _ h => h) (by kernel_rfl) (by kernel_rfl) (by kernel_rfl) (fun wd9 hS1 => (r_loadW ag_30 sz_30 rfl (hS1.at 2 rfl) rfl)) hS1 fun ac38 hf44 => ?_
      refine any_one (i := 2) (by kernel_rfl) ?_
      refine (op_pure hf44 rfl rfl rfl rfl ca_10 (left_pur _ r b f (moreF n0 (leftF r b f n0 n1 n2)) (moreF n1 (leftF r b f n0 n1 n2)) (moreF n2 (leftF r b f n0 n1 n2)) hc (moreF_range n0l n0r (Int.le_trans (by decide) (leftF_rng hc n0 n1 n2).1) (leftF_rng hc n0 n1 n2).2).1 (moreF_range n0l n0r (Int.le_trans (by decide) (leftF_rng hc n0 n1 n2).1) (leftF_rng hc n0 n1 n2).2).2 (moreF_range n1l n1r (Int.le_trans (by decide) (leftF_rng hc n0 n1 n2).1) (leftF_rng hc n0 n1 n2).2).1 (moreF_range n1l n1r (Int.le_trans (by decide) (leftF_rng hc n0 n1 n2).1) (leftF_rng hc n0 n1 n2).2).2 (moreF_range n2l n2r (Int.le_trans (by decide) (leftF_rng hc n0 n1 n2).1) (leftF_rng hc n0 n1 n2).2).1 (moreF_range n2l n2r (Int.le_trans (by decide) (leftF_rng hc n0 n1 n2).1) (leftF_rng hc n0 n1 n2).2).2) hI15 fun ac39 wd10 hI16 hf45 => ⟨?_, ?_⟩)
      · exact (Has.cons (hI16.at 0 rfl) (Has.cons (hI16.at 1 rfl) (Has.cons (hI16.at 2 rfl) Has.nil)))
      have hS2 : Has [(b1, cs, 28), (b2, #[.int .i64 n0, .int .i64 n1, .int .i64 n2], 30), (b3, #[.int .i64 (moreF n0 (leftF r b f n0 n1 n2)), .int .i64 (moreF n1 (leftF r b f n0 n1 n2)), .int .i64 (moreF n2 (leftF r b f n0 n1 n2))], 30)] _ := (Has.cons (hI16.at 0 rfl) (Has.cons (hI16.at 1 rfl) (Has.cons (hI16.at 2 rfl) Has.nil)))
      refine any_val (i := 3) (v := .bool ((leftF r b f (moreF n0 (leftF r b f n0 n1 n2)) (moreF n1 (leftF r b f n0 n1 n2)) (moreF n2 (leftF r b f n0 n1 n2))) != 0)) hf45 rfl rfl rfl rfl rfl rfl (fun _ _ _ h => h) (by kernel_rfl) (by kernel_rfl) (by kernel_rfl) (fun wd10 hS2 => (r_neq rfl rfl)) hS2 fun ac40 hf46 => ?_
      refine any_val (i := 4) (v := .bool ((leftF r b f (moreF n0 (leftF r b f n0 n1 n2)) (moreF n1 (leftF r b f n0 n1 n2)) (moreF n2 (leftF r b f n0 n1 n2))) != 0)) hf46 rfl rfl rfl rfl rfl rfl (fun _ _ _ h => h) (by kernel_rfl) (by kernel_rfl) (by kernel_rfl) (fun wd10 hS2 => (r_move rfl)) hS2 fun ac41 hf47 => ?_
      have hf48 := hf47.know 36 (u := .bool false) rfl (congrArg Value.bool (bne_eq_false_iff_eq.2 (law4_0 hc n0l n0r n1l n1r n2l n2r (by simpa using g24_1) (by simpa using c27_2))))
      refine any_val (i := 5) (v := .agg cs) hf48 rfl rfl rfl rfl rfl rfl (fun _ _ _ h => h) (by kernel_rfl) (by kernel_rfl) (by kernel_rfl) (fun wd10 hS2 => (r_loadW ag_28 sz_28 rfl (hS2.at 0 rfl) hc.size)) hS2 fun ac42 hf49 => ?_
      refine any_val (i := 6) (v := .agg #[.int .i64 n0, .int .i64 n1, .int .i64 n2]) hf49 rfl rfl rfl rfl rfl rfl (fun _ _ _ h => h) (by kernel_rfl) (by kernel_rfl) (by kernel_rfl) (fun wd10 hS2 => (r_loadW ag_30 sz_30 rfl (hS2.at 1 rfl) rfl)) hS2 fun ac43 hf50 => ?_
      refine any_val (i := 7) (v := .int .i64 (leftF r b f n0 n1 n2)) hf50 rfl rfl rfl rfl rfl rfl (fun _ _ _ h => h) (by kernel_rfl) (by kernel_rfl) (by kernel_rfl) (fun wd10 hS2 => (r_move rfl)) hS2 fun ac44 hf51 => ?_
      refine any_val (i := 8) (v := .int .i64 (leftF r b f n0 n1 n2 - 1)) hf51 rfl rfl rfl rfl rfl rfl (fun _ _ _ h => h) (by kernel_rfl) (by kernel_rfl) (by kernel_rfl) (fun wd10 hS2 => (r_sub (c := (leftF r b f n0 n1 n2 - 1)) rfl rfl (wrap_i64 (by have := (leftF_rng hc n0 n1 n2).1; omega) (by have := (leftF_rng hc n0 n1 n2).2; omega)))) hS2 fun ac45 hf52 => ?_
      refine any_one (i := 9) (by kernel_rfl) ?_
      refine (op_pure hf52 rfl rfl rfl rfl ca_12 (with_pur n0 n1 n2 (leftF r b f n0 n1 n2 - 1) n0l n0r n1l n1r n2l n2r (by have := (leftF_rng hc n0 n1 n2).1; omega) (by have := (leftF_rng hc n0 n1 n2).2; omega)) hI16 fun ac46 wd11 hI17 hf53 => ⟨?_, ?_⟩)
      · exact (Has.cons (hI17.at 0 rfl) (Has.cons (hI17.at 1 rfl) (Has.cons (hI17.at 2 rfl) Has.nil)))
      have hS3 : Has [(b1, cs, 28), (b2, #[.int .i64 n0, .int .i64 n1, .int .i64 n2], 30), (b3, #[.int .i64 (moreF n0 (leftF r b f n0 n1 n2)), .int .i64 (moreF n1 (leftF r b f n0 n1 n2)), .int .i64 (moreF n2 (leftF r b f n0 n1 n2))], 30)] _ := (Has.cons (hI17.at 0 rfl) (Has.cons (hI17.at 1 rfl) (Has.cons (hI17.at 2 rfl) Has.nil)))
      refine any_one (i := 10) (by kernel_rfl) ?_
      refine (op_pure hf53 rfl rfl rfl rfl ca_10 (left_pur _ r b f (moreF n0 (leftF r b f n0 n1 n2 - 1)) (moreF n1 (leftF r b f n0 n1 n2 - 1)) (moreF n2 (leftF r b f n0 n1 n2 - 1)) hc (moreF_range n0l n0r (by have := (leftF_rng hc n0 n1 n2).1; omega) (by have := (leftF_rng hc n0 n1 n2).2; omega)).1 (moreF_range n0l n0r (by have := (leftF_rng hc n0 n1 n2).1; omega) (by have := (leftF_rng hc n0 n1 n2).2; omega)).2 (moreF_range n1l n1r (by have := (leftF_rng hc n0 n1 n2).1; omega) (by have := (leftF_rng hc n0 n1 n2).2; omega)).1 (moreF_range n1l n1r (by have := (leftF_rng hc n0 n1 n2).1; omega) (by have := (leftF_rng hc n0 n1 n2).2; omega)).2 (moreF_range n2l n2r (by have := (leftF_rng hc n0 n1 n2).1; omega) (by have := (leftF_rng hc n0 n1 n2).2; omega)).1 (moreF_range n2l n2r (by have := (leftF_rng hc n0 n1 n2).1; omega) (by have := (leftF_rng hc n0 n1 n2).2; omega)).2) hI17 fun ac47 wd12 hI18 hf54 => ⟨?_, ?_⟩)
      · exact (Has.cons (hI18.at 0 rfl) (Has.cons (hI18.at 1 rfl) (Has.cons (hI18.at 2 rfl) Has.nil)))
      have hS4 : Has [(b1, cs, 28), (b2, #[.int .i64 n0, .int .i64 n1, .int .i64 n2], 30), (b3, #[.int .i64 (moreF n0 (leftF r b f n0 n1 n2)), .int .i64 (moreF n1 (leftF r b f n0 n1 n2)), .int .i64 (moreF n2 (leftF r b f n0 n1 n2))], 30)] _ := (Has.cons (hI18.at 0 rfl) (Has.cons (hI18.at 1 rfl) (Has.cons (hI18.at 2 rfl) Has.nil)))
      refine any_val (i := 11) (v := .bool ((leftF r b f (moreF n0 (leftF r b f n0 n1 n2 - 1)) (moreF n1 (leftF r b f n0 n1 n2 - 1)) (moreF n2 (leftF r b f n0 n1 n2 - 1))) != 1)) hf54 rfl rfl rfl rfl rfl rfl (fun _ _ _ h => h) (by kernel_rfl) (by kernel_rfl) (by kernel_rfl) (fun wd12 hS4 => (r_neq rfl rfl)) hS4 fun ac48 hf55 => ?_
      refine any_val (i := 12) (v := .bool ((leftF r b f (moreF n0 (leftF r b f n0 n1 n2 - 1)) (moreF n1 (leftF r b f n0 n1 n2 - 1)) (moreF n2 (leftF r b f n0 n1 n2 - 1))) != 1)) hf55 rfl rfl rfl rfl rfl rfl (fun _ _ _ h => h) (by kernel_rfl) (by kernel_rfl) (by kernel_rfl) (fun wd12 hS4 => (r_pickF rfl rfl)) hS4 fun ac49 hf56 => ?_
      refine any_end (by kernel_rfl) ?_
      clear hI14 ac36 hf42 ac37 hf43 ac38 wd9 hI15 hf44 hS1 ac39 hf45 ac40 hf46 hf47 ac41 hf48 ac42 hf49 ac43 hf50 ac44 hf51 ac45 wd10 hI16 hf52 hS2 ac46 wd11 hI17 hf53 hS3 ac47 hf54 ac48 hf55 hS4
      refine then_normal ?_
      have hf57 := hf56.know 44 (u := .bool false) rfl (congrArg Value.bool (bne_eq_false_iff_eq.2 (law4_1 hc n0l n0r n1l n1r n2l n2r (by simpa using g24_1) (by simpa using c27_2))))
      refine code_if_false hf57 rfl ?_
      refine wp_skip ?_
      refine then_normal ?_
      refine code_seq ?_
      refine seq_start (l := [0]) rfl ?_
      refine seq_one (op_val (v := .int .u8 3) hf57 rfl rfl rfl rfl rfl rfl (r_assign rfl) fun ac50 hf58 => ?_)
      refine seq_end ?_
      clear hf56 ac49 hf57
      refine then_normal ?_
      refine code_seq ?_
      refine wp_block ?_
      refine code_seq ?_
      refine seq_start (l := [0, 1, 2, 3, 4, 5]) rfl ?_
      refine seq_one (op_val (v := .pointer (some ⟨b3, 0, none⟩)) hf58 rfl rfl rfl rfl rfl rfl (r_fieldAddr fi_30_0 rfl rfl) fun ac51 hf59 => ?_)
      refine seq_one (op_val (v := .int .i64 (moreF n0 (leftF r b f n0 n1 n2))) hf59 rfl rfl rfl rfl rfl rfl (r_load ag_3 rfl (hI18.at 2 rfl) rfl) fun ac52 hf60 => ?_)
      refine seq_one (op_val (v := .pointer (some ⟨b1, 0, none⟩)) hf60 rfl rfl rfl rfl rfl rfl (r_fieldAddr fi_28_0 rfl rfl) fun ac53 hf61 => ?_)
      refine seq_one (op_val (v := .int .i64 r) hf61 rfl rfl rfl rfl rfl rfl (r_load ag_3 rfl (hI18.at 0 rfl) hc.c0) fun ac54 hf62 => ?_)
      refine seq_one (op_val (v := .bool (decide ((moreF n0 (leftF r b f n0 n1 n2)) ≥ r))) hf62 rfl rfl rfl rfl rfl rfl (r_geq rfl rfl) fun ac55 hf63 => ?_)
      refine seq_one (op_val (v := .bool (decide ((moreF n0 (leftF r b f n0 n1 n2)) ≥ r))) hf63 rfl rfl rfl rfl rfl rfl (r_assign rfl) fun ac56 hf64 => ?_)
      refine seq_end ?_
      clear ac50 hf58 ac51 hf59 ac52 hf60 ac53 hf61 ac54 hf62 ac55 hf63
      refine then_normal ?_
      refine code_if hf64 rfl (fun c45_3 => ?_) (fun c45_3 => ?_)
      · have hf65 := hf64.know 45 (u := .bool true) rfl (congrArg Value.bool c45_3)
        refine seq_start (l := [0]) rfl ?_
        refine seq_one (op_val (v := .int .u8 1) hf65 rfl rfl rfl rfl rfl rfl (r_assign rfl) fun ac57 hf66 => ?_)
        refine seq_end ?_
        clear hf64 ac56 hf65
        refine block_normal ?_
        refine then_normal ?_
        refine code_seq ?_
        refine seq_start (l := [0, 1, 2, 3, 4, 5, 6, 7, 8]) rfl ?_
        refine seq_one (op_val (v := .agg cs) hf66 rfl rfl rfl rfl rfl rfl (r_loadW ag_28 sz_28 rfl (hI18.at 0 rfl) hc.size) fun ac58 hf67 => ?_)
        refine seq_one (op_val (v := .agg #[.int .i64 (moreF n0 (leftF r b f n0 n1 n2)), .int .i64 (moreF n1 (leftF r b f n0 n1 n2)), .int .i64 (moreF n2 (leftF r b f n0 n1 n2))]) hf67 rfl rfl rfl rfl rfl rfl (r_loadW ag_30 sz_30 rfl (hI18.at 2 rfl) rfl) fun ac59 hf68 => ?_)
        refine seq_one (op_pure hf68 rfl rfl rfl rfl ca_8 (why_pur _ r b f (moreF n0 (leftF r b f n0 n1 n2)) (moreF n1 (leftF r b f n0 n1 n2)) (moreF n2 (leftF r b f n0 n1 n2)) hc ) hI18 fun ac60 wd13 hI19 hf69 => ?_)
        refine seq_one (op_val (v := .int .u8 1) hf69 rfl rfl rfl rfl rfl rfl (r_move rfl) fun ac61 hf70 => ?_)
        refine seq_one (op_val (v := .bool ((whyF r b f (moreF n0 (leftF r b f n0 n1 n2)) (moreF n1 (leftF r b f n0 n1 n2)) (moreF n2 (leftF r b f n0 n1 n2))) == 1)) hf70 rfl rfl rfl rfl rfl rfl (r_eql rfl rfl) fun ac62 hf71 => ?_)
        refine seq_one (op_val (v := .bool ((whyF r b f (moreF n0 (leftF r b f n0 n1 n2)) (moreF n1 (leftF r b f n0 n1 n2)) (moreF n2 (leftF r b f n0 n1 n2))) == 1)) hf71 rfl rfl rfl rfl rfl rfl (r_move rfl) fun ac63 hf72 => ?_)
        have hf73 := hf72.know 62 (u := .bool true) rfl (congrArg Value.bool (by simp only [decide_eq_true_eq, decide_eq_false_iff_not] at c45_3; rw [law4_why hc (law4_0 hc n0l n0r n1l n1r n2l n2r (by simpa using g24_1) (by simpa using c27_2))]; simp [c45_3]))
        refine seq_one (op_pure hf73 rfl rfl rfl rfl ca_16 awake_pur hI19 fun ac64 wd14 hI20 hf74 => ?_)
        refine seq_one (op_val (v := .bool true) hf74 rfl rfl rfl rfl rfl rfl (r_pickT rfl rfl) fun ac65 hf75 => ?_)
        refine seq_one (op_val (v := .bool true) hf75 rfl rfl rfl rfl rfl rfl (r_assign rfl) fun ac66 hf76 => ?_)
        refine seq_end ?_
        clear ac57 hf66 ac58 hf67 ac59 wd12 hI18 hf68 ac60 hf69 ac61 hf70 ac62 hf71 hf72 ac63 wd13 hI19 hf73 ac64 hf74 ac65 hf75
        refine then_normal ?_
        refine wp_ret ?_
        refine post1 rfl hf76 rfl ⟨?_, hI20.done (fresh_keys (ks := [b1, b2, b3]) rfl (fk_cons hb1 (fk_cons hb2 (fk_cons hb3 fk_nil))))⟩
        rfl
      · have hf77 := hf64.know 45 (u := .bool false) rfl (congrArg Value.bool c45_3)
        refine code_seq ?_
        refine seq_start (l := [0, 1, 2, 3, 4, 5]) rfl ?_
        refine seq_one (op_val (v := .pointer (some ⟨b3, 1, none⟩)) hf77 rfl rfl rfl rfl rfl rfl (r_fieldAddr fi_30_1 rfl rfl) fun ac67 hf78 => ?_)
        refine seq_one (op_val (v := .int .i64 (moreF n1 (leftF r b f n0 n1 n2))) hf78 rfl rfl rfl rfl rfl rfl (r_load ag_3 rfl (hI18.at 2 rfl) rfl) fun ac68 hf79 => ?_)
        refine seq_one (op_val (v := .pointer (some ⟨b1, 4, none⟩)) hf79 rfl rfl rfl rfl rfl rfl (r_fieldAddr fi_28_4 rfl rfl) fun ac69 hf80 => ?_)
        refine seq_one (op_val (v := .int .i64 b) hf80 rfl rfl rfl rfl rfl rfl (r_load ag_3 rfl (hI18.at 0 rfl) hc.c4) fun ac70 hf81 => ?_)
        refine seq_one (op_val (v := .bool (decide ((moreF n1 (leftF r b f n0 n1 n2)) ≥ b))) hf81 rfl rfl rfl rfl rfl rfl (r_geq rfl rfl) fun ac71 hf82 => ?_)
        refine seq_one (op_val (v := .bool (decide ((moreF n1 (leftF r b f n0 n1 n2)) ≥ b))) hf82 rfl rfl rfl rfl rfl rfl (r_assign rfl) fun ac72 hf83 => ?_)
        refine seq_end ?_
        clear hf64 ac56 hf77 ac67 hf78 ac68 hf79 ac69 hf80 ac70 hf81 ac71 hf82
        refine then_normal ?_
        refine code_if hf83 rfl (fun c51_4 => ?_) (fun c51_4 => ?_)
        · have hf84 := hf83.know 51 (u := .bool true) rfl (congrArg Value.bool c51_4)
          refine seq_start (l := [0]) rfl ?_
          refine seq_one (op_val (v := .int .u8 2) hf84 rfl rfl rfl rfl rfl rfl (r_assign rfl) fun ac73 hf85 => ?_)
          refine seq_end ?_
          clear hf83 ac72 hf84
          refine block_normal ?_
          refine then_normal ?_
          refine code_seq ?_
          refine seq_start (l := [0, 1, 2, 3, 4, 5, 6, 7, 8]) rfl ?_
          refine seq_one (op_val (v := .agg cs) hf85 rfl rfl rfl rfl rfl rfl (r_loadW ag_28 sz_28 rfl (hI18.at 0 rfl) hc.size) fun ac74 hf86 => ?_)
          refine seq_one (op_val (v := .agg #[.int .i64 (moreF n0 (leftF r b f n0 n1 n2)), .int .i64 (moreF n1 (leftF r b f n0 n1 n2)), .int .i64 (moreF n2 (leftF r b f n0 n1 n2))]) hf86 rfl rfl rfl rfl rfl rfl (r_loadW ag_30 sz_30 rfl (hI18.at 2 rfl) rfl) fun ac75 hf87 => ?_)
          refine seq_one (op_pure hf87 rfl rfl rfl rfl ca_8 (why_pur _ r b f (moreF n0 (leftF r b f n0 n1 n2)) (moreF n1 (leftF r b f n0 n1 n2)) (moreF n2 (leftF r b f n0 n1 n2)) hc ) hI18 fun ac76 wd15 hI21 hf88 => ?_)
          refine seq_one (op_val (v := .int .u8 2) hf88 rfl rfl rfl rfl rfl rfl (r_move rfl) fun ac77 hf89 => ?_)
          refine seq_one (op_val (v := .bool ((whyF r b f (moreF n0 (leftF r b f n0 n1 n2)) (moreF n1 (leftF r b f n0 n1 n2)) (moreF n2 (leftF r b f n0 n1 n2))) == 2)) hf89 rfl rfl rfl rfl rfl rfl (r_eql rfl rfl) fun ac78 hf90 => ?_)
          refine seq_one (op_val (v := .bool ((whyF r b f (moreF n0 (leftF r b f n0 n1 n2)) (moreF n1 (leftF r b f n0 n1 n2)) (moreF n2 (leftF r b f n0 n1 n2))) == 2)) hf90 rfl rfl rfl rfl rfl rfl (r_move rfl) fun ac79 hf91 => ?_)
          have hf92 := hf91.know 62 (u := .bool true) rfl (congrArg Value.bool (by simp only [decide_eq_true_eq, decide_eq_false_iff_not] at c45_3 c51_4; rw [law4_why hc (law4_0 hc n0l n0r n1l n1r n2l n2r (by simpa using g24_1) (by simpa using c27_2))]; simp [c45_3, c51_4]))
          refine seq_one (op_pure hf92 rfl rfl rfl rfl ca_16 awake_pur hI21 fun ac80 wd16 hI22 hf93 => ?_)
          refine seq_one (op_val (v := .bool true) hf93 rfl rfl rfl rfl rfl rfl (r_pickT rfl rfl) fun ac81 hf94 => ?_)
          refine seq_one (op_val (v := .bool true) hf94 rfl rfl rfl rfl rfl rfl (r_assign rfl) fun ac82 hf95 => ?_)
          refine seq_end ?_
          clear ac73 hf85 ac74 hf86 ac75 wd12 hI18 hf87 ac76 hf88 ac77 hf89 ac78 hf90 hf91 ac79 wd15 hI21 hf92 ac80 hf93 ac81 hf94
          refine then_normal ?_
          refine wp_ret ?_
          refine post1 rfl hf95 rfl ⟨?_, hI22.done (fresh_keys (ks := [b1, b2, b3]) rfl (fk_cons hb1 (fk_cons hb2 (fk_cons hb3 fk_nil))))⟩
          rfl
        · have hf96 := hf83.know 51 (u := .bool false) rfl (congrArg Value.bool c51_4)
          refine wp_skip ?_
          refine block_normal ?_
          refine then_normal ?_
          refine code_seq ?_
          refine seq_start (l := [0, 1, 2, 3, 4, 5, 6, 7, 8]) rfl ?_
          refine seq_one (op_val (v := .agg cs) hf96 rfl rfl rfl rfl rfl rfl (r_loadW ag_28 sz_28 rfl (hI18.at 0 rfl) hc.size) fun ac83 hf97 => ?_)
          refine seq_one (op_val (v := .agg #[.int .i64 (moreF n0 (leftF r b f n0 n1 n2)), .int .i64 (moreF n1 (leftF r b f n0 n1 n2)), .int .i64 (moreF n2 (leftF r b f n0 n1 n2))]) hf97 rfl rfl rfl rfl rfl rfl (r_loadW ag_30 sz_30 rfl (hI18.at 2 rfl) rfl) fun ac84 hf98 => ?_)
          refine seq_one (op_pure hf98 rfl rfl rfl rfl ca_8 (why_pur _ r b f (moreF n0 (leftF r b f n0 n1 n2)) (moreF n1 (leftF r b f n0 n1 n2)) (moreF n2 (leftF r b f n0 n1 n2)) hc ) hI18 fun ac85 wd17 hI23 hf99 => ?_)
          refine seq_one (op_val (v := .int .u8 3) hf99 rfl rfl rfl rfl rfl rfl (r_move rfl) fun ac86 hf100 => ?_)
          refine seq_one (op_val (v := .bool ((whyF r b f (moreF n0 (leftF r b f n0 n1 n2)) (moreF n1 (leftF r b f n0 n1 n2)) (moreF n2 (leftF r b f n0 n1 n2))) == 3)) hf100 rfl rfl rfl rfl rfl rfl (r_eql rfl rfl) fun ac87 hf101 => ?_)
          refine seq_one (op_val (v := .bool ((whyF r b f (moreF n0 (leftF r b f n0 n1 n2)) (moreF n1 (leftF r b f n0 n1 n2)) (moreF n2 (leftF r b f n0 n1 n2))) == 3)) hf101 rfl rfl rfl rfl rfl rfl (r_move rfl) fun ac88 hf102 => ?_)
          have hf103 := hf102.know 62 (u := .bool true) rfl (congrArg Value.bool (by simp only [decide_eq_true_eq, decide_eq_false_iff_not] at c45_3 c51_4; rw [law4_why hc (law4_0 hc n0l n0r n1l n1r n2l n2r (by simpa using g24_1) (by simpa using c27_2))]; simp [c45_3, c51_4]))
          refine seq_one (op_pure hf103 rfl rfl rfl rfl ca_16 awake_pur hI23 fun ac89 wd18 hI24 hf104 => ?_)
          refine seq_one (op_val (v := .bool true) hf104 rfl rfl rfl rfl rfl rfl (r_pickT rfl rfl) fun ac90 hf105 => ?_)
          refine seq_one (op_val (v := .bool true) hf105 rfl rfl rfl rfl rfl rfl (r_assign rfl) fun ac91 hf106 => ?_)
          refine seq_end ?_
          clear hf83 ac72 hf96 ac83 hf97 ac84 wd12 hI18 hf98 ac85 hf99 ac86 hf100 ac87 hf101 hf102 ac88 wd17 hI23 hf103 ac89 hf104 ac90 hf105
          refine then_normal ?_
          refine wp_ret ?_
          refine post1 rfl hf106 rfl ⟨?_, hI24.done (fresh_keys (ks := [b1, b2, b3]) rfl (fk_cons hb1 (fk_cons hb2 (fk_cons hb3 fk_nil))))⟩
          rfl
end Go.Proofs.Ytnajiccihfdggaa
