/-
  New, All and Ahead of count: what each call comes to.
-/
import Derived.Test.YtohkdjaobdgenaaPlain
namespace Go.Proofs.Ytohkdjaobdgenaa
set_option linter.unusedVariables false
set_option linter.unusedSimpArgs false
set_option maxRecDepth 100000
open Go.RowKit
set_option maxHeartbeats 8000000 in
theorem top_pur {k : Nat} (hk1 : 1 ≤ k) (hk2 : k ≤ 64) : Pur Try.prog 23 [.int .i64 (k : Int)] (.int .u64 (pw k - 1)) := by
  intro w
  have hI1 := Inv.start w
  refine enter (n := 8) Try.func23 rfl rfl rfl ?_
  intro ac1 hf1
  refine code_seq ?_
  refine seq_start (l := [0]) rfl ?_
  refine seq_one (op_val (v := .int .u64 0) hf1 rfl rfl rfl rfl rfl rfl (r_assign rfl) fun ac2 hf2 => ?_)
  refine seq_end ?_
  clear ac1 hf1
  refine then_normal ?_
  refine code_seq ?_
  refine seq_start (l := [0, 1, 2, 3, 4, 5]) rfl ?_
  refine seq_one (op_val (v := .int .i64 (k : Int)) hf2 rfl rfl rfl rfl rfl rfl (r_move rfl) fun ac3 hf3 => ?_)
  refine seq_one (op_val (v := .int .i64 ((k - 1 : Nat) : Int)) hf3 rfl rfl rfl rfl rfl rfl (r_sub (c := ((k - 1 : Nat) : Int)) rfl rfl (by rw [show (k : Int) - 1 = ((k - 1 : Nat) : Int) by omega]; exact wrap_i64 (by omega) (by omega))) fun ac4 hf4 => ?_)
  refine seq_one (op_val (v := .int .u64 (pw (k - 1))) hf4 rfl rfl rfl rfl rfl rfl (r_shl (c := pw (k - 1)) rfl rfl (by omega) (pw_k hk1 hk2).1) fun ac5 hf5 => ?_)
  refine seq_one (op_val (v := .int .u64 (IntKind.wrap .u64 (pw k))) hf5 rfl rfl rfl rfl rfl rfl (r_shl (c := IntKind.wrap .u64 (pw k)) rfl rfl (by decide) (pw_k hk1 hk2).2.1) fun ac6 hf6 => ?_)
  refine seq_one (op_val (v := .int .u64 (pw k - 1)) hf6 rfl rfl rfl rfl rfl rfl (r_sub (c := pw k - 1) rfl rfl (pw_k hk1 hk2).2.2.1) fun ac7 hf7 => ?_)
  refine seq_one (op_val (v := .int .u64 (pw k - 1)) hf7 rfl rfl rfl rfl rfl rfl (r_assign rfl) fun ac8 hf8 => ?_)
  refine seq_end ?_
  clear ac2 hf2 ac3 hf3 ac4 hf4 ac5 hf5 ac6 hf6 ac7 hf7
  refine then_normal ?_
  refine wp_ret ?_
  refine post1 rfl hf8 rfl ⟨?_, hI1.done (fresh_keys (ks := []) rfl fk_nil)⟩
  rfl
set_option maxHeartbeats 8000000 in
theorem ahead_ok {now was : Int} {k : Nat} (hk1 : 1 ≤ k) (hk2 : k ≤ 64) (h1 : ¬ now > pw k - 1) (h2 : ¬ was > pw k - 1) : Pur Try.prog 9 [.int .u64 now, .int .u64 was, .int .i64 (k : Int)] (.tuple #[.int .u64 ((now - was) % pw k), .int .i64 0]) := by
  intro w
  have hI1 := Inv.start w
  refine enter (n := 32) Try.func9 rfl rfl rfl ?_
  intro ac1 hf1
  refine code_seq ?_
  refine seq_start (l := [0, 1]) rfl ?_
  refine seq_one (op_val (v := .int .u64 0) hf1 rfl rfl rfl rfl rfl rfl (r_assign rfl) fun ac2 hf2 => ?_)
  refine seq_one (op_val (v := .int .i64 0) hf2 rfl rfl rfl rfl rfl rfl (r_assign rfl) fun ac3 hf3 => ?_)
  refine seq_end ?_
  clear ac1 hf1 ac2 hf2
  refine then_normal ?_
  refine code_seq ?_
  refine code_seq ?_
  refine seq_start (l := [0, 1, 2, 3, 4, 5, 6, 7, 8, 9, 10, 11, 12, 13, 14, 15, 16, 17]) rfl ?_
  refine seq_one (op_val (v := .int .i64 (k : Int)) hf3 rfl rfl rfl rfl rfl rfl (r_move rfl) fun ac4 hf4 => ?_)
  refine seq_one (op_val (v := .bool (decide ((k : Int) < 1))) hf4 rfl rfl rfl rfl rfl rfl (r_lss rfl rfl) fun ac5 hf5 => ?_)
  refine seq_one (op_val (v := .bool (decide ((k : Int) < 1))) hf5 rfl rfl rfl rfl rfl rfl (r_move rfl) fun ac6 hf6 => ?_)
  have hf7 := hf6.know 10 (u := .bool false) rfl (congrArg Value.bool (decide_eq_false (by omega)))
  refine seq_one (op_val (v := .int .i64 (k : Int)) hf7 rfl rfl rfl rfl rfl rfl (r_move rfl) fun ac7 hf8 => ?_)
  refine seq_one (op_val (v := .bool (decide ((k : Int) > 64))) hf8 rfl rfl rfl rfl rfl rfl (r_gtr rfl rfl) fun ac8 hf9 => ?_)
  refine seq_one (op_val (v := .bool (decide ((k : Int) > 64))) hf9 rfl rfl rfl rfl rfl rfl (r_pickF rfl rfl) fun ac9 hf10 => ?_)
  refine seq_one (op_val (v := .bool (decide ((k : Int) > 64))) hf10 rfl rfl rfl rfl rfl rfl (r_move rfl) fun ac10 hf11 => ?_)
  have hf12 := hf11.know 14 (u := .bool false) rfl (congrArg Value.bool (decide_eq_false (by omega)))
  refine seq_one (op_val (v := .int .u64 now) hf12 rfl rfl rfl rfl rfl rfl (r_move rfl) fun ac11 hf13 => ?_)
  refine seq_one (op_val (v := .int .i64 (k : Int)) hf13 rfl rfl rfl rfl rfl rfl (r_move rfl) fun ac12 hf14 => ?_)
  refine seq_one (op_pure hf14 rfl rfl rfl rfl ca_23 (top_pur (k := k) hk1 hk2) hI1 fun ac13 wd1 hI2 hf15 => ?_)
  refine seq_one (op_val (v := .bool (decide (now > (pw k - 1)))) hf15 rfl rfl rfl rfl rfl rfl (r_gtr rfl rfl) fun ac14 hf16 => ?_)
  refine seq_one (op_val (v := .bool (decide (now > (pw k - 1)))) hf16 rfl rfl rfl rfl rfl rfl (r_pickF rfl rfl) fun ac15 hf17 => ?_)
  refine seq_one (op_val (v := .bool (decide (now > (pw k - 1)))) hf17 rfl rfl rfl rfl rfl rfl (r_move rfl) fun ac16 hf18 => ?_)
  have hf19 := hf18.know 20 (u := .bool false) rfl (congrArg Value.bool (decide_eq_false (by omega)))
  refine seq_one (op_val (v := .int .u64 was) hf19 rfl rfl rfl rfl rfl rfl (r_move rfl) fun ac17 hf20 => ?_)
  refine seq_one (op_val (v := .int .i64 (k : Int)) hf20 rfl rfl rfl rfl rfl rfl (r_move rfl) fun ac18 hf21 => ?_)
  refine seq_one (op_pure hf21 rfl rfl rfl rfl ca_23 (top_pur (k := k) hk1 hk2) hI2 fun ac19 wd2 hI3 hf22 => ?_)
  refine seq_one (op_val (v := .bool (decide (was > (pw k - 1)))) hf22 rfl rfl rfl rfl rfl rfl (r_gtr rfl rfl) fun ac20 hf23 => ?_)
  refine seq_one (op_val (v := .bool (decide (was > (pw k - 1)))) hf23 rfl rfl rfl rfl rfl rfl (r_pickF rfl rfl) fun ac21 hf24 => ?_)
  refine seq_end ?_
  clear ac3 hf3 ac4 hf4 ac5 hf5 hf6 ac6 hf7 ac7 hf8 ac8 hf9 ac9 hf10 hf11 ac10 hf12 ac11 hf13 ac12 hI1 hf14 ac13 hf15 ac14 hf16 ac15 hf17 hf18 ac16 hf19 ac17 hf20 ac18 wd1 hI2 hf21 ac19 hf22 ac20 hf23
  refine then_normal ?_
  have hf25 := hf24.know 25 (u := .bool false) rfl (congrArg Value.bool (decide_eq_false (by omega)))
  refine code_if_false hf25 rfl ?_
  refine wp_skip ?_
  refine then_normal ?_
  refine code_seq ?_
  refine seq_start (l := [0, 1, 2, 3, 4, 5, 6, 7]) rfl ?_
  refine seq_one (op_val (v := .int .u64 now) hf25 rfl rfl rfl rfl rfl rfl (r_move rfl) fun ac22 hf26 => ?_)
  refine seq_one (op_val (v := .int .u64 was) hf26 rfl rfl rfl rfl rfl rfl (r_move rfl) fun ac23 hf27 => ?_)
  refine seq_one (op_val (v := .int .u64 (IntKind.wrap .u64 (now - was))) hf27 rfl rfl rfl rfl rfl rfl (r_sub rfl rfl rfl) fun ac24 hf28 => ?_)
  refine seq_one (op_val (v := .int .i64 (k : Int)) hf28 rfl rfl rfl rfl rfl rfl (r_move rfl) fun ac25 hf29 => ?_)
  refine seq_one (op_pure hf29 rfl rfl rfl rfl ca_23 (top_pur (k := k) hk1 hk2) hI3 fun ac26 wd3 hI4 hf30 => ?_)
  refine seq_one (op_val (v := .int .u64 ((now - was) % pw k)) hf30 rfl rfl rfl rfl rfl rfl (r_and (c := ((now - was) % pw k)) rfl rfl (and_wr hk1 hk2)) fun ac27 hf31 => ?_)
  refine seq_one (op_val (v := .int .u64 ((now - was) % pw k)) hf31 rfl rfl rfl rfl rfl rfl (r_assign rfl) fun ac28 hf32 => ?_)
  refine seq_one (op_val (v := .int .i64 0) hf32 rfl rfl rfl rfl rfl rfl (r_assign rfl) fun ac29 hf33 => ?_)
  refine seq_end ?_
  clear hf24 ac21 hf25 ac22 hf26 ac23 hf27 ac24 hf28 ac25 wd2 hI3 hf29 ac26 hf30 ac27 hf31 ac28 hf32
  refine then_normal ?_
  refine wp_ret ?_
  refine post2 rfl hf33 rfl rfl ⟨?_, hI4.done (fresh_keys (ks := []) rfl fk_nil)⟩
  rfl
set_option maxHeartbeats 8000000 in
theorem ahead_big {now was : Int} {k : Nat} (hk1 : 1 ≤ k) (hk2 : k ≤ 64) (h : now > pw k - 1 ∨ was > pw k - 1) : Pur Try.prog 9 [.int .u64 now, .int .u64 was, .int .i64 (k : Int)] (.tuple #[.int .u64 0, .int .i64 2]) := by
  intro w
  have hI1 := Inv.start w
  refine enter (n := 32) Try.func9 rfl rfl rfl ?_
  intro ac1 hf1
  refine code_seq ?_
  refine seq_start (l := [0, 1]) rfl ?_
  refine seq_one (op_val (v := .int .u64 0) hf1 rfl rfl rfl rfl rfl rfl (r_assign rfl) fun ac2 hf2 => ?_)
  refine seq_one (op_val (v := .int .i64 0) hf2 rfl rfl rfl rfl rfl rfl (r_assign rfl) fun ac3 hf3 => ?_)
  refine seq_end ?_
  clear ac1 hf1 ac2 hf2
  refine then_normal ?_
  refine code_seq ?_
  refine code_seq ?_
  refine seq_start (l := [0, 1, 2, 3, 4, 5, 6, 7, 8, 9, 10, 11, 12, 13, 14, 15, 16, 17]) rfl ?_
  refine seq_one (op_val (v := .int .i64 (k : Int)) hf3 rfl rfl rfl rfl rfl rfl (r_move rfl) fun ac4 hf4 => ?_)
  refine seq_one (op_val (v := .bool (decide ((k : Int) < 1))) hf4 rfl rfl rfl rfl rfl rfl (r_lss rfl rfl) fun ac5 hf5 => ?_)
  refine seq_one (op_val (v := .bool (decide ((k : Int) < 1))) hf5 rfl rfl rfl rfl rfl rfl (r_move rfl) fun ac6 hf6 => ?_)
  have hf7 := hf6.know 10 (u := .bool false) rfl (congrArg Value.bool (decide_eq_false (by omega)))
  refine seq_one (op_val (v := .int .i64 (k : Int)) hf7 rfl rfl rfl rfl rfl rfl (r_move rfl) fun ac7 hf8 => ?_)
  refine seq_one (op_val (v := .bool (decide ((k : Int) > 64))) hf8 rfl rfl rfl rfl rfl rfl (r_gtr rfl rfl) fun ac8 hf9 => ?_)
  refine seq_one (op_val (v := .bool (decide ((k : Int) > 64))) hf9 rfl rfl rfl rfl rfl rfl (r_pickF rfl rfl) fun ac9 hf10 => ?_)
  refine seq_one (op_val (v := .bool (decide ((k : Int) > 64))) hf10 rfl rfl rfl rfl rfl rfl (r_move rfl) fun ac10 hf11 => ?_)
  have hf12 := hf11.know 14 (u := .bool false) rfl (congrArg Value.bool (decide_eq_false (by omega)))
  refine seq_one (op_val (v := .int .u64 now) hf12 rfl rfl rfl rfl rfl rfl (r_move rfl) fun ac11 hf13 => ?_)
  refine seq_one (op_val (v := .int .i64 (k : Int)) hf13 rfl rfl rfl rfl rfl rfl (r_move rfl) fun ac12 hf14 => ?_)
  refine seq_one (op_pure hf14 rfl rfl rfl rfl ca_23 (top_pur (k := k) hk1 hk2) hI1 fun ac13 wd1 hI2 hf15 => ?_)
  refine seq_one (op_val (v := .bool (decide (now > (pw k - 1)))) hf15 rfl rfl rfl rfl rfl rfl (r_gtr rfl rfl) fun ac14 hf16 => ?_)
  refine seq_one (op_val (v := .bool (decide (now > (pw k - 1)))) hf16 rfl rfl rfl rfl rfl rfl (r_pickF rfl rfl) fun ac15 hf17 => ?_)
  refine seq_one (op_val (v := .bool (decide (now > (pw k - 1)))) hf17 rfl rfl rfl rfl rfl rfl (r_move rfl) fun ac16 hf18 => ?_)
  rcases Bool.eq_false_or_eq_true (decide (now > (pw k - 1)) : Bool) with g20_1 | g20_1
  · have hf19 := hf18.know 20 (u := .bool true) rfl (congrArg Value.bool g20_1)
    refine seq_one (op_skip hf19 rfl rfl rfl rfl fun ac17 hf20 => ?_)
    refine seq_one (op_skip hf20 rfl rfl rfl rfl fun ac18 hf21 => ?_)
    refine seq_one (op_skip hf21 rfl rfl rfl rfl fun ac19 hf22 => ?_)
    refine seq_one (op_skip hf22 rfl rfl rfl rfl fun ac20 hf23 => ?_)
    refine seq_one (op_val (v := .bool true) hf23 rfl rfl rfl rfl rfl rfl (r_pickT rfl rfl) fun ac21 hf24 => ?_)
    refine seq_end ?_
    clear ac3 hf3 ac4 hf4 ac5 hf5 hf6 ac6 hf7 ac7 hf8 ac8 hf9 ac9 hf10 hf11 ac10 hf12 ac11 hf13 ac12 hI1 hf14 ac13 hf15 ac14 hf16 ac15 hf17 hf18 ac16 hf19 ac17 hf20 ac18 hf21 ac19 hf22 ac20 hf23
    refine then_normal ?_
    refine code_if_true hf24 rfl ?_
    refine code_seq ?_
    refine seq_start (l := [0, 1]) rfl ?_
    refine seq_one (op_val (v := .int .u64 0) hf24 rfl rfl rfl rfl rfl rfl (r_assign rfl) fun ac22 hf25 => ?_)
    refine seq_one (op_val (v := .int .i64 2) hf25 rfl rfl rfl rfl rfl rfl (r_assign rfl) fun ac23 hf26 => ?_)
    refine seq_end ?_
    clear ac21 hf24 ac22 hf25
    refine then_normal ?_
    refine wp_ret ?_
    refine then_ret ?_
    refine post2 rfl hf26 rfl rfl ⟨?_, hI2.done (fresh_keys (ks := []) rfl fk_nil)⟩
    rfl
  · have hf27 := hf18.know 20 (u := .bool false) rfl (congrArg Value.bool g20_1)
    refine seq_one (op_val (v := .int .u64 was) hf27 rfl rfl rfl rfl rfl rfl (r_move rfl) fun ac24 hf28 => ?_)
    refine seq_one (op_val (v := .int .i64 (k : Int)) hf28 rfl rfl rfl rfl rfl rfl (r_move rfl) fun ac25 hf29 => ?_)
    refine seq_one (op_pure hf29 rfl rfl rfl rfl ca_23 (top_pur (k := k) hk1 hk2) hI2 fun ac26 wd2 hI3 hf30 => ?_)
    refine seq_one (op_val (v := .bool (decide (was > (pw k - 1)))) hf30 rfl rfl rfl rfl rfl rfl (r_gtr rfl rfl) fun ac27 hf31 => ?_)
    refine seq_one (op_val (v := .bool (decide (was > (pw k - 1)))) hf31 rfl rfl rfl rfl rfl rfl (r_pickF rfl rfl) fun ac28 hf32 => ?_)
    refine seq_end ?_
    clear ac3 hf3 ac4 hf4 ac5 hf5 hf6 ac6 hf7 ac7 hf8 ac8 hf9 ac9 hf10 hf11 ac10 hf12 ac11 hf13 ac12 hI1 hf14 ac13 hf15 ac14 hf16 ac15 hf17 hf18 ac16 hf27 ac24 hf28 ac25 wd1 hI2 hf29 ac26 hf30 ac27 hf31
    refine then_normal ?_
    refine code_if hf32 rfl (fun c25_2 => ?_) (fun c25_2 => ?_)
    · have hf33 := hf32.know 25 (u := .bool true) rfl (congrArg Value.bool c25_2)
      refine code_seq ?_
      refine seq_start (l := [0, 1]) rfl ?_
      refine seq_one (op_val (v := .int .u64 0) hf33 rfl rfl rfl rfl rfl rfl (r_assign rfl) fun ac29 hf34 => ?_)
      refine seq_one (op_val (v := .int .i64 2) hf34 rfl rfl rfl rfl rfl rfl (r_assign rfl) fun ac30 hf35 => ?_)
      refine seq_end ?_
      clear hf32 ac28 hf33 ac29 hf34
      refine then_normal ?_
      refine wp_ret ?_
      refine then_ret ?_
      refine post2 rfl hf35 rfl rfl ⟨?_, hI3.done (fresh_keys (ks := []) rfl fk_nil)⟩
      rfl
    · have hf36 := hf32.know 25 (u := .bool false) rfl (congrArg Value.bool c25_2)
      refine wp_skip ?_
      refine then_normal ?_
      refine code_seq ?_
      refine seq_start (l := [0, 1, 2, 3, 4, 5, 6, 7]) rfl ?_
      refine seq_one (op_val (v := .int .u64 now) hf36 rfl rfl rfl rfl rfl rfl (r_move rfl) fun ac31 hf37 => ?_)
      refine seq_one (op_val (v := .int .u64 was) hf37 rfl rfl rfl rfl rfl rfl (r_move rfl) fun ac32 hf38 => ?_)
      refine seq_one (op_val (v := .int .u64 (IntKind.wrap .u64 (now - was))) hf38 rfl rfl rfl rfl rfl rfl (r_sub rfl rfl rfl) fun ac33 hf39 => ?_)
      refine seq_one (op_val (v := .int .i64 (k : Int)) hf39 rfl rfl rfl rfl rfl rfl (r_move rfl) fun ac34 hf40 => ?_)
      refine seq_one (op_pure hf40 rfl rfl rfl rfl ca_23 (top_pur (k := k) hk1 hk2) hI3 fun ac35 wd3 hI4 hf41 => ?_)
      refine seq_one (op_val (v := .int .u64 ((now - was) % pw k)) hf41 rfl rfl rfl rfl rfl rfl (r_and (c := ((now - was) % pw k)) rfl rfl (and_wr hk1 hk2)) fun ac36 hf42 => ?_)
      refine seq_one (op_val (v := .int .u64 ((now - was) % pw k)) hf42 rfl rfl rfl rfl rfl rfl (r_assign rfl) fun ac37 hf43 => ?_)
      refine seq_one (op_val (v := .int .i64 0) hf43 rfl rfl rfl rfl rfl rfl (r_assign rfl) fun ac38 hf44 => ?_)
      refine seq_end ?_
      clear hf32 ac28 hf36 ac31 hf37 ac32 hf38 ac33 hf39 ac34 wd2 hI3 hf40 ac35 hf41 ac36 hf42 ac37 hf43
      refine then_normal ?_
      refine wp_ret ?_
      refine post2 rfl hf44 rfl rfl ⟨?_, hI4.done (fresh_keys (ks := []) rfl fk_nil)⟩
      exfalso
      simp only [decide_eq_true_eq, decide_eq_false_iff_not] at g20_1 c25_2
      omega
set_option maxHeartbeats 8000000 in
theorem ahead_bits {now was bits : Int} (h : bits < 1 ∨ bits > 64) : Pur Try.prog 9 [.int .u64 now, .int .u64 was, .int .i64 bits] (.tuple #[.int .u64 0, .int .i64 2]) := by
  intro w
  have hI1 := Inv.start w
  refine enter (n := 32) Try.func9 rfl rfl rfl ?_
  intro ac1 hf1
  refine code_seq ?_
  refine seq_start (l := [0, 1]) rfl ?_
  refine seq_one (op_val (v := .int .u64 0) hf1 rfl rfl rfl rfl rfl rfl (r_assign rfl) fun ac2 hf2 => ?_)
  refine seq_one (op_val (v := .int .i64 0) hf2 rfl rfl rfl rfl rfl rfl (r_assign rfl) fun ac3 hf3 => ?_)
  refine seq_end ?_
  clear ac1 hf1 ac2 hf2
  refine then_normal ?_
  refine code_seq ?_
  refine code_seq ?_
  refine seq_start (l := [0, 1, 2, 3, 4, 5, 6, 7, 8, 9, 10, 11, 12, 13, 14, 15, 16, 17]) rfl ?_
  refine seq_one (op_val (v := .int .i64 bits) hf3 rfl rfl rfl rfl rfl rfl (r_move rfl) fun ac4 hf4 => ?_)
  refine seq_one (op_val (v := .bool (decide (bits < 1))) hf4 rfl rfl rfl rfl rfl rfl (r_lss rfl rfl) fun ac5 hf5 => ?_)
  refine seq_one (op_val (v := .bool (decide (bits < 1))) hf5 rfl rfl rfl rfl rfl rfl (r_move rfl) fun ac6 hf6 => ?_)
  rcases Bool.eq_false_or_eq_true (decide (bits < 1) : Bool) with g10_1 | g10_1
  · have hf7 := hf6.know 10 (u := .bool true) rfl (congrArg Value.bool g10_1)
    refine seq_one (op_skip hf7 rfl rfl rfl rfl fun ac7 hf8 => ?_)
    refine seq_one (op_skip hf8 rfl rfl rfl rfl fun ac8 hf9 => ?_)
    refine seq_one (op_val (v := .bool true) hf9 rfl rfl rfl rfl rfl rfl (r_pickT rfl rfl) fun ac9 hf10 => ?_)
    refine seq_one (op_val (v := .bool true) hf10 rfl rfl rfl rfl rfl rfl (r_move rfl) fun ac10 hf11 => ?_)
    refine seq_one (op_skip hf11 rfl rfl rfl rfl fun ac11 hf12 => ?_)
    refine seq_one (op_skip hf12 rfl rfl rfl rfl fun ac12 hf13 => ?_)
    refine seq_one (op_skip hf13 rfl rfl rfl rfl fun ac13 hf14 => ?_)
    refine seq_one (op_skip hf14 rfl rfl rfl rfl fun ac14 hf15 => ?_)
    refine seq_one (op_val (v := .bool true) hf15 rfl rfl rfl rfl rfl rfl (r_pickT rfl rfl) fun ac15 hf16 => ?_)
    refine seq_one (op_val (v := .bool true) hf16 rfl rfl rfl rfl rfl rfl (r_move rfl) fun ac16 hf17 => ?_)
    refine seq_one (op_skip hf17 rfl rfl rfl rfl fun ac17 hf18 => ?_)
    refine seq_one (op_skip hf18 rfl rfl rfl rfl fun ac18 hf19 => ?_)
    refine seq_one (op_skip hf19 rfl rfl rfl rfl fun ac19 hf20 => ?_)
    refine seq_one (op_skip hf20 rfl rfl rfl rfl fun ac20 hf21 => ?_)
    refine seq_one (op_val (v := .bool true) hf21 rfl rfl rfl rfl rfl rfl (r_pickT rfl rfl) fun ac21 hf22 => ?_)
    refine seq_end ?_
    clear ac3 hf3 ac4 hf4 ac5 hf5 hf6 ac6 hf7 ac7 hf8 ac8 hf9 ac9 hf10 ac10 hf11 ac11 hf12 ac12 hf13 ac13 hf14 ac14 hf15 ac15 hf16 ac16 hf17 ac17 hf18 ac18 hf19 ac19 hf20 ac20 hf21
    refine then_normal ?_
    refine code_if_true hf22 rfl ?_
    refine code_seq ?_
    refine seq_start (l := [0, 1]) rfl ?_
    refine seq_one (op_val (v := .int .u64 0) hf22 rfl rfl rfl rfl rfl rfl (r_assign rfl) fun ac22 hf23 => ?_)
    refine seq_one (op_val (v := .int .i64 2) hf23 rfl rfl rfl rfl rfl rfl (r_assign rfl) fun ac23 hf24 => ?_)
    refine seq_end ?_
    clear ac21 hf22 ac22 hf23
    refine then_normal ?_
    refine wp_ret ?_
    refine then_ret ?_
    refine post2 rfl hf24 rfl rfl ⟨?_, hI1.done (fresh_keys (ks := []) rfl fk_nil)⟩
    rfl
  · have hf25 := hf6.know 10 (u := .bool false) rfl (congrArg Value.bool g10_1)
    refine seq_one (op_val (v := .int .i64 bits) hf25 rfl rfl rfl rfl rfl rfl (r_move rfl) fun ac24 hf26 => ?_)
    refine seq_one (op_val (v := .bool (decide (bits > 64))) hf26 rfl rfl rfl rfl rfl rfl (r_gtr rfl rfl) fun ac25 hf27 => ?_)
    refine seq_one (op_val (v := .bool (decide (bits > 64))) hf27 rfl rfl rfl rfl rfl rfl (r_pickF rfl rfl) fun ac26 hf28 => ?_)
    refine seq_one (op_val (v := .bool (decide (bits > 64))) hf28 rfl rfl rfl rfl rfl rfl (r_move rfl) fun ac27 hf29 => ?_)
    rcases Bool.eq_false_or_eq_true (decide (bits > 64) : Bool) with g14_2 | g14_2
    · have hf30 := hf29.know 14 (u := .bool true) rfl (congrArg Value.bool g14_2)
      refine seq_one (op_skip hf30 rfl rfl rfl rfl fun ac28 hf31 => ?_)
      refine seq_one (op_skip hf31 rfl rfl rfl rfl fun ac29 hf32 => ?_)
      refine seq_one (op_skip hf32 rfl rfl rfl rfl fun ac30 hf33 => ?_)
      refine seq_one (op_skip hf33 rfl rfl rfl rfl fun ac31 hf34 => ?_)
      refine seq_one (op_val (v := .bool true) hf34 rfl rfl rfl rfl rfl rfl (r_pickT rfl rfl) fun ac32 hf35 => ?_)
      refine seq_one (op_val (v := .bool true) hf35 rfl rfl rfl rfl rfl rfl (r_move rfl) fun ac33 hf36 => ?_)
      refine seq_one (op_skip hf36 rfl rfl rfl rfl fun ac34 hf37 => ?_)
      refine seq_one (op_skip hf37 rfl rfl rfl rfl fun ac35 hf38 => ?_)
      refine seq_one (op_skip hf38 rfl rfl rfl rfl fun ac36 hf39 => ?_)
      refine seq_one (op_skip hf39 rfl rfl rfl rfl fun ac37 hf40 => ?_)
      refine seq_one (op_val (v := .bool true) hf40 rfl rfl rfl rfl rfl rfl (r_pickT rfl rfl) fun ac38 hf41 => ?_)
      refine seq_end ?_
      clear ac3 hf3 ac4 hf4 ac5 hf5 hf6 ac6 hf25 ac24 hf26 ac25 hf27 ac26 hf28 hf29 ac27 hf30 ac28 hf31 ac29 hf32 ac30 hf33 ac31 hf34 ac32 hf35 ac33 hf36 ac34 hf37 ac35 hf38 ac36 hf39 ac37 hf40
      refine then_normal ?_
      refine code_if_true hf41 rfl ?_
      refine code_seq ?_
      refine seq_start (l := [0, 1]) rfl ?_
      refine seq_one (op_val (v := .int .u64 0) hf41 rfl rfl rfl rfl rfl rfl (r_assign rfl) fun ac39 hf42 => ?_)
      refine seq_one (op_val (v := .int .i64 2) hf42 rfl rfl rfl rfl rfl rfl (r_assign rfl) fun ac40 hf43 => ?_)
      refine seq_end ?_
      clear ac38 hf41 ac39 hf42
      refine then_normal ?_
      refine wp_ret ?_
      refine then_ret ?_
      refine post2 rfl hf43 rfl rfl ⟨?_, hI1.done (fresh_keys (ks := []) rfl fk_nil)⟩
      rfl
    · have hf44 := hf29.know 14 (u := .bool false) rfl (congrArg Value.bool g14_2)
      refine seq_one (op_val (v := .int .u64 now) hf44 rfl rfl rfl rfl rfl rfl (r_move rfl) fun ac41 hf45 => ?_)
      refine seq_one (op_val (v := .int .i64 bits) hf45 rfl rfl rfl rfl rfl rfl (r_move rfl) fun ac42 hf46 => ?_)
      exfalso
      simp only [decide_eq_true_eq, decide_eq_false_iff_not] at g10_1 g14_2
      omega
theorem ahead_pur (now was bits : Int) : Pur Try.prog 9 [.int .u64 now, .int .u64 was, .int .i64 bits] (.tuple #[.int .u64 (aheadF now was bits).1, .int .i64 (aheadF now was bits).2]) := by
  unfold aheadF
  by_cases hb : bits < 1 ∨ bits > 64
  · rw [if_pos hb]; exact ahead_bits hb
  · rw [if_neg hb]
    obtain ⟨k, rfl⟩ := Int.eq_ofNat_of_zero_le (show 0 ≤ bits by omega)
    rw [Int.toNat_natCast]
    by_cases hg : now > pw k - 1 ∨ was > pw k - 1
    · rw [if_pos hg]; exact ahead_big (by omega) (by omega) hg
    · rw [if_neg hg]; exact ahead_ok (by omega) (by omega) (by omega) (by omega)
set_option maxHeartbeats 8000000 in
theorem new_walk {n k : Nat} (hn1 : 1 ≤ n) (hn2 : n ≤ 256) (hk1 : 1 ≤ k) (hk2 : k ≤ 64) (w : World) : Calls Try.prog 11 [.int .i64 (n : Int), .int .i64 (k : Int)].toArray w fun e w' => ∃ lb cb, w.heap.size ≤ lb ∧ w.heap.size ≤ cb ∧ e = .returned (.tuple #[.pointer (some ⟨cb, 0, none⟩), .int .i64 0]) ∧ Inv w [(lb, arr .u64 (List.replicate n 0), 24), (cb, #[.slice (some ⟨lb, 0, none⟩) n n, .int .i64 (k : Int)], 58)] w' := by
  have hI1 := Inv.start w
  refine enter (n := 25) Try.func11 rfl rfl rfl ?_
  intro ac1 hf1
  refine code_seq ?_
  refine seq_start (l := [0, 1]) rfl ?_
  refine seq_one (op_val (v := .pointer none) hf1 rfl rfl rfl rfl rfl rfl (r_assign rfl) fun ac2 hf2 => ?_)
  refine seq_one (op_val (v := .int .i64 0) hf2 rfl rfl rfl rfl rfl rfl (r_assign rfl) fun ac3 hf3 => ?_)
  refine seq_end ?_
  clear ac1 hf1 ac2 hf2
  refine then_normal ?_
  refine code_seq ?_
  refine code_seq ?_
  refine seq_start (l := [0, 1, 2, 3, 4, 5, 6, 7, 8, 9, 10, 11, 12, 13]) rfl ?_
  refine seq_one (op_val (v := .int .i64 (n : Int)) hf3 rfl rfl rfl rfl rfl rfl (r_move rfl) fun ac4 hf4 => ?_)
  refine seq_one (op_val (v := .bool (decide ((n : Int) < 1))) hf4 rfl rfl rfl rfl rfl rfl (r_lss rfl rfl) fun ac5 hf5 => ?_)
  refine seq_one (op_val (v := .bool (decide ((n : Int) < 1))) hf5 rfl rfl rfl rfl rfl rfl (r_move rfl) fun ac6 hf6 => ?_)
  have hf7 := hf6.know 8 (u := .bool false) rfl (congrArg Value.bool (decide_eq_false (by omega)))
  refine seq_one (op_val (v := .int .i64 (n : Int)) hf7 rfl rfl rfl rfl rfl rfl (r_move rfl) fun ac7 hf8 => ?_)
  refine seq_one (op_val (v := .bool (decide ((n : Int) > 256))) hf8 rfl rfl rfl rfl rfl rfl (r_gtr rfl rfl) fun ac8 hf9 => ?_)
  refine seq_one (op_val (v := .bool (decide ((n : Int) > 256))) hf9 rfl rfl rfl rfl rfl rfl (r_pickF rfl rfl) fun ac9 hf10 => ?_)
  refine seq_one (op_val (v := .bool (decide ((n : Int) > 256))) hf10 rfl rfl rfl rfl rfl rfl (r_move rfl) fun ac10 hf11 => ?_)
  have hf12 := hf11.know 12 (u := .bool false) rfl (congrArg Value.bool (decide_eq_false (by omega)))
  refine seq_one (op_val (v := .int .i64 (k : Int)) hf12 rfl rfl rfl rfl rfl rfl (r_move rfl) fun ac11 hf13 => ?_)
  refine seq_one (op_val (v := .bool (decide ((k : Int) < 1))) hf13 rfl rfl rfl rfl rfl rfl (r_lss rfl rfl) fun ac12 hf14 => ?_)
  refine seq_one (op_val (v := .bool (decide ((k : Int) < 1))) hf14 rfl rfl rfl rfl rfl rfl (r_pickF rfl rfl) fun ac13 hf15 => ?_)
  refine seq_one (op_val (v := .bool (decide ((k : Int) < 1))) hf15 rfl rfl rfl rfl rfl rfl (r_move rfl) fun ac14 hf16 => ?_)
  have hf17 := hf16.know 16 (u := .bool false) rfl (congrArg Value.bool (decide_eq_false (by omega)))
  refine seq_one (op_val (v := .int .i64 (k : Int)) hf17 rfl rfl rfl rfl rfl rfl (r_move rfl) fun ac15 hf18 => ?_)
  refine seq_one (op_val (v := .bool (decide ((k : Int) > 64))) hf18 rfl rfl rfl rfl rfl rfl (r_gtr rfl rfl) fun ac16 hf19 => ?_)
  refine seq_one (op_val (v := .bool (decide ((k : Int) > 64))) hf19 rfl rfl rfl rfl rfl rfl (r_pickF rfl rfl) fun ac17 hf20 => ?_)
  refine seq_end ?_
  clear ac3 hf3 ac4 hf4 ac5 hf5 hf6 ac6 hf7 ac7 hf8 ac8 hf9 ac9 hf10 hf11 ac10 hf12 ac11 hf13 ac12 hf14 ac13 hf15 hf16 ac14 hf17 ac15 hf18 ac16 hf19
  refine then_normal ?_
  have hf21 := hf20.know 19 (u := .bool false) rfl (congrArg Value.bool (decide_eq_false (by omega)))
  refine code_if_false hf21 rfl ?_
  refine wp_skip ?_
  refine then_normal ?_
  refine code_seq ?_
  refine seq_start (l := [0, 1, 2, 3, 4, 5, 6]) rfl ?_
  refine seq_one (op_val (v := .int .i64 (n : Int)) hf21 rfl rfl rfl rfl rfl rfl (r_move rfl) fun ac18 hf22 => ?_)
  refine seq_one (op_make (m := n) hf22 rfl rfl rfl us_23 if_24 rfl rfl rfl (by omega) (by omega) hI1 fun ac19 b1 wd1 hb1 hI2 hf23 => ?_)
  rw [arr_rep] at hI2
  have hI3 : Inv w [(b1, arr .u64 (List.replicate n 0), 24)] wd1 := hI2
  refine seq_one (op_val (v := .int .i64 (k : Int)) hf23 rfl rfl rfl rfl rfl rfl (r_move rfl) fun ac20 hf24 => ?_)
  refine seq_one (op_val (v := .agg #[.slice (some ⟨b1, 0, none⟩) n n, .int .i64 (k : Int)]) hf24 rfl rfl rfl rfl rfl rfl (r_build (v := .agg #[.slice (some ⟨b1, 0, none⟩) n n, .int .i64 (k : Int)]) rfl (fun _ => by kernel_rfl)) fun ac21 hf25 => ?_)
  refine seq_one (op_box hf25 rfl rfl rfl rfl hI3 fun ac22 b2 wd2 hb2 hI4 hf26 => ?_)
  have hI5 : Inv w [(b1, arr .u64 (List.replicate n 0), 24), (b2, #[.slice (some ⟨b1, 0, none⟩) n n, .int .i64 (k : Int)], 58)] wd2 := hI4
  refine seq_one (op_val (v := .pointer (some ⟨b2, 0, none⟩)) hf26 rfl rfl rfl rfl rfl rfl (r_assign rfl) fun ac23 hf27 => ?_)
  refine seq_one (op_val (v := .int .i64 0) hf27 rfl rfl rfl rfl rfl rfl (r_assign rfl) fun ac24 hf28 => ?_)
  refine seq_end ?_
  clear hf20 ac17 hf21 ac18 hI1 hf22 hI2 ac19 hf23 ac20 hf24 ac21 wd1 hI3 hf25 hI4 ac22 hf26 ac23 hf27
  refine then_normal ?_
  refine wp_ret ?_
  exact post2 rfl hf28 rfl rfl ⟨b1, b2, hb1, hb2, rfl, hI5⟩
set_option maxHeartbeats 8000000 in
theorem new_bad {c b : Int} (h : c < 1 ∨ c > 256 ∨ b < 1 ∨ b > 64) : Pur Try.prog 11 [.int .i64 c, .int .i64 b] (.tuple #[.pointer none, .int .i64 2]) := by
  intro w
  have hI1 := Inv.start w
  refine enter (n := 25) Try.func11 rfl rfl rfl ?_
  intro ac1 hf1
  refine code_seq ?_
  refine seq_start (l := [0, 1]) rfl ?_
  refine seq_one (op_val (v := .pointer none) hf1 rfl rfl rfl rfl rfl rfl (r_assign rfl) fun ac2 hf2 => ?_)
  refine seq_one (op_val (v := .int .i64 0) hf2 rfl rfl rfl rfl rfl rfl (r_assign rfl) fun ac3 hf3 => ?_)
  refine seq_end ?_
  clear ac1 hf1 ac2 hf2
  refine then_normal ?_
  refine code_seq ?_
  refine code_seq ?_
  refine seq_start (l := [0, 1, 2, 3, 4, 5, 6, 7, 8, 9, 10, 11, 12, 13]) rfl ?_
  refine seq_one (op_val (v := .int .i64 c) hf3 rfl rfl rfl rfl rfl rfl (r_move rfl) fun ac4 hf4 => ?_)
  refine seq_one (op_val (v := .bool (decide (c < 1))) hf4 rfl rfl rfl rfl rfl rfl (r_lss rfl rfl) fun ac5 hf5 => ?_)
  refine seq_one (op_val (v := .bool (decide (c < 1))) hf5 rfl rfl rfl rfl rfl rfl (r_move rfl) fun ac6 hf6 => ?_)
  rcases Bool.eq_false_or_eq_true (decide (c < 1) : Bool) with g8_1 | g8_1
  · have hf7 := hf6.know 8 (u := .bool true) rfl (congrArg Value.bool g8_1)
    refine seq_one (op_skip hf7 rfl rfl rfl rfl fun ac7 hf8 => ?_)
    refine seq_one (op_skip hf8 rfl rfl rfl rfl fun ac8 hf9 => ?_)
    refine seq_one (op_val (v := .bool true) hf9 rfl rfl rfl rfl rfl rfl (r_pickT rfl rfl) fun ac9 hf10 => ?_)
    refine seq_one (op_val (v := .bool true) hf10 rfl rfl rfl rfl rfl rfl (r_move rfl) fun ac10 hf11 => ?_)
    refine seq_one (op_skip hf11 rfl rfl rfl rfl fun ac11 hf12 => ?_)
    refine seq_one (op_skip hf12 rfl rfl rfl rfl fun ac12 hf13 => ?_)
    refine seq_one (op_val (v := .bool true) hf13 rfl rfl rfl rfl rfl rfl (r_pickT rfl rfl) fun ac13 hf14 => ?_)
    refine seq_one (op_val (v := .bool true) hf14 rfl rfl rfl rfl rfl rfl (r_move rfl) fun ac14 hf15 => ?_)
    refine seq_one (op_skip hf15 rfl rfl rfl rfl fun ac15 hf16 => ?_)
    refine seq_one (op_skip hf16 rfl rfl rfl rfl fun ac16 hf17 => ?_)
    refine seq_one (op_val (v := .bool true) hf17 rfl rfl rfl rfl rfl rfl (r_pickT rfl rfl) fun ac17 hf18 => ?_)
    refine seq_end ?_
    clear ac3 hf3 ac4 hf4 ac5 hf5 hf6 ac6 hf7 ac7 hf8 ac8 hf9 ac9 hf10 ac10 hf11 ac11 hf12 ac12 hf13 ac13 hf14 ac14 hf15 ac15 hf16 ac16 hf17
    refine then_normal ?_
    refine code_if_true hf18 rfl ?_
    refine code_seq ?_
    refine seq_start (l := [0, 1]) rfl ?_
    refine seq_one (op_val (v := .pointer none) hf18 rfl rfl rfl rfl rfl rfl (r_assign rfl) fun ac18 hf19 => ?_)
    refine seq_one (op_val (v := .int .i64 2) hf19 rfl rfl rfl rfl rfl rfl (r_assign rfl) fun ac19 hf20 => ?_)
    refine seq_end ?_
    clear ac17 hf18 ac18 hf19
    refine then_normal ?_
    refine wp_ret ?_
    refine then_ret ?_
    refine post2 rfl hf20 rfl rfl ⟨?_, hI1.done (fresh_keys (ks := []) rfl fk_nil)⟩
    rfl
  · have hf21 := hf6.know 8 (u := .bool false) rfl (congrArg Value.bool g8_1)
    refine seq_one (op_val (v := .int .i64 c) hf21 rfl rfl rfl rfl rfl rfl (r_move rfl) fun ac20 hf22 => ?_)
    refine seq_one (op_val (v := .bool (decide (c > 256))) hf22 rfl rfl rfl rfl rfl rfl (r_gtr rfl rfl) fun ac21 hf23 => ?_)
    refine seq_one (op_val (v := .bool (decide (c > 256))) hf23 rfl rfl rfl rfl rfl rfl (r_pickF rfl rfl) fun ac22 hf24 => ?_)
    refine seq_one (op_val (v := .bool (decide (c > 256))) hf24 rfl rfl rfl rfl rfl rfl (r_move rfl) fun ac23 hf25 => ?_)
    rcases Bool.eq_false_or_eq_true (decide (c > 256) : Bool) with g12_2 | g12_2
    · have hf26 := hf25.know 12 (u := .bool true) rfl (congrArg Value.bool g12_2)
      refine seq_one (op_skip hf26 rfl rfl rfl rfl fun ac24 hf27 => ?_)
      refine seq_one (op_skip hf27 rfl rfl rfl rfl fun ac25 hf28 => ?_)
      refine seq_one (op_val (v := .bool true) hf28 rfl rfl rfl rfl rfl rfl (r_pickT rfl rfl) fun ac26 hf29 => ?_)
      refine seq_one (op_val (v := .bool true) hf29 rfl rfl rfl rfl rfl rfl (r_move rfl) fun ac27 hf30 => ?_)
      refine seq_one (op_skip hf30 rfl rfl rfl rfl fun ac28 hf31 => ?_)
      refine seq_one (op_skip hf31 rfl rfl rfl rfl fun ac29 hf32 => ?_)
      refine seq_one (op_val (v := .bool true) hf32 rfl rfl rfl rfl rfl rfl (r_pickT rfl rfl) fun ac30 hf33 => ?_)
      refine seq_end ?_
      clear ac3 hf3 ac4 hf4 ac5 hf5 hf6 ac6 hf21 ac20 hf22 ac21 hf23 ac22 hf24 hf25 ac23 hf26 ac24 hf27 ac25 hf28 ac26 hf29 ac27 hf30 ac28 hf31 ac29 hf32
      refine then_normal ?_
      refine code_if_true hf33 rfl ?_
      refine code_seq ?_
      refine seq_start (l := [0, 1]) rfl ?_
      refine seq_one (op_val (v := .pointer none) hf33 rfl rfl rfl rfl rfl rfl (r_assign rfl) fun ac31 hf34 => ?_)
      refine seq_one (op_val (v := .int .i64 2) hf34 rfl rfl rfl rfl rfl rfl (r_assign rfl) fun ac32 hf35 => ?_)
      refine seq_end ?_
      clear ac30 hf33 ac31 hf34
      refine then_normal ?_
      refine wp_ret ?_
      refine then_ret ?_
      refine post2 rfl hf35 rfl rfl ⟨?_, hI1.done (fresh_keys (ks := []) rfl fk_nil)⟩
      rfl
    · have hf36 := hf25.know 12 (u := .bool false) rfl (congrArg Value.bool g12_2)
      refine seq_one (op_val (v := .int .i64 b) hf36 rfl rfl rfl rfl rfl rfl (r_move rfl) fun ac33 hf37 => ?_)
      refine seq_one (op_val (v := .bool (decide (b < 1))) hf37 rfl rfl rfl rfl rfl rfl (r_lss rfl rfl) fun ac34 hf38 => ?_)
      refine seq_one (op_val (v := .bool (decide (b < 1))) hf38 rfl rfl rfl rfl rfl rfl (r_pickF rfl rfl) fun ac35 hf39 => ?_)
      refine seq_one (op_val (v := .bool (decide (b < 1))) hf39 rfl rfl rfl rfl rfl rfl (r_move rfl) fun ac36 hf40 => ?_)
      rcases Bool.eq_false_or_eq_true (decide (b < 1) : Bool) with g16_3 | g16_3
      · have hf41 := hf40.know 16 (u := .bool true) rfl (congrArg Value.bool g16_3)
        refine seq_one (op_skip hf41 rfl rfl rfl rfl fun ac37 hf42 => ?_)
        refine seq_one (op_skip hf42 rfl rfl rfl rfl fun ac38 hf43 => ?_)
        refine seq_one (op_val (v := .bool true) hf43 rfl rfl rfl rfl rfl rfl (r_pickT rfl rfl) fun ac39 hf44 => ?_)
        refine seq_end ?_
        clear ac3 hf3 ac4 hf4 ac5 hf5 hf6 ac6 hf21 ac20 hf22 ac21 hf23 ac22 hf24 hf25 ac23 hf36 ac33 hf37 ac34 hf38 ac35 hf39 hf40 ac36 hf41 ac37 hf42 ac38 hf43
        refine then_normal ?_
        refine code_if_true hf44 rfl ?_
        refine code_seq ?_
        refine seq_start (l := [0, 1]) rfl ?_
        refine seq_one (op_val (v := .pointer none) hf44 rfl rfl rfl rfl rfl rfl (r_assign rfl) fun ac40 hf45 => ?_)
        refine seq_one (op_val (v := .int .i64 2) hf45 rfl rfl rfl rfl rfl rfl (r_assign rfl) fun ac41 hf46 => ?_)
        refine seq_end ?_
        clear ac39 hf44 ac40 hf45
        refine then_normal ?_
        refine wp_ret ?_
        refine then_ret ?_
        refine post2 rfl hf46 rfl rfl ⟨?_, hI1.done (fresh_keys (ks := []) rfl fk_nil)⟩
        rfl
      · have hf47 := hf40.know 16 (u := .bool false) rfl (congrArg Value.bool g16_3)
        refine seq_one (op_val (v := .int .i64 b) hf47 rfl rfl rfl rfl rfl rfl (r_move rfl) fun ac42 hf48 => ?_)
        refine seq_one (op_val (v := .bool (decide (b > 64))) hf48 rfl rfl rfl rfl rfl rfl (r_gtr rfl rfl) fun ac43 hf49 => ?_)
        refine seq_one (op_val (v := .bool (decide (b > 64))) hf49 rfl rfl rfl rfl rfl rfl (r_pickF rfl rfl) fun ac44 hf50 => ?_)
        refine seq_end ?_
        clear ac3 hf3 ac4 hf4 ac5 hf5 hf6 ac6 hf21 ac20 hf22 ac21 hf23 ac22 hf24 hf25 ac23 hf36 ac33 hf37 ac34 hf38 ac35 hf39 hf40 ac36 hf47 ac42 hf48 ac43 hf49
        refine then_normal ?_
        refine code_if hf50 rfl (fun c19_4 => ?_) (fun c19_4 => ?_)
        · have hf51 := hf50.know 19 (u := .bool true) rfl (congrArg Value.bool c19_4)
          refine code_seq ?_
          refine seq_start (l := [0, 1]) rfl ?_
          refine seq_one (op_val (v := .pointer none) hf51 rfl rfl rfl rfl rfl rfl (r_assign rfl) fun ac45 hf52 => ?_)
          refine seq_one (op_val (v := .int .i64 2) hf52 rfl rfl rfl rfl rfl rfl (r_assign rfl) fun ac46 hf53 => ?_)
          refine seq_end ?_
          clear hf50 ac44 hf51 ac45 hf52
          refine then_normal ?_
          refine wp_ret ?_
          refine then_ret ?_
          refine post2 rfl hf53 rfl rfl ⟨?_, hI1.done (fresh_keys (ks := []) rfl fk_nil)⟩
          rfl
        · have hf54 := hf50.know 19 (u := .bool false) rfl (congrArg Value.bool c19_4)
          refine wp_skip ?_
          refine then_normal ?_
          refine code_seq ?_
          refine seq_start (l := [0, 1, 2, 3, 4, 5, 6]) rfl ?_
          refine seq_one (op_val (v := .int .i64 c) hf54 rfl rfl rfl rfl rfl rfl (r_move rfl) fun ac47 hf55 => ?_)
          exfalso
          simp only [decide_eq_true_eq, decide_eq_false_iff_not] at g8_1 g12_2 g16_3 c19_4
          omega
set_option maxHeartbeats 8000000 in
theorem none_walk {lb cb : Nat} {xs : List Int} {n : Nat} {k : Int} (hl : xs.length = n) (hne : lb ≠ cb) {w : World} (h0_ : Has [(lb, arr .u64 xs, 24), (cb, #[.slice (some ⟨lb, 0, none⟩) n n, .int .i64 k], 58)] w) : Calls Try.prog 25 [.pointer (some ⟨cb, 0, none⟩)].toArray w fun e w' => e = .returned (.bool false) ∧ Inv w [] w' := by
  have hI1 := Inv.startS h0_ (by simp [hne])
  refine enter (n := 12) Try.func25 rfl rfl rfl ?_
  intro ac1 hf1
  refine code_seq ?_
  refine seq_start (l := [0]) rfl ?_
  refine seq_one (op_val (v := .bool false) hf1 rfl rfl rfl rfl rfl rfl (r_assign rfl) fun ac2 hf2 => ?_)
  refine seq_end ?_
  clear ac1 hf1
  refine then_normal ?_
  refine code_seq ?_
  refine seq_start (l := [0, 1, 2, 3, 4, 5, 6, 7, 8, 9]) rfl ?_
  refine seq_one (op_val (v := .pointer (some ⟨cb, 0, none⟩)) hf2 rfl rfl rfl rfl rfl rfl (r_move rfl) fun ac3 hf3 => ?_)
  refine seq_one (op_val (v := .bool false) hf3 rfl rfl rfl rfl rfl rfl (r_eqNil up_30 rfl rfl rfl) fun ac4 hf4 => ?_)
  refine seq_one (op_val (v := .bool false) hf4 rfl rfl rfl rfl rfl rfl (r_move rfl) fun ac5 hf5 => ?_)
  refine seq_one (op_val (v := .pointer (some ⟨cb, 0, none⟩)) hf5 rfl rfl rfl rfl rfl rfl (r_move rfl) fun ac6 hf6 => ?_)
  refine seq_one (op_val (v := .pointer (some ⟨cb, 0, none⟩)) hf6 rfl rfl rfl rfl rfl rfl (r_nilCheck rfl) fun ac7 hf7 => ?_)
  refine seq_one (op_val (v := .pointer (some ⟨cb, 0, none⟩)) hf7 rfl rfl rfl rfl rfl rfl (r_fieldAddr fi_58_0 rfl rfl) fun ac8 hf8 => ?_)
  refine seq_one (op_val (v := .slice (some ⟨lb, 0, none⟩) n n) hf8 rfl rfl rfl rfl rfl rfl (r_load ag_23 rfl (hI1.at 1 rfl) rfl) fun ac9 hf9 => ?_)
  refine seq_one (op_val (v := .bool false) hf9 rfl rfl rfl rfl rfl rfl (r_eqSl us_23 rfl rfl rfl) fun ac10 hf10 => ?_)
  refine seq_one (op_val (v := .bool false) hf10 rfl rfl rfl rfl rfl rfl (r_pickF rfl rfl) fun ac11 hf11 => ?_)
  refine seq_one (op_val (v := .bool false) hf11 rfl rfl rfl rfl rfl rfl (r_assign rfl) fun ac12 hf12 => ?_)
  refine seq_end ?_
  clear ac2 hf2 ac3 hf3 ac4 hf4 ac5 hf5 ac6 hf6 ac7 hf7 ac8 hf8 ac9 hf9 ac10 hf10 ac11 hf11
  refine then_normal ?_
  refine wp_ret ?_
  exact post1 rfl hf12 rfl ⟨rfl, hI1.unread h0_⟩
set_option maxHeartbeats 8000000 in
theorem clone_walk {lb cap n : Nat} {xs : List Int} (hl : xs.length = n) (hn1 : 1 ≤ n) (hn2 : n ≤ 256) {w : World} (hr : Rd w .u64 (some ⟨lb, 0, none⟩) xs) : Calls Try.prog 29 [.slice (some ⟨lb, 0, none⟩) n cap].toArray w fun e w' => ∃ b m, w.heap.size ≤ b ∧ n + m ≤ maxLen ∧ e = .returned (.slice (some ⟨b, 0, none⟩) n (n + m)) ∧ Inv w [(b, arr .u64 (xs ++ List.replicate m 0), 24)] w' := by
  have hI1 := Inv.start w
  refine enter (n := 8) Try.func29 rfl rfl rfl ?_
  intro ac1 hf1
  refine code_seq ?_
  refine seq_start (l := [0]) rfl ?_
  refine seq_one (op_val (v := .slice none 0 0) hf1 rfl rfl rfl rfl rfl rfl (r_assign rfl) fun ac2 hf2 => ?_)
  refine seq_end ?_
  clear ac1 hf1
  refine then_normal ?_
  refine code_seq ?_
  refine code_seq ?_
  refine seq_start (l := [0, 1]) rfl ?_
  refine seq_one (op_val (v := .slice (some ⟨lb, 0, none⟩) n cap) hf2 rfl rfl rfl rfl rfl rfl (r_move rfl) fun ac3 hf3 => ?_)
  refine seq_one (op_val (v := .bool false) hf3 rfl rfl rfl rfl rfl rfl (r_eqSl us_23 rfl rfl rfl) fun ac4 hf4 => ?_)
  refine seq_end ?_
  clear ac2 hf2 ac3 hf3
  refine then_normal ?_
  refine code_if_false hf4 rfl ?_
  refine wp_skip ?_
  refine then_normal ?_
  refine code_seq ?_
  refine seq_start (l := [0, 1, 2, 3]) rfl ?_
  refine seq_one (op_bslice (s := 24) (cells := #[]) hf4 rfl rfl rfl rfl rfl (fun _ => by kernel_rfl) hI1 fun ac5 b1 wd1 hb1 hI2 hf5 => ?_)
  have hI3 : Inv w [(b1, #[], 24)] wd1 := hI2
  refine seq_one (op_val (v := .slice (some ⟨lb, 0, none⟩) n cap) hf5 rfl rfl rfl rfl rfl rfl (r_move rfl) fun ac6 hf6 => ?_)
  refine seq_one (op_clone (xs := xs) (l := n) hl hf6 rfl rfl rfl us_23 if_24 rfl rfl (hr.old hI3 (fresh_keys (ks := [b1]) rfl (fk_cons hb1 fk_nil))) hn1 (by simp only [maxLen]; omega) (by omega) hI3 fun ac7 b2 m2 wd2 hb2 hm2 hI4 hf7 => ?_)
  have hI5 : Inv w [(b1, #[], 24), (b2, arr .u64 (xs ++ List.replicate m2 0), 24)] wd2 := hI4
  refine seq_one (op_val (v := .slice (some ⟨b2, 0, none⟩) n (n + m2)) hf7 rfl rfl rfl rfl rfl rfl (r_assign rfl) fun ac8 hf8 => ?_)
  refine seq_end ?_
  clear ac4 hI1 hf4 hI2 ac5 hf5 ac6 wd1 hI3 hf6 hI4 ac7 hf7
  refine then_normal ?_
  refine wp_ret ?_
  exact post1 rfl hf8 rfl ⟨b2, m2, hb2, hm2, rfl, Inv.keep (A := []) (N := [(b1, #[], 24)]) (T := [(b2, arr .u64 (xs ++ List.replicate m2 0), 24)]) hI5 (fresh_keys (ks := [b1]) rfl (fk_cons hb1 fk_nil))⟩
set_option maxHeartbeats 8000000 in
theorem all_walk {lb cb : Nat} {xs : List Int} {n : Nat} {k : Int} (hl : xs.length = n) (hn1 : 1 ≤ n) (hn2 : n ≤ 256) (hne : lb ≠ cb) {w : World} (h0_ : Has [(lb, arr .u64 xs, 24), (cb, #[.slice (some ⟨lb, 0, none⟩) n n, .int .i64 k], 58)] w) : Calls Try.prog 20 [.pointer (some ⟨cb, 0, none⟩)].toArray w fun e w' => ∃ b m, w.heap.size ≤ b ∧ n + m ≤ maxLen ∧ e = .returned (.slice (some ⟨b, 0, none⟩) n (n + m)) ∧ Inv w [(b, arr .u64 (xs ++ List.replicate m 0), 24)] w' := by
  have hI1 := Inv.startS h0_ (by simp [hne])
  refine enter (n := 10) Try.func20 rfl rfl rfl ?_
  intro ac1 hf1
  refine code_seq ?_
  refine seq_start (l := [0]) rfl ?_
  refine seq_one (op_val (v := .slice none 0 0) hf1 rfl rfl rfl rfl rfl rfl (r_assign rfl) fun ac2 hf2 => ?_)
  refine seq_end ?_
  clear ac1 hf1
  refine then_normal ?_
  refine code_seq ?_
  refine code_seq ?_
  refine seq_start (l := [0, 1]) rfl ?_
  refine seq_one (op_val (v := .pointer (some ⟨cb, 0, none⟩)) hf2 rfl rfl rfl rfl rfl rfl (r_move rfl) fun ac3 hf3 => ?_)
  refine seq_one (op_pureW hf3 rfl rfl rfl rfl ca_25 (none_walk hl (hI1.ne (i := 0) (j := 1) rfl rfl (by decide)) (Has.cons (hI1.at 0 rfl) (Has.cons (hI1.at 1 rfl) Has.nil))) hI1 fun ac4 wd1 hI2 hf4 => ?_)
  refine seq_end ?_
  clear ac2 hf2 ac3 hI1 hf3
  refine then_normal ?_
  refine code_if_false hf4 rfl ?_
  refine wp_skip ?_
  refine then_normal ?_
  refine code_seq ?_
  refine seq_start (l := [0, 1, 2, 3, 4, 5]) rfl ?_
  refine seq_one (op_val (v := .pointer (some ⟨cb, 0, none⟩)) hf4 rfl rfl rfl rfl rfl rfl (r_move rfl) fun ac5 hf5 => ?_)
  refine seq_one (op_val (v := .pointer (some ⟨cb, 0, none⟩)) hf5 rfl rfl rfl rfl rfl rfl (r_nilCheck rfl) fun ac6 hf6 => ?_)
  refine seq_one (op_val (v := .pointer (some ⟨cb, 0, none⟩)) hf6 rfl rfl rfl rfl rfl rfl (r_fieldAddr fi_58_0 rfl rfl) fun ac7 hf7 => ?_)
  refine seq_one (op_val (v := .slice (some ⟨lb, 0, none⟩) n n) hf7 rfl rfl rfl rfl rfl rfl (r_load ag_23 rfl (hI2.at 1 rfl) rfl) fun ac8 hf8 => ?_)
  refine seq_one (op_call (R := fun v w' => ∃ b m, Array.size (World.heap _) ≤ b ∧ n + m ≤ maxLen ∧ v = .slice (some ⟨b, 0, none⟩) n (n + m) ∧ Inv _ [(b, arr .u64 (xs ++ List.replicate m 0), 24)] w') hf8 rfl rfl rfl rfl ca_29 ((clone_walk (xs := xs) hl hn1 hn2 (Rd.blk (xs := xs) (hI2.at 0 rfl) arr_take)).mono fun e w' ⟨b, m, h1, h2, h3, h4⟩ => ⟨_, h3, b, m, h1, h2, rfl, h4⟩) fun ac9 v wd2 hR hf9 => ?_)
  obtain ⟨b1, m1, hqb1, hm1, rfl, hwb1⟩ := hR
  have hb1 := Nat.le_trans hI2.size hqb1
  have hI3 : Inv w [(lb, arr .u64 xs, 24), (cb, #[.slice (some ⟨lb, 0, none⟩) n n, .int .i64 k], 58), (b1, arr .u64 (xs ++ List.replicate m1 0), 24)] _ := hI2.callN hwb1 (fun x hx => by simp only [List.mem_singleton] at hx; subst hx; exact hqb1)
  refine seq_one (op_val (v := .slice (some ⟨b1, 0, none⟩) n (n + m1)) hf9 rfl rfl rfl rfl rfl rfl (r_assign rfl) fun ac10 hf10 => ?_)
  refine seq_end ?_
  clear ac4 hf4 ac5 hf5 ac6 hf6 ac7 hf7 ac8 wd1 hf8 hI2 hwb1 hqb1 ac9 hf9
  refine then_normal ?_
  refine wp_ret ?_
  exact post1 rfl hf10 rfl ⟨b1, m1, hb1, hm1, rfl, Inv.unreadA (A := [(lb, arr .u64 xs, 24), (cb, #[.slice (some ⟨lb, 0, none⟩) n n, .int .i64 k], 58)]) (B := [(b1, arr .u64 (xs ++ List.replicate m1 0), 24)]) hI3 h0_⟩
end Go.Proofs.Ytohkdjaobdgenaa
