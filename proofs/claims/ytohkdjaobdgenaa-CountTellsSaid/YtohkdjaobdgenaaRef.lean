/-
  The reference of count, digit by digit: what each call comes to.
-/
import Derived.Test.YtohkdjaobdgenaaPlain6
namespace Go.Proofs.Ytohkdjaobdgenaa
set_option linter.unusedVariables false
set_option linter.unusedSimpArgs false
set_option maxRecDepth 100000
open Go.RowKit
set_option maxHeartbeats 8000000 in
theorem below_pur {m : Int} {k : Nat} (hm : 0 ≤ m ∧ m < 18446744073709551616) (hk2 : k ≤ 64) : Pur Try.prog 24 [.int .u64 m, .int .i64 (k : Int)] (.bool (!decide (m > pw k - 1))) := by
  intro w
  have hI1 := Inv.start w
  refine enter (n := 15) Try.func24 rfl rfl rfl ?_
  intro ac1 hf1
  refine code_seq ?_
  refine seq_start (l := [0]) rfl ?_
  refine seq_one (op_val (v := .bool false) hf1 rfl rfl rfl rfl rfl rfl (r_assign rfl) fun ac2 hf2 => ?_)
  refine seq_end ?_
  clear ac1 hf1
  refine then_normal ?_
  refine code_seq ?_
  refine code_seq ?_
  refine seq_start (l := [0]) rfl ?_
  refine seq_one (op_val (v := .int .i64 0) hf2 rfl rfl rfl rfl rfl rfl (r_assign rfl) fun ac3 hf3 => ?_)
  refine seq_end ?_
  clear ac2 hf2
  refine then_normal ?_
  refine wp_block ?_
  have hf4 := hf3.know 0 (u := .int .u64 (m / pw 0)) rfl (by rw [dv_0])
  refine code_loop (α := Nat) (fun (i : Nat) => [(1, .int .i64 (k : Int)), (4, .bool false), (0, .int .u64 (m / pw i)), (5, .int .i64 (i : Int))]) (fun (i : Nat) => fun wL => Inv w [] wL ∧ (i ≤ k)) (fun (i : Nat) => k - i) 0 (hf4.cons 1 rfl (hf4.cons 4 rfl (hf4.cons 0 rfl (hf4.cons 5 rfl hf4.nil)))) ⟨hI1, Nat.zero_le _⟩ ?_
  intro i ac4 wd1 hf5 hL1
  obtain ⟨hI2, hx1⟩ := hL1
  clear hf3 ac3 hf4 hI1
  refine code_seq ?_
  refine code_seq ?_
  refine seq_start (l := [0, 1, 2]) rfl ?_
  refine seq_one (op_val (v := .int .i64 (i : Int)) hf5 rfl rfl rfl rfl rfl rfl (r_move rfl) fun ac5 hf6 => ?_)
  refine seq_one (op_val (v := .int .i64 (k : Int)) hf6 rfl rfl rfl rfl rfl rfl (r_move rfl) fun ac6 hf7 => ?_)
  refine seq_one (op_val (v := .bool (decide ((i : Int) < (k : Int)))) hf7 rfl rfl rfl rfl rfl rfl (r_lss rfl rfl) fun ac7 hf8 => ?_)
  refine seq_end ?_
  clear ac4 hf5 ac5 hf6 ac6 hf7
  refine then_normal ?_
  refine code_if hf8 rfl (fun c8_1 => ?_) (fun c8_1 => ?_)
  · have hf9 := hf8.know 8 (u := .bool true) rfl (congrArg Value.bool c8_1)
    refine wp_skip ?_
    refine then_normal ?_
    refine code_seq ?_
    refine wp_block ?_
    refine seq_start (l := [0, 1, 2]) rfl ?_
    refine seq_one (op_val (v := .int .u64 (m / pw i)) hf9 rfl rfl rfl rfl rfl rfl (r_move rfl) fun ac8 hf10 => ?_)
    refine seq_one (op_val (v := .int .u64 (m / pw (i + 1))) hf10 rfl rfl rfl rfl rfl rfl (r_quo (c := (m / pw (i + 1))) rfl rfl (by omega) (by rw [dv_s hm.1]; exact wrap_u64 (dv_b hm.1 hm.2 _).1 (dv_b hm.1 hm.2 _).2)) fun ac9 hf11 => ?_)
    refine seq_one (op_val (v := .int .u64 (m / pw (i + 1))) hf11 rfl rfl rfl rfl rfl rfl (r_assign rfl) fun ac10 hf12 => ?_)
    refine seq_end ?_
    clear hf8 ac7 hf9 ac8 hf10 ac9 hf11
    refine block_normal ?_
    refine then_normal ?_
    refine seq_start (l := [0, 1, 2]) rfl ?_
    refine seq_one (op_val (v := .int .i64 (i : Int)) hf12 rfl rfl rfl rfl rfl rfl (r_move rfl) fun ac11 hf13 => ?_)
    refine seq_one (op_val (v := .int .i64 ((i + 1 : Nat) : Int)) hf13 rfl rfl rfl rfl rfl rfl (r_add (c := ((i + 1 : Nat) : Int)) rfl rfl (wrap_i64 (by omega) (by omega))) fun ac12 hf14 => ?_)
    refine seq_one (op_val (v := .int .i64 ((i + 1 : Nat) : Int)) hf14 rfl rfl rfl rfl rfl rfl (r_assign rfl) fun ac13 hf15 => ?_)
    refine seq_end ?_
    clear ac10 hf12 ac11 hf13 ac12 hf14
    refine then_normal ?_
    exact ⟨i + 1, (hf15.cons 1 rfl (hf15.cons 4 rfl (hf15.cons 0 rfl (hf15.cons 5 rfl hf15.nil)))), ⟨hI2, (by have := of_decide_eq_true c8_1; omega)⟩, (by have := of_decide_eq_true c8_1; show k - (i + 1) < k - i; omega)⟩
  · have hf16 := hf8.know 8 (u := .bool false) rfl (congrArg Value.bool c8_1)
    refine wp_exit ?_
    refine then_exit ?_
    refine then_exit ?_
    refine block_here ?_
    refine then_normal ?_
    refine code_seq ?_
    refine seq_start (l := [0, 1, 2]) rfl ?_
    refine seq_one (op_val (v := .int .u64 (m / pw i)) hf16 rfl rfl rfl rfl rfl rfl (r_move rfl) fun ac14 hf17 => ?_)
    refine seq_one (op_val (v := .bool ((m / pw i) == 0)) hf17 rfl rfl rfl rfl rfl rfl (r_eql rfl rfl) fun ac15 hf18 => ?_)
    refine seq_one (op_val (v := .bool ((m / pw i) == 0)) hf18 rfl rfl rfl rfl rfl rfl (r_assign rfl) fun ac16 hf19 => ?_)
    refine seq_end ?_
    clear hf8 ac7 hf16 ac14 hf17 ac15 hf18
    refine then_normal ?_
    refine wp_ret ?_
    have ek : i = k := by have := of_decide_eq_false c8_1; omega
    refine post1 rfl hf19 rfl ⟨?_, hI2.done (fresh_keys (ks := []) rfl fk_nil)⟩
    rw [ek, dv_k hm.1]
set_option maxHeartbeats 8000000 in
theorem sum_pur {a b : Int} {k : Nat} (ha : 0 ≤ a ∧ a < 18446744073709551616) (hb : 0 ≤ b ∧ b < 18446744073709551616) (hk2 : k ≤ 64) : Pur Try.prog 28 [.int .u64 a, .int .u64 b, .int .i64 (k : Int)] (.int .u64 ((a + b) % pw k)) := by
  intro w
  have hI1 := Inv.start w
  refine enter (n := 37) Try.func28 rfl rfl rfl ?_
  intro ac1 hf1
  refine code_seq ?_
  refine seq_start (l := [0]) rfl ?_
  refine seq_one (op_val (v := .int .u64 0) hf1 rfl rfl rfl rfl rfl rfl (r_assign rfl) fun ac2 hf2 => ?_)
  refine seq_end ?_
  clear ac1 hf1
  refine then_normal ?_
  refine code_seq ?_
  refine seq_start (l := [0, 1]) rfl ?_
  refine seq_one (op_val (v := .int .u64 0) hf2 rfl rfl rfl rfl rfl rfl (r_assign rfl) fun ac3 hf3 => ?_)
  refine seq_one (op_val (v := .int .u64 0) hf3 rfl rfl rfl rfl rfl rfl (r_assign rfl) fun ac4 hf4 => ?_)
  refine seq_end ?_
  clear ac2 hf2 ac3 hf3
  refine then_normal ?_
  refine code_seq ?_
  refine code_seq ?_
  refine seq_start (l := [0]) rfl ?_
  refine seq_one (op_val (v := .int .i64 0) hf4 rfl rfl rfl rfl rfl rfl (r_assign rfl) fun ac5 hf5 => ?_)
  refine seq_end ?_
  clear ac4 hf4
  refine then_normal ?_
  refine wp_block ?_
  have hf6 := hf5.know 0 (u := .int .u64 (a / pw 0)) rfl (by rw [dv_0])
  have hf7 := hf6.know 1 (u := .int .u64 (b / pw 0)) rfl (by rw [dv_0])
  refine code_loop (α := Nat × Int × Int) (fun (x : Nat × Int × Int) => match x with | (i, o, c) => [(2, .int .i64 (k : Int)), (6, .int .u64 0), (0, .int .u64 (a / pw i)), (1, .int .u64 (b / pw i)), (7, .int .u64 o), (8, .int .u64 c), (9, .int .i64 (i : Int))]) (fun (x : Nat × Int × Int) => match x with | (i, o, c) => fun wL => Inv w [] wL ∧ (i ≤ k ∧ Su a b i o c)) (fun (x : Nat × Int × Int) => match x with | (i, o, c) => k - i) (0, 0, 0) (hf7.cons 2 rfl (hf7.cons 6 rfl (hf7.cons 0 rfl (hf7.cons 1 rfl (hf7.cons 7 rfl (hf7.cons 8 rfl (hf7.cons 9 rfl hf7.nil))))))) ⟨hI1, ⟨Nat.zero_le _, Su.init⟩⟩ ?_
  intro ⟨i, o, c⟩ ac6 wd1 hf8 hL1
  obtain ⟨hI2, hx1⟩ := hL1
  dsimp only at hf8 hI2 hx1
  clear hf5 hf6 ac5 hf7 hI1
  refine code_seq ?_
  refine code_seq ?_
  refine seq_start (l := [0, 1, 2]) rfl ?_
  refine seq_one (op_val (v := .int .i64 (i : Int)) hf8 rfl rfl rfl rfl rfl rfl (r_move rfl) fun ac7 hf9 => ?_)
  refine seq_one (op_val (v := .int .i64 (k : Int)) hf9 rfl rfl rfl rfl rfl rfl (r_move rfl) fun ac8 hf10 => ?_)
  refine seq_one (op_val (v := .bool (decide ((i : Int) < (k : Int)))) hf10 rfl rfl rfl rfl rfl rfl (r_lss rfl rfl) fun ac9 hf11 => ?_)
  refine seq_end ?_
  clear ac6 hf8 ac7 hf9 ac8 hf10
  refine then_normal ?_
  refine code_if hf11 rfl (fun c13_1 => ?_) (fun c13_1 => ?_)
  · have hf12 := hf11.know 13 (u := .bool true) rfl (congrArg Value.bool c13_1)
    refine wp_skip ?_
    refine then_normal ?_
    refine code_seq ?_
    refine wp_block ?_
    refine code_seq ?_
    refine seq_start (l := [0, 1, 2, 3, 4, 5, 6, 7]) rfl ?_
    refine seq_one (op_val (v := .int .u64 (a / pw i)) hf12 rfl rfl rfl rfl rfl rfl (r_move rfl) fun ac10 hf13 => ?_)
    refine seq_one (op_val (v := .int .u64 ((a / pw i).tmod 2)) hf13 rfl rfl rfl rfl rfl rfl (r_rem (c := ((a / pw i).tmod 2)) rfl rfl (by omega) rfl) fun ac11 hf14 => ?_)
    refine seq_one (op_val (v := .int .u64 (b / pw i)) hf14 rfl rfl rfl rfl rfl rfl (r_move rfl) fun ac12 hf15 => ?_)
    refine seq_one (op_val (v := .int .u64 ((b / pw i).tmod 2)) hf15 rfl rfl rfl rfl rfl rfl (r_rem (c := ((b / pw i).tmod 2)) rfl rfl (by omega) rfl) fun ac13 hf16 => ?_)
    refine seq_one (op_val (v := .int .u64 (((a / pw i).tmod 2) + ((b / pw i).tmod 2))) hf16 rfl rfl rfl rfl rfl rfl (r_add (c := (((a / pw i).tmod 2) + ((b / pw i).tmod 2))) rfl rfl (by have h1 := td2 (dv_b' ha.1 i); have h2 := td2 (dv_b' hb.1 i); have h3 := hx1.2.cc; exact wrap_u64 (by omega) (by omega))) fun ac14 hf17 => ?_)
    refine seq_one (op_val (v := .int .u64 c) hf17 rfl rfl rfl rfl rfl rfl (r_move rfl) fun ac15 hf18 => ?_)
    refine seq_one (op_val (v := .int .u64 (((a / pw i).tmod 2) + ((b / pw i).tmod 2) + c)) hf18 rfl rfl rfl rfl rfl rfl (r_add (c := (((a / pw i).tmod 2) + ((b / pw i).tmod 2) + c)) rfl rfl (by have h1 := td2 (dv_b' ha.1 i); have h2 := td2 (dv_b' hb.1 i); have h3 := hx1.2.cc; exact wrap_u64 (by omega) (by omega))) fun ac16 hf19 => ?_)
    refine seq_one (op_val (v := .int .u64 (((a / pw i).tmod 2) + ((b / pw i).tmod 2) + c)) hf19 rfl rfl rfl rfl rfl rfl (r_assign rfl) fun ac17 hf20 => ?_)
    refine seq_end ?_
    clear hf11 ac9 hf12 ac10 hf13 ac11 hf14 ac12 hf15 ac13 hf16 ac14 hf17 ac15 hf18 ac16 hf19
    refine then_normal ?_
    refine code_seq ?_
    refine seq_start (l := [0, 1, 2, 3, 4, 5, 6, 7]) rfl ?_
    refine seq_one (op_val (v := .int .u64 o) hf20 rfl rfl rfl rfl rfl rfl (r_move rfl) fun ac18 hf21 => ?_)
    refine seq_one (op_val (v := .int .u64 (((a / pw i).tmod 2) + ((b / pw i).tmod 2) + c)) hf21 rfl rfl rfl rfl rfl rfl (r_move rfl) fun ac19 hf22 => ?_)
    refine seq_one (op_val (v := .int .u64 ((((a / pw i).tmod 2) + ((b / pw i).tmod 2) + c).tmod 2)) hf22 rfl rfl rfl rfl rfl rfl (r_rem (c := ((((a / pw i).tmod 2) + ((b / pw i).tmod 2) + c).tmod 2)) rfl rfl (by omega) rfl) fun ac20 hf23 => ?_)
    refine seq_one (op_val (v := .int .i64 (i : Int)) hf23 rfl rfl rfl rfl rfl rfl (r_move rfl) fun ac21 hf24 => ?_)
    refine seq_one (op_val (v := .int .u64 (i : Int)) hf24 rfl rfl rfl rfl rfl rfl (r_conv (c := (i : Int)) ui_3 ui_65 rfl (wrap_u64 (by omega) (by have := of_decide_eq_true c13_1; omega))) fun ac22 hf25 => ?_)
    refine seq_one (op_val (v := .int .u64 (((((a / pw i).tmod 2) + ((b / pw i).tmod 2) + c).tmod 2) * pw i)) hf25 rfl rfl rfl rfl rfl rfl (r_shl (c := (((((a / pw i).tmod 2) + ((b / pw i).tmod 2) + c).tmod 2) * pw i)) rfl rfl (by omega) (by have h1 := td2 (dv_b' ha.1 i); have h2 := td2 (dv_b' hb.1 i); have h3 := hx1.2.cc; have h4 := td2 (n := (((a / pw i).tmod 2) + ((b / pw i).tmod 2) + c)) (by omega); exact shl_w (by have := of_decide_eq_true c13_1; omega) h4.1 h4.2.1)) fun ac23 hf26 => ?_)
    refine seq_one (op_val (v := .int .u64 (o + (((((a / pw i).tmod 2) + ((b / pw i).tmod 2) + c).tmod 2) * pw i))) hf26 rfl rfl rfl rfl rfl rfl (r_add (c := (o + (((((a / pw i).tmod 2) + ((b / pw i).tmod 2) + c).tmod 2) * pw i))) rfl rfl (by have h1 := td2 (dv_b' ha.1 i); have h2 := td2 (dv_b' hb.1 i); have h3 := hx1.2.cc; have hs := (hx1.2.step ha.1 hb.1 (n := (((a / pw i).tmod 2) + ((b / pw i).tmod 2) + c)) rfl).oo; have := pw_le' (i := i + 1) (by have := of_decide_eq_true c13_1; omega); exact wrap_u64 hs.1 (by omega))) fun ac24 hf27 => ?_)
    refine seq_one (op_val (v := .int .u64 (o + (((((a / pw i).tmod 2) + ((b / pw i).tmod 2) + c).tmod 2) * pw i))) hf27 rfl rfl rfl rfl rfl rfl (r_assign rfl) fun ac25 hf28 => ?_)
    refine seq_end ?_
    clear ac17 hf20 ac18 hf21 ac19 hf22 ac20 hf23 ac21 hf24 ac22 hf25 ac23 hf26 ac24 hf27
    refine then_normal ?_
    refine code_seq ?_
    refine seq_start (l := [0, 1, 2]) rfl ?_
    refine seq_one (op_val (v := .int .u64 (((a / pw i).tmod 2) + ((b / pw i).tmod 2) + c)) hf28 rfl rfl rfl rfl rfl rfl (r_move rfl) fun ac26 hf29 => ?_)
    refine seq_one (op_val (v := .int .u64 ((((a / pw i).tmod 2) + ((b / pw i).tmod 2) + c).tdiv 2)) hf29 rfl rfl rfl rfl rfl rfl (r_quo (c := ((((a / pw i).tmod 2) + ((b / pw i).tmod 2) + c).tdiv 2)) rfl rfl (by omega) (by have h1 := td2 (dv_b' ha.1 i); have h2 := td2 (dv_b' hb.1 i); have h3 := hx1.2.cc; have h4 := td2 (n := (((a / pw i).tmod 2) + ((b / pw i).tmod 2) + c)) (by omega); exact wrap_u64 h4.2.2.2 (by omega))) fun ac27 hf30 => ?_)
    refine seq_one (op_val (v := .int .u64 ((((a / pw i).tmod 2) + ((b / pw i).tmod 2) + c).tdiv 2)) hf30 rfl rfl rfl rfl rfl rfl (r_assign rfl) fun ac28 hf31 => ?_)
    refine seq_end ?_
    clear ac25 hf28 ac26 hf29 ac27 hf30
    refine then_normal ?_
    refine code_seq ?_
    refine seq_start (l := [0, 1, 2]) rfl ?_
    refine seq_one (op_val (v := .int .u64 (a / pw i)) hf31 rfl rfl rfl rfl rfl rfl (r_move rfl) fun ac29 hf32 => ?_)
    refine seq_one (op_val (v := .int .u64 (a / pw (i + 1))) hf32 rfl rfl rfl rfl rfl rfl (r_quo (c := (a / pw (i + 1))) rfl rfl (by omega) (by rw [dv_s ha.1]; exact wrap_u64 (dv_b ha.1 ha.2 _).1 (dv_b ha.1 ha.2 _).2)) fun ac30 hf33 => ?_)
    refine seq_one (op_val (v := .int .u64 (a / pw (i + 1))) hf33 rfl rfl rfl rfl rfl rfl (r_assign rfl) fun ac31 hf34 => ?_)
    refine seq_end ?_
    clear ac28 hf31 ac29 hf32 ac30 hf33
    refine then_normal ?_
    refine seq_start (l := [0, 1, 2]) rfl ?_
    refine seq_one (op_val (v := .int .u64 (b / pw i)) hf34 rfl rfl rfl rfl rfl rfl (r_move rfl) fun ac32 hf35 => ?_)
    refine seq_one (op_val (v := .int .u64 (b / pw (i + 1))) hf35 rfl rfl rfl rfl rfl rfl (r_quo (c := (b / pw (i + 1))) rfl rfl (by omega) (by rw [dv_s hb.1]; exact wrap_u64 (dv_b hb.1 hb.2 _).1 (dv_b hb.1 hb.2 _).2)) fun ac33 hf36 => ?_)
    refine seq_one (op_val (v := .int .u64 (b / pw (i + 1))) hf36 rfl rfl rfl rfl rfl rfl (r_assign rfl) fun ac34 hf37 => ?_)
    refine seq_end ?_
    clear ac31 hf34 ac32 hf35 ac33 hf36
    refine block_normal ?_
    refine then_normal ?_
    refine seq_start (l := [0, 1, 2]) rfl ?_
    refine seq_one (op_val (v := .int .i64 (i : Int)) hf37 rfl rfl rfl rfl rfl rfl (r_move rfl) fun ac35 hf38 => ?_)
    refine seq_one (op_val (v := .int .i64 ((i + 1 : Nat) : Int)) hf38 rfl rfl rfl rfl rfl rfl (r_add (c := ((i + 1 : Nat) : Int)) rfl rfl (wrap_i64 (by omega) (by have := hx1.1; omega))) fun ac36 hf39 => ?_)
    refine seq_one (op_val (v := .int .i64 ((i + 1 : Nat) : Int)) hf39 rfl rfl rfl rfl rfl rfl (r_assign rfl) fun ac37 hf40 => ?_)
    refine seq_end ?_
    clear ac34 hf37 ac35 hf38 ac36 hf39
    refine then_normal ?_
    exact ⟨(i + 1, (o + (((((a / pw i).tmod 2) + ((b / pw i).tmod 2) + c).tmod 2) * pw i)), ((((a / pw i).tmod 2) + ((b / pw i).tmod 2) + c).tdiv 2)), (hf40.cons 2 rfl (hf40.cons 6 rfl (hf40.cons 0 rfl (hf40.cons 1 rfl (hf40.cons 7 rfl (hf40.cons 8 rfl (hf40.cons 9 rfl hf40.nil))))))), ⟨hI2, ⟨by have := of_decide_eq_true c13_1; omega, hx1.2.step ha.1 hb.1 rfl⟩⟩, (by have := of_decide_eq_true c13_1; show k - (i + 1) < k - i; omega)⟩
  · have hf41 := hf11.know 13 (u := .bool false) rfl (congrArg Value.bool c13_1)
    refine wp_exit ?_
    refine then_exit ?_
    refine then_exit ?_
    refine block_here ?_
    refine then_normal ?_
    refine code_seq ?_
    refine seq_start (l := [0, 1]) rfl ?_
    refine seq_one (op_val (v := .int .u64 o) hf41 rfl rfl rfl rfl rfl rfl (r_move rfl) fun ac38 hf42 => ?_)
    refine seq_one (op_val (v := .int .u64 o) hf42 rfl rfl rfl rfl rfl rfl (r_assign rfl) fun ac39 hf43 => ?_)
    refine seq_end ?_
    clear hf11 ac9 hf41 ac38 hf42
    refine then_normal ?_
    refine wp_ret ?_
    have ek : i = k := by have := of_decide_eq_false c13_1; have := hx1.1; omega
    have hx2 := hx1.2
    rw [ek] at hx2
    refine post1 rfl hf43 rfl ⟨?_, hI2.done (fresh_keys (ks := []) rfl fk_nil)⟩
    rw [hx2.end_]
set_option maxHeartbeats 8000000 in
theorem aheadR_ok {a b : Int} {k : Nat} (ha : 0 ≤ a ∧ a < 18446744073709551616) (hb : 0 ≤ b ∧ b < 18446744073709551616) (hk2 : k ≤ 64) (hk1 : 1 ≤ k) (ga : ¬ a > pw k - 1) (gb : ¬ b > pw k - 1) : Pur Try.prog 10 [.int .u64 a, .int .u64 b, .int .i64 (k : Int)] (.tuple #[.int .u64 ((a - b) % pw k), .bool true]) := by
  intro w
  have hI1 := Inv.start w
  refine enter (n := 58) Try.func10 rfl rfl rfl ?_
  intro ac1 hf1
  refine code_seq ?_
  refine seq_start (l := [0, 1]) rfl ?_
  refine seq_one (op_val (v := .int .u64 0) hf1 rfl rfl rfl rfl rfl rfl (r_assign rfl) fun ac2 hf2 => ?_)
  refine seq_one (op_val (v := .bool false) hf2 rfl rfl rfl rfl rfl rfl (r_assign rfl) fun ac3 hf3 => ?_)
  refine seq_end ?_
  clear ac1 hf1 ac2 hf2
  refine then_normal ?_
  refine code_seq ?_
  refine code_seq ?_
  refine seq_start (l := [0, 1, 2, 3, 4, 5, 6, 7, 8, 9, 10, 11, 12, 13, 14, 15, 16, 17]) rfl ?_
  refine seq_one (op_val (v := .int .i64 (k : Int)) hf3 rfl rfl rfl rfl rfl rfl (r_move rfl) fun ac4 hf4 => ?_)
  refine seq_one (op_val (v := .bool (decide ((k : Int) < 1))) hf4 rfl rfl rfl rfl rfl rfl (r_lss rfl rfl) fun ac5 hf5 => ?_)
  refine seq_one (op_val (v := .bool (decide ((k : Int) < 1))) hf5 rfl rfl rfl rfl rfl rfl (r_move rfl) fun ac6 hf6 => ?_)
  have hf7 := hf6.know 14 (u := .bool false) rfl (congrArg Value.bool (decide_eq_false (by omega)))
  refine seq_one (op_val (v := .int .i64 (k : Int)) hf7 rfl rfl rfl rfl rfl rfl (r_move rfl) fun ac7 hf8 => ?_)
  refine seq_one (op_val (v := .bool (decide ((k : Int) > 64))) hf8 rfl rfl rfl rfl rfl rfl (r_gtr rfl rfl) fun ac8 hf9 => ?_)
  refine seq_one (op_val (v := .bool (decide ((k : Int) > 64))) hf9 rfl rfl rfl rfl rfl rfl (r_pickF rfl rfl) fun ac9 hf10 => ?_)
  refine seq_one (op_val (v := .bool (decide ((k : Int) > 64))) hf10 rfl rfl rfl rfl rfl rfl (r_move rfl) fun ac10 hf11 => ?_)
  have hf12 := hf11.know 18 (u := .bool false) rfl (congrArg Value.bool (decide_eq_false (by omega)))
  refine seq_one (op_val (v := .int .u64 a) hf12 rfl rfl rfl rfl rfl rfl (r_move rfl) fun ac11 hf13 => ?_)
  refine seq_one (op_val (v := .int .i64 (k : Int)) hf13 rfl rfl rfl rfl rfl rfl (r_move rfl) fun ac12 hf14 => ?_)
  refine seq_one (op_pure hf14 rfl rfl rfl rfl ca_24 (below_pur (m := a) ha hk2) hI1 fun ac13 wd1 hI2 hf15 => ?_)
  refine seq_one (op_val (v := .bool (!(!decide (a > pw k - 1)))) hf15 rfl rfl rfl rfl rfl rfl (r_not rfl) fun ac14 hf16 => ?_)
  refine seq_one (op_val (v := .bool (!(!decide (a > pw k - 1)))) hf16 rfl rfl rfl rfl rfl rfl (r_pickF rfl rfl) fun ac15 hf17 => ?_)
  refine seq_one (op_val (v := .bool (!(!decide (a > pw k - 1)))) hf17 rfl rfl rfl rfl rfl rfl (r_move rfl) fun ac16 hf18 => ?_)
  have hf19 := hf18.know 24 (u := .bool false) rfl (congrArg Value.bool (by rw [decide_eq_false (show ¬ a > pw k - 1 by omega)]; rfl))
  refine seq_one (op_val (v := .int .u64 b) hf19 rfl rfl rfl rfl rfl rfl (r_move rfl) fun ac17 hf20 => ?_)
  refine seq_one (op_val (v := .int .i64 (k : Int)) hf20 rfl rfl rfl rfl rfl rfl (r_move rfl) fun ac18 hf21 => ?_)
  refine seq_one (op_pure hf21 rfl rfl rfl rfl ca_24 (below_pur (m := b) hb hk2) hI2 fun ac19 wd2 hI3 hf22 => ?_)
  refine seq_one (op_val (v := .bool (!(!decide (b > pw k - 1)))) hf22 rfl rfl rfl rfl rfl rfl (r_not rfl) fun ac20 hf23 => ?_)
  refine seq_one (op_val (v := .bool (!(!decide (b > pw k - 1)))) hf23 rfl rfl rfl rfl rfl rfl (r_pickF rfl rfl) fun ac21 hf24 => ?_)
  refine seq_end ?_
  clear ac3 hf3 ac4 hf4 ac5 hf5 hf6 ac6 hf7 ac7 hf8 ac8 hf9 ac9 hf10 hf11 ac10 hf12 ac11 hf13 ac12 hI1 hf14 ac13 hf15 ac14 hf16 ac15 hf17 hf18 ac16 hf19 ac17 hf20 ac18 wd1 hI2 hf21 ac19 hf22 ac20 hf23
  refine then_normal ?_
  have hf25 := hf24.know 29 (u := .bool false) rfl (congrArg Value.bool (by rw [decide_eq_false (show ¬ b > pw k - 1 by omega)]; rfl))
  refine code_if_false hf25 rfl ?_
  refine wp_skip ?_
  refine then_normal ?_
  refine code_seq ?_
  refine seq_start (l := [0, 1]) rfl ?_
  refine seq_one (op_val (v := .int .u64 0) hf25 rfl rfl rfl rfl rfl rfl (r_assign rfl) fun ac22 hf26 => ?_)
  refine seq_one (op_val (v := .int .u64 0) hf26 rfl rfl rfl rfl rfl rfl (r_assign rfl) fun ac23 hf27 => ?_)
  refine seq_end ?_
  clear hf24 ac21 hf25 ac22 hf26
  refine then_normal ?_
  refine code_seq ?_
  refine code_seq ?_
  refine seq_start (l := [0]) rfl ?_
  refine seq_one (op_val (v := .int .i64 0) hf27 rfl rfl rfl rfl rfl rfl (r_assign rfl) fun ac24 hf28 => ?_)
  refine seq_end ?_
  clear ac23 hf27
  refine then_normal ?_
  refine wp_block ?_
  have hf29 := hf28.know 0 (u := .int .u64 (a / pw 0)) rfl (by rw [dv_0])
  have hf30 := hf29.know 1 (u := .int .u64 (b / pw 0)) rfl (by rw [dv_0])
  refine code_loop (α := Nat × Int × Int) (fun (x : Nat × Int × Int) => match x with | (i, o, c) => [(2, .int .i64 (k : Int)), (6, .int .u64 0), (7, .bool false), (12, .int .i64 (k : Int)), (13, .bool (decide ((k : Int) < 1))), (14, .bool false), (15, .int .i64 (k : Int)), (16, .bool (decide ((k : Int) > 64))), (17, .bool (decide ((k : Int) > 64))), (18, .bool false), (19, .int .u64 a), (20, .int .i64 (k : Int)), (21, .bool (!decide (a > pw k - 1))), (22, .bool (!(!decide (a > pw k - 1)))), (23, .bool (!(!decide (a > pw k - 1)))), (24, .bool false), (25, .int .u64 b), (26, .int .i64 (k : Int)), (27, .bool (!decide (b > pw k - 1))), (28, .bool (!(!decide (b > pw k - 1)))), (29, .bool false), (0, .int .u64 (a / pw i)), (1, .int .u64 (b / pw i)), (8, .int .u64 o), (9, .int .u64 c), (10, .int .i64 (i : Int))]) (fun (x : Nat × Int × Int) => match x with | (i, o, c) => fun wL => Inv w [] wL ∧ (i ≤ k ∧ Di a b i o c)) (fun (x : Nat × Int × Int) => match x with | (i, o, c) => k - i) (0, 0, 0) (hf30.cons 2 rfl (hf30.cons 6 rfl (hf30.cons 7 rfl (hf30.cons 12 rfl (hf30.cons 13 rfl (hf30.cons 14 rfl (hf30.cons 15 rfl (hf30.cons 16 rfl (hf30.cons 17 rfl (hf30.cons 18 rfl (hf30.cons 19 rfl (hf30.cons 20 rfl (hf30.cons 21 rfl (hf30.cons 22 rfl (hf30.cons 23 rfl (hf30.cons 24 rfl (hf30.cons 25 rfl (hf30.cons 26 rfl (hf30.cons 27 rfl (hf30.cons 28 rfl (hf30.cons 29 rfl (hf30.cons 0 rfl (hf30.cons 1 rfl (hf30.cons 8 rfl (hf30.cons 9 rfl (hf30.cons 10 rfl hf30.nil)))))))))))))))))))))))))) ⟨hI3, ⟨Nat.zero_le _, Di.init⟩⟩ ?_
  intro ⟨i, o, c⟩ ac25 wd3 hf31 hL1
  obtain ⟨hI4, hx1⟩ := hL1
  dsimp only at hf31 hI4 hx1
  clear hf28 hf29 ac24 wd2 hf30 hI3
  refine code_seq ?_
  refine code_seq ?_
  refine seq_start (l := [0, 1, 2]) rfl ?_
  refine seq_one (op_val (v := .int .i64 (i : Int)) hf31 rfl rfl rfl rfl rfl rfl (r_move rfl) fun ac26 hf32 => ?_)
  refine seq_one (op_val (v := .int .i64 (k : Int)) hf32 rfl rfl rfl rfl rfl rfl (r_move rfl) fun ac27 hf33 => ?_)
  refine seq_one (op_val (v := .bool (decide ((i : Int) < (k : Int)))) hf33 rfl rfl rfl rfl rfl rfl (r_lss rfl rfl) fun ac28 hf34 => ?_)
  refine seq_end ?_
  clear ac25 hf31 ac26 hf32 ac27 hf33
  refine then_normal ?_
  refine code_if hf34 rfl (fun c32_1 => ?_) (fun c32_1 => ?_)
  · have hf35 := hf34.know 32 (u := .bool true) rfl (congrArg Value.bool c32_1)
    refine wp_skip ?_
    refine then_normal ?_
    refine code_seq ?_
    refine wp_block ?_
    refine code_seq ?_
    refine seq_start (l := [0, 1, 2, 3, 4, 5, 6, 7, 8]) rfl ?_
    refine seq_one (op_val (v := .int .u64 (a / pw i)) hf35 rfl rfl rfl rfl rfl rfl (r_move rfl) fun ac29 hf36 => ?_)
    refine seq_one (op_val (v := .int .u64 ((a / pw i).tmod 2)) hf36 rfl rfl rfl rfl rfl rfl (r_rem (c := ((a / pw i).tmod 2)) rfl rfl (by omega) rfl) fun ac30 hf37 => ?_)
    refine seq_one (op_val (v := .int .u64 (2 + ((a / pw i).tmod 2))) hf37 rfl rfl rfl rfl rfl rfl (r_add (c := (2 + ((a / pw i).tmod 2))) rfl rfl (by have h1 := td2 (dv_b' ha.1 i); have h2 := td2 (dv_b' hb.1 i); have h3 := hx1.2.cc; exact wrap_u64 (by omega) (by omega))) fun ac31 hf38 => ?_)
    refine seq_one (op_val (v := .int .u64 (b / pw i)) hf38 rfl rfl rfl rfl rfl rfl (r_move rfl) fun ac32 hf39 => ?_)
    refine seq_one (op_val (v := .int .u64 ((b / pw i).tmod 2)) hf39 rfl rfl rfl rfl rfl rfl (r_rem (c := ((b / pw i).tmod 2)) rfl rfl (by omega) rfl) fun ac33 hf40 => ?_)
    refine seq_one (op_val (v := .int .u64 ((2 + ((a / pw i).tmod 2)) - ((b / pw i).tmod 2))) hf40 rfl rfl rfl rfl rfl rfl (r_sub (c := ((2 + ((a / pw i).tmod 2)) - ((b / pw i).tmod 2))) rfl rfl (by have h1 := td2 (dv_b' ha.1 i); have h2 := td2 (dv_b' hb.1 i); have h3 := hx1.2.cc; exact wrap_u64 (by omega) (by omega))) fun ac34 hf41 => ?_)
    refine seq_one (op_val (v := .int .u64 c) hf41 rfl rfl rfl rfl rfl rfl (r_move rfl) fun ac35 hf42 => ?_)
    refine seq_one (op_val (v := .int .u64 (2 + ((a / pw i).tmod 2) - ((b / pw i).tmod 2) - c)) hf42 rfl rfl rfl rfl rfl rfl (r_sub (c := (2 + ((a / pw i).tmod 2) - ((b / pw i).tmod 2) - c)) rfl rfl (by have h1 := td2 (dv_b' ha.1 i); have h2 := td2 (dv_b' hb.1 i); have h3 := hx1.2.cc; exact wrap_u64 (by omega) (by omega))) fun ac36 hf43 => ?_)
    refine seq_one (op_val (v := .int .u64 (2 + ((a / pw i).tmod 2) - ((b / pw i).tmod 2) - c)) hf43 rfl rfl rfl rfl rfl rfl (r_assign rfl) fun ac37 hf44 => ?_)
    refine seq_end ?_
    clear hf34 ac28 hf35 ac29 hf36 ac30 hf37 ac31 hf38 ac32 hf39 ac33 hf40 ac34 hf41 ac35 hf42 ac36 hf43
    refine then_normal ?_
    refine code_seq ?_
    refine seq_start (l := [0, 1, 2, 3, 4, 5, 6, 7]) rfl ?_
    refine seq_one (op_val (v := .int .u64 o) hf44 rfl rfl rfl rfl rfl rfl (r_move rfl) fun ac38 hf45 => ?_)
    refine seq_one (op_val (v := .int .u64 (2 + ((a / pw i).tmod 2) - ((b / pw i).tmod 2) - c)) hf45 rfl rfl rfl rfl rfl rfl (r_move rfl) fun ac39 hf46 => ?_)
    refine seq_one (op_val (v := .int .u64 ((2 + ((a / pw i).tmod 2) - ((b / pw i).tmod 2) - c).tmod 2)) hf46 rfl rfl rfl rfl rfl rfl (r_rem (c := ((2 + ((a / pw i).tmod 2) - ((b / pw i).tmod 2) - c).tmod 2)) rfl rfl (by omega) rfl) fun ac40 hf47 => ?_)
    refine seq_one (op_val (v := .int .i64 (i : Int)) hf47 rfl rfl rfl rfl rfl rfl (r_move rfl) fun ac41 hf48 => ?_)
    refine seq_one (op_val (v := .int .u64 (i : Int)) hf48 rfl rfl rfl rfl rfl rfl (r_conv (c := (i : Int)) ui_3 ui_65 rfl (wrap_u64 (by omega) (by have := of_decide_eq_true c32_1; omega))) fun ac42 hf49 => ?_)
    refine seq_one (op_val (v := .int .u64 (((2 + ((a / pw i).tmod 2) - ((b / pw i).tmod 2) - c).tmod 2) * pw i)) hf49 rfl rfl rfl rfl rfl rfl (r_shl (c := (((2 + ((a / pw i).tmod 2) - ((b / pw i).tmod 2) - c).tmod 2) * pw i)) rfl rfl (by omega) (by have h1 := td2 (dv_b' ha.1 i); have h2 := td2 (dv_b' hb.1 i); have h3 := hx1.2.cc; have h4 := td2 (n := (2 + ((a / pw i).tmod 2) - ((b / pw i).tmod 2) - c)) (by omega); exact shl_w (by have := of_decide_eq_true c32_1; omega) h4.1 h4.2.1)) fun ac43 hf50 => ?_)
    refine seq_one (op_val (v := .int .u64 (o + (((2 + ((a / pw i).tmod 2) - ((b / pw i).tmod 2) - c).tmod 2) * pw i))) hf50 rfl rfl rfl rfl rfl rfl (r_add (c := (o + (((2 + ((a / pw i).tmod 2) - ((b / pw i).tmod 2) - c).tmod 2) * pw i))) rfl rfl (by have h1 := td2 (dv_b' ha.1 i); have h2 := td2 (dv_b' hb.1 i); have h3 := hx1.2.cc; have hs := (hx1.2.step ha.1 hb.1 (n := (2 + ((a / pw i).tmod 2) - ((b / pw i).tmod 2) - c)) rfl).oo; have := pw_le' (i := i + 1) (by have := of_decide_eq_true c32_1; omega); exact wrap_u64 hs.1 (by omega))) fun ac44 hf51 => ?_)
    refine seq_one (op_val (v := .int .u64 (o + (((2 + ((a / pw i).tmod 2) - ((b / pw i).tmod 2) - c).tmod 2) * pw i))) hf51 rfl rfl rfl rfl rfl rfl (r_assign rfl) fun ac45 hf52 => ?_)
    refine seq_end ?_
    clear ac37 hf44 ac38 hf45 ac39 hf46 ac40 hf47 ac41 hf48 ac42 hf49 ac43 hf50 ac44 hf51
    refine then_normal ?_
    refine code_seq ?_
    refine seq_start (l := [0, 1, 2, 3]) rfl ?_
    refine seq_one (op_val (v := .int .u64 (2 + ((a / pw i).tmod 2) - ((b / pw i).tmod 2) - c)) hf52 rfl rfl rfl rfl rfl rfl (r_move rfl) fun ac46 hf53 => ?_)
    refine seq_one (op_val (v := .int .u64 ((2 + ((a / pw i).tmod 2) - ((b / pw i).tmod 2) - c).tdiv 2)) hf53 rfl rfl rfl rfl rfl rfl (r_quo (c := ((2 + ((a / pw i).tmod 2) - ((b / pw i).tmod 2) - c).tdiv 2)) rfl rfl (by omega) (by have h1 := td2 (dv_b' ha.1 i); have h2 := td2 (dv_b' hb.1 i); have h3 := hx1.2.cc; have h4 := td2 (n := (2 + ((a / pw i).tmod 2) - ((b / pw i).tmod 2) - c)) (by omega); exact wrap_u64 h4.2.2.2 (by omega))) fun ac47 hf54 => ?_)
    refine seq_one (op_val (v := .int .u64 (1 - ((2 + ((a / pw i).tmod 2) - ((b / pw i).tmod 2) - c).tdiv 2))) hf54 rfl rfl rfl rfl rfl rfl (r_sub (c := (1 - ((2 + ((a / pw i).tmod 2) - ((b / pw i).tmod 2) - c).tdiv 2))) rfl rfl (by have h1 := td2 (dv_b' ha.1 i); have h2 := td2 (dv_b' hb.1 i); have h3 := hx1.2.cc; have h4 := td2 (n := (2 + ((a / pw i).tmod 2) - ((b / pw i).tmod 2) - c)) (by omega); exact wrap_u64 (by omega) (by omega))) fun ac48 hf55 => ?_)
    refine seq_one (op_val (v := .int .u64 (1 - ((2 + ((a / pw i).tmod 2) - ((b / pw i).tmod 2) - c).tdiv 2))) hf55 rfl rfl rfl rfl rfl rfl (r_assign rfl) fun ac49 hf56 => ?_)
    refine seq_end ?_
    clear ac45 hf52 ac46 hf53 ac47 hf54 ac48 hf55
    refine then_normal ?_
    refine code_seq ?_
    refine seq_start (l := [0, 1, 2]) rfl ?_
    refine seq_one (op_val (v := .int .u64 (a / pw i)) hf56 rfl rfl rfl rfl rfl rfl (r_move rfl) fun ac50 hf57 => ?_)
    refine seq_one (op_val (v := .int .u64 (a / pw (i + 1))) hf57 rfl rfl rfl rfl rfl rfl (r_quo (c := (a / pw (i + 1))) rfl rfl (by omega) (by rw [dv_s ha.1]; exact wrap_u64 (dv_b ha.1 ha.2 _).1 (dv_b ha.1 ha.2 _).2)) fun ac51 hf58 => ?_)
    refine seq_one (op_val (v := .int .u64 (a / pw (i + 1))) hf58 rfl rfl rfl rfl rfl rfl (r_assign rfl) fun ac52 hf59 => ?_)
    refine seq_end ?_
    clear ac49 hf56 ac50 hf57 ac51 hf58
    refine then_normal ?_
    refine seq_start (l := [0, 1, 2]) rfl ?_
    refine seq_one (op_val (v := .int .u64 (b / pw i)) hf59 rfl rfl rfl rfl rfl rfl (r_move rfl) fun ac53 hf60 => ?_)
    refine seq_one (op_val (v := .int .u64 (b / pw (i + 1))) hf60 rfl rfl rfl rfl rfl rfl (r_quo (c := (b / pw (i + 1))) rfl rfl (by omega) (by rw [dv_s hb.1]; exact wrap_u64 (dv_b hb.1 hb.2 _).1 (dv_b hb.1 hb.2 _).2)) fun ac54 hf61 => ?_)
    refine seq_one (op_val (v := .int .u64 (b / pw (i + 1))) hf61 rfl rfl rfl rfl rfl rfl (r_assign rfl) fun ac55 hf62 => ?_)
    refine seq_end ?_
    clear ac52 hf59 ac53 hf60 ac54 hf61
    refine block_normal ?_
    refine then_normal ?_
    refine seq_start (l := [0, 1, 2]) rfl ?_
    refine seq_one (op_val (v := .int .i64 (i : Int)) hf62 rfl rfl rfl rfl rfl rfl (r_move rfl) fun ac56 hf63 => ?_)
    refine seq_one (op_val (v := .int .i64 ((i + 1 : Nat) : Int)) hf63 rfl rfl rfl rfl rfl rfl (r_add (c := ((i + 1 : Nat) : Int)) rfl rfl (wrap_i64 (by omega) (by have := hx1.1; omega))) fun ac57 hf64 => ?_)
    refine seq_one (op_val (v := .int .i64 ((i + 1 : Nat) : Int)) hf64 rfl rfl rfl rfl rfl rfl (r_assign rfl) fun ac58 hf65 => ?_)
    refine seq_end ?_
    clear ac55 hf62 ac56 hf63 ac57 hf64
    refine then_normal ?_
    exact ⟨(i + 1, (o + (((2 + ((a / pw i).tmod 2) - ((b / pw i).tmod 2) - c).tmod 2) * pw i)), (1 - ((2 + ((a / pw i).tmod 2) - ((b / pw i).tmod 2) - c).tdiv 2))), (hf65.cons 2 rfl (hf65.cons 6 rfl (hf65.cons 7 rfl (hf65.cons 12 rfl (hf65.cons 13 rfl (hf65.cons 14 rfl (hf65.cons 15 rfl (hf65.cons 16 rfl (hf65.cons 17 rfl (hf65.cons 18 rfl (hf65.cons 19 rfl (hf65.cons 20 rfl (hf65.cons 21 rfl (hf65.cons 22 rfl (hf65.cons 23 rfl (hf65.cons 24 rfl (hf65.cons 25 rfl (hf65.cons 26 rfl (hf65.cons 27 rfl (hf65.cons 28 rfl (hf65.cons 29 rfl (hf65.cons 0 rfl (hf65.cons 1 rfl (hf65.cons 8 rfl (hf65.cons 9 rfl (hf65.cons 10 rfl hf65.nil)))))))))))))))))))))))))), ⟨hI4, ⟨by have := of_decide_eq_true c32_1; omega, hx1.2.step ha.1 hb.1 rfl⟩⟩, (by have := of_decide_eq_true c32_1; show k - (i + 1) < k - i; omega)⟩
  · have hf66 := hf34.know 32 (u := .bool false) rfl (congrArg Value.bool c32_1)
    refine wp_exit ?_
    refine then_exit ?_
    refine then_exit ?_
    refine block_here ?_
    refine then_normal ?_
    refine code_seq ?_
    refine seq_start (l := [0, 1, 2]) rfl ?_
    refine seq_one (op_val (v := .int .u64 o) hf66 rfl rfl rfl rfl rfl rfl (r_move rfl) fun ac59 hf67 => ?_)
    refine seq_one (op_val (v := .int .u64 o) hf67 rfl rfl rfl rfl rfl rfl (r_assign rfl) fun ac60 hf68 => ?_)
    refine seq_one (op_val (v := .bool true) hf68 rfl rfl rfl rfl rfl rfl (r_assign rfl) fun ac61 hf69 => ?_)
    refine seq_end ?_
    clear hf34 ac28 hf66 ac59 hf67 ac60 hf68
    refine then_normal ?_
    refine wp_ret ?_
    have ek : i = k := by have := of_decide_eq_false c32_1; have := hx1.1; omega
    have hx2 := hx1.2
    rw [ek] at hx2
    refine post2 rfl hf69 rfl rfl ⟨?_, hI4.done (fresh_keys (ks := []) rfl fk_nil)⟩
    rw [hx2.end_ ha.1 hb.1 (by omega) (by omega)]
set_option maxHeartbeats 8000000 in
theorem aheadR_big {a b : Int} {k : Nat} (ha : 0 ≤ a ∧ a < 18446744073709551616) (hb : 0 ≤ b ∧ b < 18446744073709551616) (hk1 : 1 ≤ k) (hk2 : k ≤ 64) (h : a > pw k - 1 ∨ b > pw k - 1) : Pur Try.prog 10 [.int .u64 a, .int .u64 b, .int .i64 (k : Int)] (.tuple #[.int .u64 0, .bool false]) := by
  intro w
  have hI1 := Inv.start w
  refine enter (n := 58) Try.func10 rfl rfl rfl ?_
  intro ac1 hf1
  refine code_seq ?_
  refine seq_start (l := [0, 1]) rfl ?_
  refine seq_one (op_val (v := .int .u64 0) hf1 rfl rfl rfl rfl rfl rfl (r_assign rfl) fun ac2 hf2 => ?_)
  refine seq_one (op_val (v := .bool false) hf2 rfl rfl rfl rfl rfl rfl (r_assign rfl) fun ac3 hf3 => ?_)
  refine seq_end ?_
  clear ac1 hf1 ac2 hf2
  refine then_normal ?_
  refine code_seq ?_
  refine code_seq ?_
  refine seq_start (l := [0, 1, 2, 3, 4, 5, 6, 7, 8, 9, 10, 11, 12, 13, 14, 15, 16, 17]) rfl ?_
  refine seq_one (op_val (v := .int .i64 (k : Int)) hf3 rfl rfl rfl rfl rfl rfl (r_move rfl) fun ac4 hf4 => ?_)
  refine seq_one (op_val (v := .bool (decide ((k : Int) < 1))) hf4 rfl rfl rfl rfl rfl rfl (r_lss rfl rfl) fun ac5 hf5 => ?_)
  refine seq_one (op_val (v := .bool (decide ((k : Int) < 1))) hf5 rfl rfl rfl rfl rfl rfl (r_move rfl) fun ac6 hf6 => ?_)
  have hf7 := hf6.know 14 (u := .bool false) rfl (congrArg Value.bool (decide_eq_false (by omega)))
  refine seq_one (op_val (v := .int .i64 (k : Int)) hf7 rfl rfl rfl rfl rfl rfl (r_move rfl) fun ac7 hf8 => ?_)
  refine seq_one (op_val (v := .bool (decide ((k : Int) > 64))) hf8 rfl rfl rfl rfl rfl rfl (r_gtr rfl rfl) fun ac8 hf9 => ?_)
  refine seq_one (op_val (v := .bool (decide ((k : Int) > 64))) hf9 rfl rfl rfl rfl rfl rfl (r_pickF rfl rfl) fun ac9 hf10 => ?_)
  refine seq_one (op_val (v := .bool (decide ((k : Int) > 64))) hf10 rfl rfl rfl rfl rfl rfl (r_move rfl) fun ac10 hf11 => ?_)
  have hf12 := hf11.know 18 (u := .bool false) rfl (congrArg Value.bool (decide_eq_false (by omega)))
  refine seq_one (op_val (v := .int .u64 a) hf12 rfl rfl rfl rfl rfl rfl (r_move rfl) fun ac11 hf13 => ?_)
  refine seq_one (op_val (v := .int .i64 (k : Int)) hf13 rfl rfl rfl rfl rfl rfl (r_move rfl) fun ac12 hf14 => ?_)
  refine seq_one (op_pure hf14 rfl rfl rfl rfl ca_24 (below_pur (m := a) ha hk2) hI1 fun ac13 wd1 hI2 hf15 => ?_)
  refine seq_one (op_val (v := .bool (!(!decide (a > pw k - 1)))) hf15 rfl rfl rfl rfl rfl rfl (r_not rfl) fun ac14 hf16 => ?_)
  refine seq_one (op_val (v := .bool (!(!decide (a > pw k - 1)))) hf16 rfl rfl rfl rfl rfl rfl (r_pickF rfl rfl) fun ac15 hf17 => ?_)
  refine seq_one (op_val (v := .bool (!(!decide (a > pw k - 1)))) hf17 rfl rfl rfl rfl rfl rfl (r_move rfl) fun ac16 hf18 => ?_)
  rcases Bool.eq_false_or_eq_true (!(!decide (a > pw k - 1)) : Bool) with g24_1 | g24_1
  · have hf19 := hf18.know 24 (u := .bool true) rfl (congrArg Value.bool g24_1)
    refine seq_one (op_skip hf19 rfl rfl rfl rfl fun ac17 hf20 => ?_)
    refine seq_one (op_skip hf20 rfl rfl rfl rfl fun ac18 hf21 => ?_)
    refine seq_one (op_skip hf21 rfl rfl rfl rfl fun ac19 hf22 => ?_)
    refine seq_one (op_skip hf22 rfl rfl rfl rfl fun ac20 hf23 => ?_)
    refine seq_one (op_val (v := .bool true) hf23 rfl rfl rfl rfl rfl rfl (r_pickT rfl rfl) fun ac21 hf24 => ?_)
    refine seq_end ?_
    clear ac3 hf3 ac4 hf4 ac5 hf5 hf6 ac6 hf7 ac7 hf8 ac8 hf9 ac9 hf10 hf11 ac10 hf12 ac11 hf13 ac12 hI1 hf14 ac13 hf15 ac14 hf16 ac15 hf17 hf18 ac16 hf19 ac17 hf20 ac18 hf21 ac19 hf22 ac20 hf23
    refine then_normal ?_
    refine code_if_true hf24 rfl ?_
    refine code_seq ?_
    refine seq_start (l := [0, 1]) rfl ?_
    refine seq_one (op_val (v := .int .u64 0) hf24 rfl rfl rfl rfl rfl rfl (r_assign rfl) fun ac22 hf25 => ?_)
    refine seq_one (op_val (v := .bool false) hf25 rfl rfl rfl rfl rfl rfl (r_assign rfl) fun ac23 hf26 => ?_)
    refine seq_end ?_
    clear ac21 hf24 ac22 hf25
    refine then_normal ?_
    refine wp_ret ?_
    refine then_ret ?_
    refine post2 rfl hf26 rfl rfl ⟨?_, hI2.done (fresh_keys (ks := []) rfl fk_nil)⟩
    rfl
  · have hf27 := hf18.know 24 (u := .bool false) rfl (congrArg Value.bool g24_1)
    refine seq_one (op_val (v := .int .u64 b) hf27 rfl rfl rfl rfl rfl rfl (r_move rfl) fun ac24 hf28 => ?_)
    refine seq_one (op_val (v := .int .i64 (k : Int)) hf28 rfl rfl rfl rfl rfl rfl (r_move rfl) fun ac25 hf29 => ?_)
    refine seq_one (op_pure hf29 rfl rfl rfl rfl ca_24 (below_pur (m := b) hb hk2) hI2 fun ac26 wd2 hI3 hf30 => ?_)
    refine seq_one (op_val (v := .bool (!(!decide (b > pw k - 1)))) hf30 rfl rfl rfl rfl rfl rfl (r_not rfl) fun ac27 hf31 => ?_)
    refine seq_one (op_val (v := .bool (!(!decide (b > pw k - 1)))) hf31 rfl rfl rfl rfl rfl rfl (r_pickF rfl rfl) fun ac28 hf32 => ?_)
    refine seq_end ?_
    clear ac3 hf3 ac4 hf4 ac5 hf5 hf6 ac6 hf7 ac7 hf8 ac8 hf9 ac9 hf10 hf11 ac10 hf12 ac11 hf13 ac12 hI1 hf14 ac13 hf15 ac14 hf16 ac15 hf17 hf18 ac16 hf27 ac24 hf28 ac25 wd1 hI2 hf29 ac26 hf30 ac27 hf31
    refine then_normal ?_
    refine code_if hf32 rfl (fun c29_2 => ?_) (fun c29_2 => ?_)
    · have hf33 := hf32.know 29 (u := .bool true) rfl (congrArg Value.bool c29_2)
      refine code_seq ?_
      refine seq_start (l := [0, 1]) rfl ?_
      refine seq_one (op_val (v := .int .u64 0) hf33 rfl rfl rfl rfl rfl rfl (r_assign rfl) fun ac29 hf34 => ?_)
      refine seq_one (op_val (v := .bool false) hf34 rfl rfl rfl rfl rfl rfl (r_assign rfl) fun ac30 hf35 => ?_)
      refine seq_end ?_
      clear hf32 ac28 hf33 ac29 hf34
      refine then_normal ?_
      refine wp_ret ?_
      refine then_ret ?_
      refine post2 rfl hf35 rfl rfl ⟨?_, hI3.done (fresh_keys (ks := []) rfl fk_nil)⟩
      rfl
    · have hf36 := hf32.know 29 (u := .bool false) rfl (congrArg Value.bool c29_2)
      refine wp_skip ?_
      refine then_normal ?_
      refine code_seq ?_
      refine seq_start (l := [0, 1]) rfl ?_
      refine seq_one (op_val (v := .int .u64 0) hf36 rfl rfl rfl rfl rfl rfl (r_assign rfl) fun ac31 hf37 => ?_)
      refine seq_one (op_val (v := .int .u64 0) hf37 rfl rfl rfl rfl rfl rfl (r_assign rfl) fun ac32 hf38 => ?_)
      refine seq_end ?_
      clear hf32 ac28 hf36 ac31 hf37
      refine then_normal ?_
      refine code_seq ?_
      refine code_seq ?_
      refine seq_start (l := [0]) rfl ?_
      refine seq_one (op_val (v := .int .i64 0) hf38 rfl rfl rfl rfl rfl rfl (r_assign rfl) fun ac33 hf39 => ?_)
      refine seq_end ?_
      clear ac32 hf38
      refine then_normal ?_
      refine wp_block ?_
      exfalso
      simp only [Bool.not_eq_true', Bool.not_eq_false', decide_eq_true_eq, decide_eq_false_iff_not] at g24_1 c29_2
      omega
set_option maxHeartbeats 8000000 in
theorem aheadR_bits {a b bits : Int} (h : bits < 1 ∨ bits > 64) : Pur Try.prog 10 [.int .u64 a, .int .u64 b, .int .i64 bits] (.tuple #[.int .u64 0, .bool false]) := by
  intro w
  have hI1 := Inv.start w
  refine enter (n := 58) Try.func10 rfl rfl rfl ?_
  intro ac1 hf1
  refine code_seq ?_
  refine seq_start (l := [0, 1]) rfl ?_
  refine seq_one (op_val (v := .int .u64 0) hf1 rfl rfl rfl rfl rfl rfl (r_assign rfl) fun ac2 hf2 => ?_)
  refine seq_one (op_val (v := .bool false) hf2 rfl rfl rfl rfl rfl rfl (r_assign rfl) fun ac3 hf3 => ?_)
  refine seq_end ?_
  clear ac1 hf1 ac2 hf2
  refine then_normal ?_
  refine code_seq ?_
  refine code_seq ?_
  refine seq_start (l := [0, 1, 2, 3, 4, 5, 6, 7, 8, 9, 10, 11, 12, 13, 14, 15, 16, 17]) rfl ?_
  refine seq_one (op_val (v := .int .i64 bits) hf3 rfl rfl rfl rfl rfl rfl (r_move rfl) fun ac4 hf4 => ?_)
  refine seq_one (op_val (v := .bool (decide (bits < 1))) hf4 rfl rfl rfl rfl rfl rfl (r_lss rfl rfl) fun ac5 hf5 => ?_)
  refine seq_one (op_val (v := .bool (decide (bits < 1))) hf5 rfl rfl rfl rfl rfl rfl (r_move rfl) fun ac6 hf6 => ?_)
  rcases Bool.eq_false_or_eq_true (decide (bits < 1) : Bool) with g14_1 | g14_1
  · have hf7 := hf6.know 14 (u := .bool true) rfl (congrArg Value.bool g14_1)
    refine seq_one (op_skip hf7 rfl rfl rfl rfl fun ac7 hf8 => ?_)
    refine seq_one (op_skip hf8 rfl rfl rfl rfl fun ac8 hf9 => ?_)
    refine seq_one (op_val (v := .bool true) hf9 rfl rfl rfl rfl rfl rfl (r_pickT rfl rfl) fun ac9 hf10 => ?_)
    refine seq_one (op_val (v := .bool true) hf10 rfl rfl rfl rfl rfl rfl (r_move rfl) fun ac10 hf11 => ?_)
    refine seq_one (op_skip hf11 rfl rfl rfl rfl fun ac11 hf12 => ?_)
    refine seq_one (op_skip hf12 rfl rfl rfl rfl fun ac12 hf13 => ?_)
    refine seq_one (op_skip hf13 rfl rfl rfl rfl fun ac13 hf14 => ?_)
    refine seq_one (op_skip hf14 rfl rfl rfl rfl fun ac14 hf15 => ?_)
    refine seq_one (op_val (v := .bool true) hf15 rfl rfl rfl rfl rfl rfl (r_pickT rfl rfl) fun ac15 hf16 => ?_)
    refine seq_one (op_val (v := .bool true) hf16 rfl rfl rfl rfl rfl rfl (r_move rfl) fun ac16 hf17 => ?_)
    refine seq_one (op_skip hf17 rfl rfl rfl rfl fun ac17 hf18 => ?_)
    refine seq_one (op_skip hf18 rfl rfl rfl rfl fun ac18 hf19 => ?_)
    refine seq_one (op_skip hf19 rfl rfl rfl rfl fun ac19 hf20 => ?_)
    refine seq_one (op_skip hf20 rfl rfl rfl rfl fun ac20 hf21 => ?_)
    refine seq_one (op_val (v := .bool true) hf21 rfl rfl rfl rfl rfl rfl (r_pickT rfl rfl) fun ac21 hf22 => ?_)
    refine seq_end ?_
    clear ac3 hf3 ac4 hf4 ac5 hf5 hf6 ac6 hf7 ac7 hf8 ac8 hf9 ac9 hf10 ac10 hf11 ac11 hf12 ac12 hf13 ac13 hf14 ac14 hf15 ac15 hf16 ac16 hf17 ac17 hf18 ac18 hf19 ac19 hf20 ac20 hf21
    refine then_normal ?_
    refine code_if_true hf22 rfl ?_
    refine code_seq ?_
    refine seq_start (l := [0, 1]) rfl ?_
    refine seq_one (op_val (v := .int .u64 0) hf22 rfl rfl rfl rfl rfl rfl (r_assign rfl) fun ac22 hf23 => ?_)
    refine seq_one (op_val (v := .bool false) hf23 rfl rfl rfl rfl rfl rfl (r_assign rfl) fun ac23 hf24 => ?_)
    refine seq_end ?_
    clear ac21 hf22 ac22 hf23
    refine then_normal ?_
    refine wp_ret ?_
    refine then_ret ?_
    refine post2 rfl hf24 rfl rfl ⟨?_, hI1.done (fresh_keys (ks := []) rfl fk_nil)⟩
    rfl
  · have hf25 := hf6.know 14 (u := .bool false) rfl (congrArg Value.bool g14_1)
    refine seq_one (op_val (v := .int .i64 bits) hf25 rfl rfl rfl rfl rfl rfl (r_move rfl) fun ac24 hf26 => ?_)
    refine seq_one (op_val (v := .bool (decide (bits > 64))) hf26 rfl rfl rfl rfl rfl rfl (r_gtr rfl rfl) fun ac25 hf27 => ?_)
    refine seq_one (op_val (v := .bool (decide (bits > 64))) hf27 rfl rfl rfl rfl rfl rfl (r_pickF rfl rfl) fun ac26 hf28 => ?_)
    refine seq_one (op_val (v := .bool (decide (bits > 64))) hf28 rfl rfl rfl rfl rfl rfl (r_move rfl) fun ac27 hf29 => ?_)
    rcases Bool.eq_false_or_eq_true (decide (bits > 64) : Bool) with g18_2 | g18_2
    · have hf30 := hf29.know 18 (u := .bool true) rfl (congrArg Value.bool g18_2)
      refine seq_one (op_skip hf30 rfl rfl rfl rfl fun ac28 hf31 => ?_)
      refine seq_one (op_skip hf31 rfl rfl rfl rfl fun ac29 hf32 => ?_)
      refine seq_one (op_skip hf32 rfl rfl rfl rfl fun ac30 hf33 => ?_)
      refine seq_one (op_skip hf33 rfl rfl rfl rfl fun ac31 hf34 => ?_)
      refine seq_one (op_val (v := .bool true) hf34 rfl rfl rfl rfl rfl rfl (r_pickT rfl rfl) fun ac32 hf35 => ?_)
      refine seq_one (op_val (v := .bool true) hf35 rfl rfl rfl rfl rfl rfl (r_move rfl) fun ac33 hf36 => ?_)
      refine seq_one (op_skip hf36 rfl rfl rfl rfl fun ac34 hf37 => ?_)
      refine seq_one (op_skip hf37 rfl rfl rfl rfl fun ac35 hf38 => ?_)
      refine seq_one (op_skip hf38 rfl rfl rfl rfl fun ac36 hf39 => ?_)
      refine seq_one (op_skip hf39 rfl rfl rfl rfl fun ac37 hf40 => ?_)
      refine seq_one (op_val (v := .bool true) hf40 rfl rfl rfl rfl rfl rfl (r_pickT rfl rfl) fun ac38 hf41 => ?_)
      refine seq_end ?_
      clear ac3 hf3 ac4 hf4 ac5 hf5 hf6 ac6 hf25 ac24 hf26 ac25 hf27 ac26 hf28 hf29 ac27 hf30 ac28 hf31 ac29 hf32 ac30 hf33 ac31 hf34 ac32 hf35 ac33 hf36 ac34 hf37 ac35 hf38 ac36 hf39 ac37 hf40
      refine then_normal ?_
      refine code_if_true hf41 rfl ?_
      refine code_seq ?_
      refine seq_start (l := [0, 1]) rfl ?_
      refine seq_one (op_val (v := .int .u64 0) hf41 rfl rfl rfl rfl rfl rfl (r_assign rfl) fun ac39 hf42 => ?_)
      refine seq_one (op_val (v := .bool false) hf42 rfl rfl rfl rfl rfl rfl (r_assign rfl) fun ac40 hf43 => ?_)
      refine seq_end ?_
      clear ac38 hf41 ac39 hf42
      refine then_normal ?_
      refine wp_ret ?_
      refine then_ret ?_
      refine post2 rfl hf43 rfl rfl ⟨?_, hI1.done (fresh_keys (ks := []) rfl fk_nil)⟩
      rfl
    · have hf44 := hf29.know 18 (u := .bool false) rfl (congrArg Value.bool g18_2)
      refine seq_one (op_val (v := .int .u64 a) hf44 rfl rfl rfl rfl rfl rfl (r_move rfl) fun ac41 hf45 => ?_)
      refine seq_one (op_val (v := .int .i64 bits) hf45 rfl rfl rfl rfl rfl rfl (r_move rfl) fun ac42 hf46 => ?_)
      exfalso
      simp only [decide_eq_true_eq, decide_eq_false_iff_not] at g14_1 g18_2
      omega
theorem aheadR_pur {a b : Int} (bits : Int) (ha : 0 ≤ a ∧ a < 18446744073709551616) (hb : 0 ≤ b ∧ b < 18446744073709551616) : Pur Try.prog 10 [.int .u64 a, .int .u64 b, .int .i64 bits] (.tuple #[.int .u64 (aheadF a b bits).1, .bool ((aheadF a b bits).2 == 0)]) := by
  unfold aheadF
  by_cases hB : bits < 1 ∨ bits > 64
  · rw [if_pos hB]; exact aheadR_bits hB
  · rw [if_neg hB]
    obtain ⟨k, rfl⟩ := Int.eq_ofNat_of_zero_le (show 0 ≤ bits by omega)
    rw [Int.toNat_natCast]
    by_cases hg : a > pw k - 1 ∨ b > pw k - 1
    · rw [if_pos hg]; exact aheadR_big ha hb (by omega) (by omega) hg
    · rw [if_neg hg]; exact aheadR_ok ha hb (by omega) (by omega) (by omega) (by omega)
end Go.Proofs.Ytohkdjaobdgenaa
