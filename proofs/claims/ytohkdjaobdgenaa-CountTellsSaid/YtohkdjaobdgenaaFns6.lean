/-
  Counters by numbers: what each call comes to.
-/
import Derived.Test.YtohkdjaobdgenaaFns5
namespace Go.Proofs.Ytohkdjaobdgenaa
set_option linter.unusedVariables false
set_option linter.unusedSimpArgs false
set_option maxRecDepth 100000
open Go.RowKit
set_option maxHeartbeats 8000000 in
theorem made_walk {a b : Int} {n k : Nat} (ta : 0 ≤ a.tmod 20 ∧ a.tmod 20 ≤ 19) (tb : 0 ≤ b.tmod 64 ∧ b.tmod 64 ≤ 63) (en : 1 + a.tmod 20 = (n : Int)) (ek : 1 + b.tmod 64 = (k : Int)) (hn1 : 1 ≤ n) (hn2 : n ≤ 256) (hk1 : 1 ≤ k) (hk2 : k ≤ 64) (w : World) : Calls Try.prog 22 [.int .u8 a, .int .u8 b].toArray w fun e w' => ∃ lb cb, w.heap.size ≤ lb ∧ w.heap.size ≤ cb ∧ e = .returned (.tuple #[.pointer (some ⟨cb, 0, none⟩), .int .i64 (n : Int), .int .u64 (pw k - 1), .bool true]) ∧ Inv w [(lb, arr .u64 (List.replicate n 0), 24), (cb, #[.slice (some ⟨lb, 0, none⟩) n n, .int .i64 (k : Int)], 58)] w' := by
  have hI1 := Inv.start w
  refine enter (n := 33) Try.func22 rfl rfl rfl ?_
  intro ac1 hf1
  refine code_seq ?_
  refine seq_start (l := [0, 1, 2, 3]) rfl ?_
  refine seq_one (op_val (v := .pointer none) hf1 rfl rfl rfl rfl rfl rfl (r_assign rfl) fun ac2 hf2 => ?_)
  refine seq_one (op_val (v := .int .i64 0) hf2 rfl rfl rfl rfl rfl rfl (r_assign rfl) fun ac3 hf3 => ?_)
  refine seq_one (op_val (v := .int .u64 0) hf3 rfl rfl rfl rfl rfl rfl (r_assign rfl) fun ac4 hf4 => ?_)
  refine seq_one (op_val (v := .bool false) hf4 rfl rfl rfl rfl rfl rfl (r_assign rfl) fun ac5 hf5 => ?_)
  refine seq_end ?_
  clear ac1 hf1 ac2 hf2 ac3 hf3 ac4 hf4
  refine then_normal ?_
  refine code_seq ?_
  refine seq_start (l := [0, 1, 2, 3, 4, 5, 6, 7, 8, 9]) rfl ?_
  refine seq_one (op_val (v := .int .u8 a) hf5 rfl rfl rfl rfl rfl rfl (r_move rfl) fun ac6 hf6 => ?_)
  refine seq_one (op_val (v := .int .u8 (a.tmod 20)) hf6 rfl rfl rfl rfl rfl rfl (r_rem (c := (a.tmod 20)) rfl rfl (by omega) rfl) fun ac7 hf7 => ?_)
  refine seq_one (op_val (v := .int .i64 (a.tmod 20)) hf7 rfl rfl rfl rfl rfl rfl (r_conv (c := (a.tmod 20)) ui_5 ui_3 rfl (wrap_i64 (by omega) (by omega))) fun ac8 hf8 => ?_)
  refine seq_one (op_val (v := .int .i64 (n : Int)) hf8 rfl rfl rfl rfl rfl rfl (r_add (c := (n : Int)) rfl rfl (by rw [← en]; exact wrap_i64 (by omega) (by omega))) fun ac9 hf9 => ?_)
  refine seq_one (op_val (v := .int .u8 b) hf9 rfl rfl rfl rfl rfl rfl (r_move rfl) fun ac10 hf10 => ?_)
  refine seq_one (op_val (v := .int .u8 (b.tmod 64)) hf10 rfl rfl rfl rfl rfl rfl (r_rem (c := (b.tmod 64)) rfl rfl (by omega) rfl) fun ac11 hf11 => ?_)
  refine seq_one (op_val (v := .int .i64 (b.tmod 64)) hf11 rfl rfl rfl rfl rfl rfl (r_conv (c := (b.tmod 64)) ui_5 ui_3 rfl (wrap_i64 (by omega) (by omega))) fun ac12 hf12 => ?_)
  refine seq_one (op_val (v := .int .i64 (k : Int)) hf12 rfl rfl rfl rfl rfl rfl (r_add (c := (k : Int)) rfl rfl (by rw [← ek]; exact wrap_i64 (by omega) (by omega))) fun ac13 hf13 => ?_)
  refine seq_one (op_val (v := .int .i64 (n : Int)) hf13 rfl rfl rfl rfl rfl rfl (r_assign rfl) fun ac14 hf14 => ?_)
  refine seq_one (op_val (v := .int .i64 (k : Int)) hf14 rfl rfl rfl rfl rfl rfl (r_assign rfl) fun ac15 hf15 => ?_)
  refine seq_end ?_
  clear ac5 hf5 ac6 hf6 ac7 hf7 ac8 hf8 ac9 hf9 ac10 hf10 ac11 hf11 ac12 hf12 ac13 hf13 ac14 hf14
  refine then_normal ?_
  refine code_seq ?_
  refine seq_start (l := [0, 1, 2, 3, 4, 5, 6, 7]) rfl ?_
  refine seq_one (op_val (v := .int .i64 (n : Int)) hf15 rfl rfl rfl rfl rfl rfl (r_move rfl) fun ac16 hf16 => ?_)
  refine seq_one (op_val (v := .int .i64 (k : Int)) hf16 rfl rfl rfl rfl rfl rfl (r_move rfl) fun ac17 hf17 => ?_)
  refine seq_one (op_call (R := fun v w' => ∃ lb cb, Array.size (World.heap w) ≤ lb ∧ Array.size (World.heap w) ≤ cb ∧ v = .tuple #[.pointer (some ⟨cb, 0, none⟩), .int .i64 0] ∧ Inv w [(lb, arr .u64 (List.replicate n 0), 24), (cb, #[.slice (some ⟨lb, 0, none⟩) n n, .int .i64 (k : Int)], 58)] w') hf17 rfl rfl rfl rfl ca_11 ((new_walk (n := n) (k := k) hn1 hn2 hk1 hk2 _).mono fun e w' ⟨lb, cb, h1, h2, h3, h4⟩ => ⟨_, h3, lb, cb, h1, h2, rfl, h4⟩) fun ac18 v wd1 hR hf18 => ?_)
  obtain ⟨b1, b2, hqb1, hqb2, rfl, hwb1⟩ := hR
  have hb1 := Nat.le_trans hI1.size hqb1
  have hb2 := Nat.le_trans hI1.size hqb2
  have hI2 : Inv w [(b1, arr .u64 (List.replicate n 0), 24), (b2, #[.slice (some ⟨b1, 0, none⟩) n n, .int .i64 (k : Int)], 58)] _ := hI1.callN hwb1 (fun x hx => by simp only [List.mem_cons, List.mem_nil_iff, or_false] at hx; rcases hx with rfl | rfl <;> assumption)
  refine seq_one (op_val (v := .tuple #[.pointer (some ⟨b2, 0, none⟩), .int .i64 0]) hf18 rfl rfl rfl rfl rfl rfl (r_move rfl) fun ac19 hf19 => ?_)
  refine seq_one (op_val (v := .pointer (some ⟨b2, 0, none⟩)) hf19 rfl rfl rfl rfl rfl rfl (r_extract rfl rfl) fun ac20 hf20 => ?_)
  refine seq_one (op_val (v := .int .i64 0) hf20 rfl rfl rfl rfl rfl rfl (r_extract rfl rfl) fun ac21 hf21 => ?_)
  refine seq_one (op_val (v := .pointer (some ⟨b2, 0, none⟩)) hf21 rfl rfl rfl rfl rfl rfl (r_assign rfl) fun ac22 hf22 => ?_)
  refine seq_one (op_val (v := .int .i64 0) hf22 rfl rfl rfl rfl rfl rfl (r_assign rfl) fun ac23 hf23 => ?_)
  refine seq_end ?_
  clear ac15 hf15 ac16 hf16 ac17 hf17 hI1 hwb1 hqb1 hqb2 ac18 hf18 ac19 hf19 ac20 hf20 ac21 hf21 ac22 hf22
  refine then_normal ?_
  refine code_seq ?_
  refine any_start (fun w => Has [] w) follows (Has.drew Has.nil) ?_
  have hS1 : ∀ {w : World}, Has [] w := Has.nil
  have hI3 := hI2.drew
  refine any_val (i := 0) (v := .pointer (some ⟨b2, 0, none⟩)) hf23 rfl rfl rfl rfl rfl rfl (fun _ _ _ h => h) (by kernel_rfl) (by kernel_rfl) (by kernel_rfl) (fun wd1 hS1 => (r_move rfl)) hS1 fun ac24 hf24 => ?_
  refine any_val (i := 1) (v := .int .i64 (n : Int)) hf24 rfl rfl rfl rfl rfl rfl (fun _ _ _ h => h) (by kernel_rfl) (by kernel_rfl) (by kernel_rfl) (fun wd1 hS1 => (r_move rfl)) hS1 fun ac25 hf25 => ?_
  refine any_val (i := 2) (v := .int .i64 (k : Int)) hf25 rfl rfl rfl rfl rfl rfl (fun _ _ _ h => h) (by kernel_rfl) (by kernel_rfl) (by kernel_rfl) (fun wd1 hS1 => (r_move rfl)) hS1 fun ac26 hf26 => ?_
  refine any_val (i := 3) (v := .int .i64 ((64 - k : Nat) : Int)) hf26 rfl rfl rfl rfl rfl rfl (fun _ _ _ h => h) (by kernel_rfl) (by kernel_rfl) (by kernel_rfl) (fun wd1 hS1 => (r_sub (c := ((64 - k : Nat) : Int)) rfl rfl (by rw [show (64 : Int) - (k : Int) = ((64 - k : Nat) : Int) by omega]; exact wrap_i64 (by omega) (by omega)))) hS1 fun ac27 hf27 => ?_
  refine any_val (i := 4) (v := .int .u64 (pw k - 1)) hf27 rfl rfl rfl rfl rfl rfl (fun _ _ _ h => h) (by kernel_rfl) (by kernel_rfl) (by kernel_rfl) (fun wd1 hS1 => (r_shr (c := (pw k - 1)) rfl rfl (by omega) (pw_k hk1 hk2).2.2.2.1)) hS1 fun ac28 hf28 => ?_
  refine any_val (i := 5) (v := .int .i64 0) hf28 rfl rfl rfl rfl rfl rfl (fun _ _ _ h => h) (by kernel_rfl) (by kernel_rfl) (by kernel_rfl) (fun wd1 hS1 => (r_move rfl)) hS1 fun ac29 hf29 => ?_
  refine any_val (i := 6) (v := .bool true) hf29 rfl rfl rfl rfl rfl rfl (fun _ _ _ h => h) (by kernel_rfl) (by kernel_rfl) (by kernel_rfl) (fun wd1 hS1 => (r_eqlC rfl rfl (by decide))) hS1 fun ac30 hf30 => ?_
  refine any_val (i := 7) (v := .pointer (some ⟨b2, 0, none⟩)) hf30 rfl rfl rfl rfl rfl rfl (fun _ _ _ h => h) (by kernel_rfl) (by kernel_rfl) (by kernel_rfl) (fun wd1 hS1 => (r_assign rfl)) hS1 fun ac31 hf31 => ?_
  refine any_val (i := 8) (v := .int .i64 (n : Int)) hf31 rfl rfl rfl rfl rfl rfl (fun _ _ _ h => h) (by kernel_rfl) (by kernel_rfl) (by kernel_rfl) (fun wd1 hS1 => (r_assign rfl)) hS1 fun ac32 hf32 => ?_
  refine any_val (i := 9) (v := .int .u64 (pw k - 1)) hf32 rfl rfl rfl rfl rfl rfl (fun _ _ _ h => h) (by kernel_rfl) (by kernel_rfl) (by kernel_rfl) (fun wd1 hS1 => (r_assign rfl)) hS1 fun ac33 hf33 => ?_
  refine any_val (i := 10) (v := .bool true) hf33 rfl rfl rfl rfl rfl rfl (fun _ _ _ h => h) (by kernel_rfl) (by kernel_rfl) (by kernel_rfl) (fun wd1 hS1 => (r_assign rfl)) hS1 fun ac34 hf34 => ?_
  refine any_end (by kernel_rfl) ?_
  clear hI2 ac23 hf23 ac24 hf24 ac25 hf25 ac26 hf26 ac27 hf27 ac28 hf28 ac29 hf29 ac30 hf30 ac31 hf31 ac32 hf32 ac33 hf33 hS1
  refine then_normal ?_
  refine wp_ret ?_
  exact post4 rfl hf34 rfl rfl rfl rfl ⟨b1, b2, hb1, hb2, rfl, hI3⟩
end Go.Proofs.Ytohkdjaobdgenaa
