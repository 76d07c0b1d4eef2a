/-
  The methods of bands: what each call comes to.
-/
import Derived.Test.YtkfilmdnpocinaaTab
import Derived.Test.YtkfilmdnpocinaaState
namespace Go.Proofs.Ytkfilmdnpocinaa
set_option linter.unusedVariables false
set_option linter.unusedSimpArgs false
set_option maxRecDepth 100000
open Go.RowKit
theorem wrap_i64 {x : Int} (h1 : -9223372036854775808 ≤ x) (h2 : x ≤ 9223372036854775807) : IntKind.wrap .i64 x = x := IntWalk.i64_in x ⟨h1, h2⟩

set_option maxHeartbeats 8000000 in
theorem none_walk (w0 w1 w2 c0 c1 c2 n : Int) (hw : w0 ≠ 0) (b : Nat) (w : World) (h0_ : Has [(b, #[.int .i64 w0, .int .i64 w1, .int .i64 w2, .int .i64 c0, .int .i64 c1, .int .i64 c2, .int .i64 n], 58)] w) : Calls Try.prog 20 [.pointer (some ⟨b, 0, none⟩)].toArray w fun e w' => e = .returned (.bool false) ∧ Inv w [] w' := by
  have hI1 := Inv.startS h0_ (List.pairwise_singleton _ _)
  refine enter (n := 13) Try.func20 rfl rfl rfl ?_
  intro ac1 hf1
  refine code_seq ?_
  refine seq_start (l := [0]) rfl ?_
  refine seq_one (op_val (v := .bool false) hf1 rfl rfl rfl rfl rfl rfl (r_assign rfl) fun ac2 hf2 => ?_)
  refine seq_end ?_
  clear ac1 hf1
  refine then_normal ?_
  refine code_seq ?_
  refine seq_start (l := [0, 1, 2, 3, 4, 5, 6, 7, 8, 9, 10]) rfl ?_
  refine seq_one (op_val (v := .pointer (some ⟨b, 0, none⟩)) hf2 rfl rfl rfl rfl rfl rfl (r_move rfl) fun ac3 hf3 => ?_)
  refine seq_one (op_val (v := .bool false) hf3 rfl rfl rfl rfl rfl rfl (r_eqNil up_24 rfl rfl rfl) fun ac4 hf4 => ?_)
  refine seq_one (op_val (v := .bool false) hf4 rfl rfl rfl rfl rfl rfl (r_move rfl) fun ac5 hf5 => ?_)
  refine seq_one (op_val (v := .pointer (some ⟨b, 0, none⟩)) hf5 rfl rfl rfl rfl rfl rfl (r_move rfl) fun ac6 hf6 => ?_)
  refine seq_one (op_val (v := .pointer (some ⟨b, 0, none⟩)) hf6 rfl rfl rfl rfl rfl rfl (r_nilCheck rfl) fun ac7 hf7 => ?_)
  refine seq_one (op_val (v := .pointer (some ⟨b, 0, none⟩)) hf7 rfl rfl rfl rfl rfl rfl (r_fieldAddr fi_58_0 rfl rfl) fun ac8 hf8 => ?_)
  refine seq_one (op_val (v := .pointer (some ⟨b, 0, none⟩)) hf8 rfl rfl rfl rfl rfl rfl (r_indexAddr (i := 0) ar_22 rfl rfl rfl (by decide) rfl) fun ac9 hf9 => ?_)
  refine seq_one (op_val (v := .int .i64 w0) hf9 rfl rfl rfl rfl rfl rfl (r_load ag_3 rfl (hI1.at 0 rfl) rfl) fun ac10 hf10 => ?_)
  refine seq_one (op_val (v := .bool false) hf10 rfl rfl rfl rfl rfl rfl (r_eqlC rfl rfl (beq_eq_false_iff_ne.2 hw)) fun ac11 hf11 => ?_)
  refine seq_one (op_val (v := .bool false) hf11 rfl rfl rfl rfl rfl rfl (r_pickF rfl rfl) fun ac12 hf12 => ?_)
  refine seq_one (op_val (v := .bool false) hf12 rfl rfl rfl rfl rfl rfl (r_assign rfl) fun ac13 hf13 => ?_)
  refine seq_end ?_
  clear ac2 hf2 ac3 hf3 ac4 hf4 ac5 hf5 ac6 hf6 ac7 hf7 ac8 hf8 ac9 hf9 ac10 hf10 ac11 hf11 ac12 hf12
  refine then_normal ?_
  refine wp_ret ?_
  exact post1 rfl hf13 rfl ⟨rfl, (hI1).unread h0_⟩
set_option maxHeartbeats 8000000 in
theorem now_walk (w0 w1 w2 c0 c1 c2 n : Int) (hw : w0 ≠ 0) (b : Nat) (w : World) (h0_ : Has [(b, #[.int .i64 w0, .int .i64 w1, .int .i64 w2, .int .i64 c0, .int .i64 c1, .int .i64 c2, .int .i64 n], 58)] w) : Calls Try.prog 16 [.pointer (some ⟨b, 0, none⟩)].toArray w fun e w' => e = .returned (.int .i64 n) ∧ Inv w [] w' := by
  have hI1 := Inv.startS h0_ (List.pairwise_singleton _ _)
  refine enter (n := 9) Try.func16 rfl rfl rfl ?_
  intro ac1 hf1
  refine code_seq ?_
  refine seq_start (l := [0]) rfl ?_
  refine seq_one (op_val (v := .int .i64 0) hf1 rfl rfl rfl rfl rfl rfl (r_assign rfl) fun ac2 hf2 => ?_)
  refine seq_end ?_
  clear ac1 hf1
  refine then_normal ?_
  refine code_seq ?_
  refine code_seq ?_
  refine seq_start (l := [0, 1]) rfl ?_
  refine seq_one (op_val (v := .pointer (some ⟨b, 0, none⟩)) hf2 rfl rfl rfl rfl rfl rfl (r_move rfl) fun ac3 hf3 => ?_)
  refine seq_one (op_pureW hf3 rfl rfl rfl rfl ca_20 (none_walk w0 w1 w2 c0 c1 c2 n hw b _ (Has.cons (hI1.at 0 rfl) Has.nil)) hI1 fun ac4 wd1 hI2 hf4 => ?_)
  refine seq_end ?_
  clear ac2 hf2 ac3 hI1 hf3
  refine then_normal ?_
  refine code_if_false hf4 rfl ?_
  refine wp_skip ?_
  refine then_normal ?_
  refine code_seq ?_
  refine seq_start (l := [0, 1, 2, 3, 4]) rfl ?_
  refine seq_one (op_val (v := .pointer (some ⟨b, 0, none⟩)) hf4 rfl rfl rfl rfl rfl rfl (r_move rfl) fun ac5 hf5 => ?_)
  refine seq_one (op_val (v := .pointer (some ⟨b, 0, none⟩)) hf5 rfl rfl rfl rfl rfl rfl (r_nilCheck rfl) fun ac6 hf6 => ?_)
  refine seq_one (op_val (v := .pointer (some ⟨b, 6, none⟩)) hf6 rfl rfl rfl rfl rfl rfl (r_fieldAddr fi_58_2 rfl rfl) fun ac7 hf7 => ?_)
  refine seq_one (op_val (v := .int .i64 n) hf7 rfl rfl rfl rfl rfl rfl (r_load ag_3 rfl (hI2.at 0 rfl) rfl) fun ac8 hf8 => ?_)
  refine seq_one (op_val (v := .int .i64 n) hf8 rfl rfl rfl rfl rfl rfl (r_assign rfl) fun ac9 hf9 => ?_)
  refine seq_end ?_
  clear ac4 hf4 ac5 hf5 ac6 hf6 ac7 hf7 ac8 hf8
  refine then_normal ?_
  refine wp_ret ?_
  exact post1 rfl hf9 rfl ⟨rfl, (hI2).unread h0_⟩
set_option maxHeartbeats 8000000 in
theorem credits_walk (w0 w1 w2 c0 c1 c2 n : Int) (hw : w0 ≠ 0) (b : Nat) (w : World) (h0_ : Has [(b, #[.int .i64 w0, .int .i64 w1, .int .i64 w2, .int .i64 c0, .int .i64 c1, .int .i64 c2, .int .i64 n], 58)] w) : Calls Try.prog 17 [.pointer (some ⟨b, 0, none⟩)].toArray w fun e w' => e = .returned (.agg #[.int .i64 c0, .int .i64 c1, .int .i64 c2]) ∧ Inv w [] w' := by
  have hI1 := Inv.startS h0_ (List.pairwise_singleton _ _)
  refine enter (n := 10) Try.func17 rfl rfl rfl ?_
  intro ac1 hf1
  refine code_seq ?_
  refine seq_start (l := [0]) rfl ?_
  refine seq_one (op_alloc hf1 rfl rfl rfl ze_22 hI1 fun ac2 b1 wd1 hb1 hI2 hf2 => ?_)
  have hI3 : Inv w [(b, #[.int .i64 w0, .int .i64 w1, .int .i64 w2, .int .i64 c0, .int .i64 c1, .int .i64 c2, .int .i64 n], 58), (b1, #[.int .i64 0, .int .i64 0, .int .i64 0], 22)] wd1 := hI2
  refine seq_end ?_
  clear ac1 hI1 hf1 hI2
  refine then_normal ?_
  refine code_seq ?_
  refine code_seq ?_
  refine seq_start (l := [0, 1]) rfl ?_
  refine seq_one (op_val (v := .pointer (some ⟨b, 0, none⟩)) hf2 rfl rfl rfl rfl rfl rfl (r_move rfl) fun ac3 hf3 => ?_)
  refine seq_one (op_pureW hf3 rfl rfl rfl rfl ca_20 (none_walk w0 w1 w2 c0 c1 c2 n hw b _ (Has.cons (hI3.at 0 rfl) Has.nil)) hI3 fun ac4 wd2 hI4 hf4 => ?_)
  refine seq_end ?_
  clear ac2 hf2 ac3 wd1 hI3 hf3
  refine then_normal ?_
  refine code_if_false hf4 rfl ?_
  refine wp_skip ?_
  refine then_normal ?_
  refine code_seq ?_
  refine seq_start (l := [0, 1, 2, 3, 4]) rfl ?_
  refine seq_one (op_val (v := .pointer (some ⟨b, 0, none⟩)) hf4 rfl rfl rfl rfl rfl rfl (r_move rfl) fun ac5 hf5 => ?_)
  refine seq_one (op_val (v := .pointer (some ⟨b, 0, none⟩)) hf5 rfl rfl rfl rfl rfl rfl (r_nilCheck rfl) fun ac6 hf6 => ?_)
  refine seq_one (op_val (v := .pointer (some ⟨b, 3, none⟩)) hf6 rfl rfl rfl rfl rfl rfl (r_fieldAddr fi_58_1 rfl rfl) fun ac7 hf7 => ?_)
  refine seq_one (op_val (v := .agg #[.int .i64 c0, .int .i64 c1, .int .i64 c2]) hf7 rfl rfl rfl rfl rfl rfl (r_loadP (sz := 3) ag_22 sz_22 rfl (hI4.at 0 rfl) (leb rfl) (by kernel_rfl)) fun ac8 hf8 => ?_)
  refine seq_one (op_storeW (cells := #[.int .i64 c0, .int .i64 c1, .int .i64 c2]) 1 hf8 rfl rfl rfl rfl rfl sz_22 rfl rfl hI4 rfl rfl fun wd3 hI5 => ?_)
  have hI6 : Inv w [(b, #[.int .i64 w0, .int .i64 w1, .int .i64 w2, .int .i64 c0, .int .i64 c1, .int .i64 c2, .int .i64 n], 58), (b1, #[.int .i64 c0, .int .i64 c1, .int .i64 c2], 22)] wd3 := hI5
  refine seq_end ?_
  clear ac4 hf4 ac5 hf5 ac6 hf6 ac7 hf7 wd2 hI4 hI5
  refine then_normal ?_
  refine wp_ret ?_
  exact postC rfl hf8 rfl ag_22 sz_22 (hI6.at 1 rfl) rfl ⟨rfl, (Inv.drop (A := [(b, #[.int .i64 w0, .int .i64 w1, .int .i64 w2, .int .i64 c0, .int .i64 c1, .int .i64 c2, .int .i64 n], 58)]) (B := [(b1, #[.int .i64 c0, .int .i64 c1, .int .i64 c2], 22)]) hI6 (fresh_keys (ks := [b1]) rfl (fk_cons hb1 fk_nil))).unread h0_⟩
set_option maxHeartbeats 8000000 in
theorem spend_walk0 (w0 w1 w2 c0 c1 c2 m : Int) (hw : w0 ≠ 0) (hv : WOK w0 w1 w2) (hs : Ok w0 w1 w2 ⟨c0, c1, c2, 0⟩) (b : Nat) (w : World) (h0_ : Has [(b, #[.int .i64 w0, .int .i64 w1, .int .i64 w2, .int .i64 c0, .int .i64 c1, .int .i64 c2, .int .i64 0], 58)] w) : Calls Try.prog 14 [.pointer (some ⟨b, 0, none⟩), .int .i64 m].toArray w fun e w' => e = .returned (.int .i64 (spE m ⟨c0, c1, c2, 0⟩)) ∧ Inv w [(b, #[.int .i64 w0, .int .i64 w1, .int .i64 w2, .int .i64 (((spS m ⟨c0, c1, c2, 0⟩ : St)).c0), .int .i64 (((spS m ⟨c0, c1, c2, 0⟩ : St)).c1), .int .i64 (((spS m ⟨c0, c1, c2, 0⟩ : St)).c2), .int .i64 (((spS m ⟨c0, c1, c2, 0⟩ : St)).now)], 58)] w' := by
  have hI1 := Inv.startS h0_ (List.pairwise_singleton _ _)
  refine enter (n := 41) Try.func14 rfl rfl rfl ?_
  intro ac1 hf1
  refine code_seq ?_
  refine seq_start (l := [0]) rfl ?_
  refine seq_one (op_val (v := .int .i64 0) hf1 rfl rfl rfl rfl rfl rfl (r_assign rfl) fun ac2 hf2 => ?_)
  refine seq_end ?_
  clear ac1 hf1
  refine then_normal ?_
  refine code_seq ?_
  refine wp_block ?_
  refine code_seq ?_
  refine seq_start (l := [0, 1, 2]) rfl ?_
  refine seq_one (op_val (v := .pointer (some ⟨b, 0, none⟩)) hf2 rfl rfl rfl rfl rfl rfl (r_move rfl) fun ac3 hf3 => ?_)
  refine seq_one (op_pureW hf3 rfl rfl rfl rfl ca_20 (none_walk w0 w1 w2 c0 c1 c2 0 hw b _ (Has.cons (hI1.at 0 rfl) Has.nil)) hI1 fun ac4 wd1 hI2 hf4 => ?_)
  refine seq_one (op_val (v := .bool false) hf4 rfl rfl rfl rfl rfl rfl (r_assign rfl) fun ac5 hf5 => ?_)
  refine seq_end ?_
  clear ac2 hf2 ac3 hI1 hf3 ac4 hf4
  refine then_normal ?_
  refine code_if_false hf5 rfl ?_
  refine code_seq ?_
  refine any_start (fun w => Has [(b, #[.int .i64 w0, .int .i64 w1, .int .i64 w2, .int .i64 c0, .int .i64 c1, .int .i64 c2, .int .i64 0], 58)] w) follows (Has.drew (Has.cons (hI2.at 0 rfl) Has.nil)) ?_
  have hS1 : Has [(b, #[.int .i64 w0, .int .i64 w1, .int .i64 w2, .int .i64 c0, .int .i64 c1, .int .i64 c2, .int .i64 0], 58)] _ := Has.drew (Has.cons (hI2.at 0 rfl) Has.nil)
  have hI3 := hI2.drew
  refine any_val (i := 0) (v := .int .i64 m) hf5 rfl rfl rfl rfl rfl rfl (fun _ _ _ h => h) (by kernel_rfl) (by kernel_rfl) (by kernel_rfl) (fun wd1 hS1 => (r_move rfl)) hS1 fun ac6 hf6 => ?_
  refine any_val (i := 1) (v := .bool (decide (m < 1))) hf6 rfl rfl rfl rfl rfl rfl (fun _ _ _ h => h) (by kernel_rfl) (by kernel_rfl) (by kernel_rfl) (fun wd1 hS1 => (r_lss rfl rfl)) hS1 fun ac7 hf7 => ?_
  refine any_val (i := 2) (v := .bool (decide (m < 1))) hf7 rfl rfl rfl rfl rfl rfl (fun _ _ _ h => h) (by kernel_rfl) (by kernel_rfl) (by kernel_rfl) (fun wd1 hS1 => (r_move rfl)) hS1 fun ac8 hf8 => ?_
  rcases Bool.eq_false_or_eq_true (decide (m < 1) : Bool) with g11_1 | g11_1
  · have hf9 := hf8.know 11 (u := .bool true) rfl (congrArg Value.bool g11_1)
    refine any_skip (i := 3) hf9 rfl rfl rfl rfl (fun _ _ _ h => h) (by kernel_rfl) (by kernel_rfl) (by kernel_rfl) hS1 fun ac9 hf10 => ?_
    refine any_skip (i := 4) hf10 rfl rfl rfl rfl (fun _ _ _ h => h) (by kernel_rfl) (by kernel_rfl) (by kernel_rfl) hS1 fun ac10 hf11 => ?_
    refine any_val (i := 5) (v := .bool true) hf11 rfl rfl rfl rfl rfl rfl (fun _ _ _ h => h) (by kernel_rfl) (by kernel_rfl) (by kernel_rfl) (fun wd1 hS1 => (r_pickT rfl rfl)) hS1 fun ac11 hf12 => ?_
    refine any_val (i := 6) (v := .bool true) hf12 rfl rfl rfl rfl rfl rfl (fun _ _ _ h => h) (by kernel_rfl) (by kernel_rfl) (by kernel_rfl) (fun wd1 hS1 => (r_move rfl)) hS1 fun ac12 hf13 => ?_
    refine any_skip (i := 7) hf13 rfl rfl rfl rfl (fun _ _ _ h => h) (by kernel_rfl) (by kernel_rfl) (by kernel_rfl) hS1 fun ac13 hf14 => ?_
    refine any_skip (i := 8) hf14 rfl rfl rfl rfl (fun _ _ _ h => h) (by kernel_rfl) (by kernel_rfl) (by kernel_rfl) hS1 fun ac14 hf15 => ?_
    refine any_skip (i := 9) hf15 rfl rfl rfl rfl (fun _ _ _ h => h) (by kernel_rfl) (by kernel_rfl) (by kernel_rfl) hS1 fun ac15 hf16 => ?_
    refine any_skip (i := 10) hf16 rfl rfl rfl rfl (fun _ _ _ h => h) (by kernel_rfl) (by kernel_rfl) (by kernel_rfl) hS1 fun ac16 hf17 => ?_
    refine any_skip (i := 11) hf17 rfl rfl rfl rfl (fun _ _ _ h => h) (by kernel_rfl) (by kernel_rfl) (by kernel_rfl) hS1 fun ac17 hf18 => ?_
    refine any_skip (i := 12) hf18 rfl rfl rfl rfl (fun _ _ _ h => h) (by kernel_rfl) (by kernel_rfl) (by kernel_rfl) hS1 fun ac18 hf19 => ?_
    refine any_skip (i := 13) hf19 rfl rfl rfl rfl (fun _ _ _ h => h) (by kernel_rfl) (by kernel_rfl) (by kernel_rfl) hS1 fun ac19 hf20 => ?_
    refine any_skip (i := 14) hf20 rfl rfl rfl rfl (fun _ _ _ h => h) (by kernel_rfl) (by kernel_rfl) (by kernel_rfl) hS1 fun ac20 hf21 => ?_
    refine any_skip (i := 15) hf21 rfl rfl rfl rfl (fun _ _ _ h => h) (by kernel_rfl) (by kernel_rfl) (by kernel_rfl) hS1 fun ac21 hf22 => ?_
    refine any_skip (i := 16) hf22 rfl rfl rfl rfl (fun _ _ _ h => h) (by kernel_rfl) (by kernel_rfl) (by kernel_rfl) hS1 fun ac22 hf23 => ?_
    refine any_val (i := 17) (v := .bool true) hf23 rfl rfl rfl rfl rfl rfl (fun _ _ _ h => h) (by kernel_rfl) (by kernel_rfl) (by kernel_rfl) (fun wd1 hS1 => (r_pickT rfl rfl)) hS1 fun ac23 hf24 => ?_
    refine any_val (i := 18) (v := .bool true) hf24 rfl rfl rfl rfl rfl rfl (fun _ _ _ h => h) (by kernel_rfl) (by kernel_rfl) (by kernel_rfl) (fun wd1 hS1 => (r_assign rfl)) hS1 fun ac24 hf25 => ?_
    refine any_end (by kernel_rfl) ?_
    clear hI2 ac5 hf5 ac6 hf6 ac7 hf7 hf8 ac8 hf9 ac9 hf10 ac10 hf11 ac11 hf12 ac12 hf13 ac13 hf14 ac14 hf15 ac15 hf16 ac16 hf17 ac17 hf18 ac18 hf19 ac19 hf20 ac20 hf21 ac21 hf22 ac22 hf23 ac23 hf24 hS1
    refine then_normal ?_
    refine code_if_true hf25 rfl ?_
    refine code_seq ?_
    refine seq_start (l := [0]) rfl ?_
    refine seq_one (op_val (v := .int .i64 2) hf25 rfl rfl rfl rfl rfl rfl (r_assign rfl) fun ac25 hf26 => ?_)
    refine seq_end ?_
    clear ac24 hf25
    refine then_normal ?_
    refine wp_ret ?_
    refine block_ret ?_
    refine then_ret ?_
    refine post1 rfl hf26 rfl ?_
    have hI4 : Inv w [(b, #[.int .i64 w0, .int .i64 w1, .int .i64 w2, .int .i64 c0, .int .i64 c1, .int .i64 c2, .int .i64 0], 58)] _ := hI3
    have hb : (m < 1 ∨ m > 65536 ∨ (⟨c0, c1, c2, 0⟩ : St).cr ≤ 0) := by
      simp only [St.cr, if_true, if_false, show ((1 : Int) = 0) = False by simp, show ((2 : Int) = 0) = False by simp, show ((2 : Int) = 1) = False by simp]
      simp only [decide_eq_true_eq, decide_eq_false_iff_not] at g11_1
      omega
    unfold spE spS
    rw [if_pos hb, if_pos hb]
    exact ⟨rfl, hI4⟩
  · have hf27 := hf8.know 11 (u := .bool false) rfl (congrArg Value.bool g11_1)
    refine any_val (i := 3) (v := .int .i64 m) hf27 rfl rfl rfl rfl rfl rfl (fun _ _ _ h => h) (by kernel_rfl) (by kernel_rfl) (by kernel_rfl) (fun wd1 hS1 => (r_move rfl)) hS1 fun ac26 hf28 => ?_
    refine any_val (i := 4) (v := .bool (decide (m > 65536))) hf28 rfl rfl rfl rfl rfl rfl (fun _ _ _ h => h) (by kernel_rfl) (by kernel_rfl) (by kernel_rfl) (fun wd1 hS1 => (r_gtr rfl rfl)) hS1 fun ac27 hf29 => ?_
    refine any_val (i := 5) (v := .bool (decide (m > 65536))) hf29 rfl rfl rfl rfl rfl rfl (fun _ _ _ h => h) (by kernel_rfl) (by kernel_rfl) (by kernel_rfl) (fun wd1 hS1 => (r_pickF rfl rfl)) hS1 fun ac28 hf30 => ?_
    refine any_val (i := 6) (v := .bool (decide (m > 65536))) hf30 rfl rfl rfl rfl rfl rfl (fun _ _ _ h => h) (by kernel_rfl) (by kernel_rfl) (by kernel_rfl) (fun wd1 hS1 => (r_move rfl)) hS1 fun ac29 hf31 => ?_
    rcases Bool.eq_false_or_eq_true (decide (m > 65536) : Bool) with g15_2 | g15_2
    · have hf32 := hf31.know 15 (u := .bool true) rfl (congrArg Value.bool g15_2)
      refine any_skip (i := 7) hf32 rfl rfl rfl rfl (fun _ _ _ h => h) (by kernel_rfl) (by kernel_rfl) (by kernel_rfl) hS1 fun ac30 hf33 => ?_
      refine any_skip (i := 8) hf33 rfl rfl rfl rfl (fun _ _ _ h => h) (by kernel_rfl) (by kernel_rfl) (by kernel_rfl) hS1 fun ac31 hf34 => ?_
      refine any_skip (i := 9) hf34 rfl rfl rfl rfl (fun _ _ _ h => h) (by kernel_rfl) (by kernel_rfl) (by kernel_rfl) hS1 fun ac32 hf35 => ?_
      refine any_skip (i := 10) hf35 rfl rfl rfl rfl (fun _ _ _ h => h) (by kernel_rfl) (by kernel_rfl) (by kernel_rfl) hS1 fun ac33 hf36 => ?_
      refine any_skip (i := 11) hf36 rfl rfl rfl rfl (fun _ _ _ h => h) (by kernel_rfl) (by kernel_rfl) (by kernel_rfl) hS1 fun ac34 hf37 => ?_
      refine any_skip (i := 12) hf37 rfl rfl rfl rfl (fun _ _ _ h => h) (by kernel_rfl) (by kernel_rfl) (by kernel_rfl) hS1 fun ac35 hf38 => ?_
      refine any_skip (i := 13) hf38 rfl rfl rfl rfl (fun _ _ _ h => h) (by kernel_rfl) (by kernel_rfl) (by kernel_rfl) hS1 fun ac36 hf39 => ?_
      refine any_skip (i := 14) hf39 rfl rfl rfl rfl (fun _ _ _ h => h) (by kernel_rfl) (by kernel_rfl) (by kernel_rfl) hS1 fun ac37 hf40 => ?_
      refine any_skip (i := 15) hf40 rfl rfl rfl rfl (fun _ _ _ h => h) (by kernel_rfl) (by kernel_rfl) (by kernel_rfl) hS1 fun ac38 hf41 => ?_
      refine any_skip (i := 16) hf41 rfl rfl rfl rfl (fun _ _ _ h => h) (by kernel_rfl) (by kernel_rfl) (by kernel_rfl) hS1 fun ac39 hf42 => ?_
      refine any_val (i := 17) (v := .bool true) hf42 rfl rfl rfl rfl rfl rfl (fun _ _ _ h => h) (by kernel_rfl) (by kernel_rfl) (by kernel_rfl) (fun wd1 hS1 => (r_pickT rfl rfl)) hS1 fun ac40 hf43 => ?_
      refine any_val (i := 18) (v := .bool true) hf43 rfl rfl rfl rfl rfl rfl (fun _ _ _ h => h) (by kernel_rfl) (by kernel_rfl) (by kernel_rfl) (fun wd1 hS1 => (r_assign rfl)) hS1 fun ac41 hf44 => ?_
      refine any_end (by kernel_rfl) ?_
      clear hI2 ac5 hf5 ac6 hf6 ac7 hf7 hf8 ac8 hf27 ac26 hf28 ac27 hf29 ac28 hf30 hf31 ac29 hf32 ac30 hf33 ac31 hf34 ac32 hf35 ac33 hf36 ac34 hf37 ac35 hf38 ac36 hf39 ac37 hf40 ac38 hf41 ac39 hf42 ac40 hf43 hS1
      refine then_normal ?_
      refine code_if_true hf44 rfl ?_
      refine code_seq ?_
      refine seq_start (l := [0]) rfl ?_
      refine seq_one (op_val (v := .int .i64 2) hf44 rfl rfl rfl rfl rfl rfl (r_assign rfl) fun ac42 hf45 => ?_)
      refine seq_end ?_
      clear ac41 hf44
      refine then_normal ?_
      refine wp_ret ?_
      refine block_ret ?_
      refine then_ret ?_
      refine post1 rfl hf45 rfl ?_
      have hI5 : Inv w [(b, #[.int .i64 w0, .int .i64 w1, .int .i64 w2, .int .i64 c0, .int .i64 c1, .int .i64 c2, .int .i64 0], 58)] _ := hI3
      have hb : (m < 1 ∨ m > 65536 ∨ (⟨c0, c1, c2, 0⟩ : St).cr ≤ 0) := by
        simp only [St.cr, if_true, if_false, show ((1 : Int) = 0) = False by simp, show ((2 : Int) = 0) = False by simp, show ((2 : Int) = 1) = False by simp]
        simp only [decide_eq_true_eq, decide_eq_false_iff_not] at g11_1 g15_2
        omega
      unfold spE spS
      rw [if_pos hb, if_pos hb]
      exact ⟨rfl, hI5⟩
    · have hf46 := hf31.know 15 (u := .bool false) rfl (congrArg Value.bool g15_2)
      refine any_val (i := 7) (v := .pointer (some ⟨b, 0, none⟩)) hf46 rfl rfl rfl rfl rfl rfl (fun _ _ _ h => h) (by kernel_rfl) (by kernel_rfl) (by kernel_rfl) (fun wd1 hS1 => (r_move rfl)) hS1 fun ac43 hf47 => ?_
      refine any_val (i := 8) (v := .pointer (some ⟨b, 0, none⟩)) hf47 rfl rfl rfl rfl rfl rfl (fun _ _ _ h => h) (by kernel_rfl) (by kernel_rfl) (by kernel_rfl) (fun wd1 hS1 => (r_move rfl)) hS1 fun ac44 hf48 => ?_
      refine any_val (i := 9) (v := .pointer (some ⟨b, 0, none⟩)) hf48 rfl rfl rfl rfl rfl rfl (fun _ _ _ h => h) (by kernel_rfl) (by kernel_rfl) (by kernel_rfl) (fun wd1 hS1 => (r_nilCheck rfl)) hS1 fun ac45 hf49 => ?_
      refine any_val (i := 10) (v := .pointer (some ⟨b, 6, none⟩)) hf49 rfl rfl rfl rfl rfl rfl (fun _ _ _ h => h) (by kernel_rfl) (by kernel_rfl) (by kernel_rfl) (fun wd1 hS1 => (r_fieldAddr fi_58_2 rfl rfl)) hS1 fun ac46 hf50 => ?_
      refine any_val (i := 11) (v := .int .i64 0) hf50 rfl rfl rfl rfl rfl rfl (fun _ _ _ h => h) (by kernel_rfl) (by kernel_rfl) (by kernel_rfl) (fun wd1 hS1 => (r_load ag_3 rfl (hS1.at 0 rfl) rfl)) hS1 fun ac47 hf51 => ?_
      refine any_val (i := 12) (v := .pointer (some ⟨b, 0, none⟩)) hf51 rfl rfl rfl rfl rfl rfl (fun _ _ _ h => h) (by kernel_rfl) (by kernel_rfl) (by kernel_rfl) (fun wd1 hS1 => (r_nilCheck rfl)) hS1 fun ac48 hf52 => ?_
      refine any_val (i := 13) (v := .pointer (some ⟨b, 3, none⟩)) hf52 rfl rfl rfl rfl rfl rfl (fun _ _ _ h => h) (by kernel_rfl) (by kernel_rfl) (by kernel_rfl) (fun wd1 hS1 => (r_fieldAddr fi_58_1 rfl rfl)) hS1 fun ac49 hf53 => ?_
      refine any_val (i := 14) (v := .pointer (some ⟨b, 3, none⟩)) hf53 rfl rfl rfl rfl rfl rfl (fun _ _ _ h => h) (by kernel_rfl) (by kernel_rfl) (by kernel_rfl) (fun wd1 hS1 => (r_indexAddr (i := 0) ar_22 rfl rfl rfl (by decide) rfl)) hS1 fun ac50 hf54 => ?_
      refine any_val (i := 15) (v := .int .i64 c0) hf54 rfl rfl rfl rfl rfl rfl (fun _ _ _ h => h) (by kernel_rfl) (by kernel_rfl) (by kernel_rfl) (fun wd1 hS1 => (r_load ag_3 rfl (hS1.at 0 rfl) rfl)) hS1 fun ac51 hf55 => ?_
      refine any_val (i := 16) (v := .bool (decide (c0 ≤ 0))) hf55 rfl rfl rfl rfl rfl rfl (fun _ _ _ h => h) (by kernel_rfl) (by kernel_rfl) (by kernel_rfl) (fun wd1 hS1 => (r_leq rfl rfl)) hS1 fun ac52 hf56 => ?_
      refine any_val (i := 17) (v := .bool (decide (c0 ≤ 0))) hf56 rfl rfl rfl rfl rfl rfl (fun _ _ _ h => h) (by kernel_rfl) (by kernel_rfl) (by kernel_rfl) (fun wd1 hS1 => (r_pickF rfl rfl)) hS1 fun ac53 hf57 => ?_
      refine any_val (i := 18) (v := .bool (decide (c0 ≤ 0))) hf57 rfl rfl rfl rfl rfl rfl (fun _ _ _ h => h) (by kernel_rfl) (by kernel_rfl) (by kernel_rfl) (fun wd1 hS1 => (r_assign rfl)) hS1 fun ac54 hf58 => ?_
      refine any_end (by kernel_rfl) ?_
      clear hI2 ac5 hf5 ac6 hf6 ac7 hf7 hf8 ac8 hf27 ac26 hf28 ac27 hf29 ac28 hf30 hf31 ac29 hf46 ac43 hf47 ac44 hf48 ac45 hf49 ac46 hf50 ac47 hf51 ac48 hf52 ac49 hf53 ac50 hf54 ac51 hf55 ac52 hf56 ac53 hf57 hS1
      refine then_normal ?_
      refine code_if hf58 rfl (fun c8_3 => ?_) (fun c8_3 => ?_)
      · have hf59 := hf58.know 8 (u := .bool true) rfl (congrArg Value.bool c8_3)
        refine code_seq ?_
        refine seq_start (l := [0]) rfl ?_
        refine seq_one (op_val (v := .int .i64 2) hf59 rfl rfl rfl rfl rfl rfl (r_assign rfl) fun ac55 hf60 => ?_)
        refine seq_end ?_
        clear hf58 ac54 hf59
        refine then_normal ?_
        refine wp_ret ?_
        refine block_ret ?_
        refine then_ret ?_
        refine post1 rfl hf60 rfl ?_
        have hI6 : Inv w [(b, #[.int .i64 w0, .int .i64 w1, .int .i64 w2, .int .i64 c0, .int .i64 c1, .int .i64 c2, .int .i64 0], 58)] _ := hI3
        have hb : (m < 1 ∨ m > 65536 ∨ (⟨c0, c1, c2, 0⟩ : St).cr ≤ 0) := by
          simp only [St.cr, if_true, if_false, show ((1 : Int) = 0) = False by simp, show ((2 : Int) = 0) = False by simp, show ((2 : Int) = 1) = False by simp]
          simp only [decide_eq_true_eq, decide_eq_false_iff_not] at g11_1 g15_2 c8_3
          omega
        unfold spE spS
        rw [if_pos hb, if_pos hb]
        exact ⟨rfl, hI6⟩
      · have hf61 := hf58.know 8 (u := .bool false) rfl (congrArg Value.bool c8_3)
        refine wp_skip ?_
        refine block_normal ?_
        refine then_normal ?_
        refine code_seq ?_
        refine any_start (fun w => Has [] w) follows (Has.drew Has.nil) ?_
        have hS2 : ∀ {w : World}, Has [] w := Has.nil
        have hI7 := hI3.drew
        refine any_val (i := 0) (v := .pointer (some ⟨b, 0, none⟩)) hf61 rfl rfl rfl rfl rfl rfl (fun _ _ _ h => h) (by kernel_rfl) (by kernel_rfl) (by kernel_rfl) (fun wd1 hS2 => (r_move rfl)) hS2 fun ac56 hf62 => ?_
        refine any_val (i := 1) (v := .pointer (some ⟨b, 0, none⟩)) hf62 rfl rfl rfl rfl rfl rfl (fun _ _ _ h => h) (by kernel_rfl) (by kernel_rfl) (by kernel_rfl) (fun wd1 hS2 => (r_move rfl)) hS2 fun ac57 hf63 => ?_
        refine any_val (i := 2) (v := .pointer (some ⟨b, 0, none⟩)) hf63 rfl rfl rfl rfl rfl rfl (fun _ _ _ h => h) (by kernel_rfl) (by kernel_rfl) (by kernel_rfl) (fun wd1 hS2 => (r_nilCheck rfl)) hS2 fun ac58 hf64 => ?_
        refine any_val (i := 3) (v := .pointer (some ⟨b, 6, none⟩)) hf64 rfl rfl rfl rfl rfl rfl (fun _ _ _ h => h) (by kernel_rfl) (by kernel_rfl) (by kernel_rfl) (fun wd1 hS2 => (r_fieldAddr fi_58_2 rfl rfl)) hS2 fun ac59 hf65 => ?_
        refine any_val (i := 5) (v := .pointer (some ⟨b, 0, none⟩)) hf65 rfl rfl rfl rfl rfl rfl (fun _ _ _ h => h) (by kernel_rfl) (by kernel_rfl) (by kernel_rfl) (fun wd1 hS2 => (r_nilCheck rfl)) hS2 fun ac60 hf66 => ?_
        refine any_val (i := 6) (v := .pointer (some ⟨b, 3, none⟩)) hf66 rfl rfl rfl rfl rfl rfl (fun _ _ _ h => h) (by kernel_rfl) (by kernel_rfl) (by kernel_rfl) (fun wd1 hS2 => (r_fieldAddr fi_58_1 rfl rfl)) hS2 fun ac61 hf67 => ?_
        refine any_val (i := 9) (v := .int .i64 m) hf67 rfl rfl rfl rfl rfl rfl (fun _ _ _ h => h) (by kernel_rfl) (by kernel_rfl) (by kernel_rfl) (fun wd1 hS2 => (r_move rfl)) hS2 fun ac62 hf68 => ?_
        refine any_val (i := 11) (v := .pointer (some ⟨b, 0, none⟩)) hf68 rfl rfl rfl rfl rfl rfl (fun _ _ _ h => h) (by kernel_rfl) (by kernel_rfl) (by kernel_rfl) (fun wd1 hS2 => (r_nilCheck rfl)) hS2 fun ac63 hf69 => ?_
        refine any_val (i := 12) (v := .pointer (some ⟨b, 3, none⟩)) hf69 rfl rfl rfl rfl rfl rfl (fun _ _ _ h => h) (by kernel_rfl) (by kernel_rfl) (by kernel_rfl) (fun wd1 hS2 => (r_fieldAddr fi_58_1 rfl rfl)) hS2 fun ac64 hf70 => ?_
        refine any_one (i := 4) (by kernel_rfl) ?_
        refine op_val (v := .int .i64 0) hf70 rfl rfl rfl rfl rfl rfl (r_load ag_3 rfl (hI7.at 0 rfl) rfl) fun ac65 hf71 => ⟨?_, ?_⟩
        · exact Has.nil
        have hS3 : ∀ {w : World}, Has [] w := Has.nil
        refine any_val (i := 7) (v := .pointer (some ⟨b, 3, none⟩)) hf71 rfl rfl rfl rfl rfl rfl (fun _ _ _ h => h) (by kernel_rfl) (by kernel_rfl) (by kernel_rfl) (fun wd1 hS3 => (r_indexAddr (i := 0) ar_22 rfl rfl rfl (by decide) rfl)) hS3 fun ac66 hf72 => ?_
        refine any_one (i := 8) (by kernel_rfl) ?_
        refine op_val (v := .int .i64 c0) hf72 rfl rfl rfl rfl rfl rfl (r_load ag_3 rfl (hI7.at 0 rfl) rfl) fun ac67 hf73 => ⟨?_, ?_⟩
        · exact Has.nil
        have hS4 : ∀ {w : World}, Has [] w := Has.nil
        refine any_val (i := 10) (v := .int .i64 (c0 - m)) hf73 rfl rfl rfl rfl rfl rfl (fun _ _ _ h => h) (by kernel_rfl) (by kernel_rfl) (by kernel_rfl) (fun wd1 hS4 => (r_sub (c := (c0 - m)) rfl rfl (by have h1 := hs.l0; have h2 := hs.r0; have h3 := hv.r0; dsimp only at h1 h2; simp only [decide_eq_true_eq, decide_eq_false_iff_not] at g11_1 g15_2 c8_3; exact wrap_i64 (by omega) (by omega)))) hS4 fun ac68 hf74 => ?_
        refine any_val (i := 13) (v := .pointer (some ⟨b, 3, none⟩)) hf74 rfl rfl rfl rfl rfl rfl (fun _ _ _ h => h) (by kernel_rfl) (by kernel_rfl) (by kernel_rfl) (fun wd1 hS4 => (r_indexAddr (i := 0) ar_22 rfl rfl rfl (by decide) rfl)) hS4 fun ac69 hf75 => ?_
        refine any_one (i := 14) (by kernel_rfl) ?_
        refine (op_store (cs' := #[.int .i64 w0, .int .i64 w1, .int .i64 w2, .int .i64 (c0 - m), .int .i64 c1, .int .i64 c2, .int .i64 0]) 0 hf75 rfl rfl rfl rfl rfl sz_3 hI7 rfl (ltb rfl) (by kernel_rfl) fun wd2 hI8 => ⟨?_, ?_⟩)
        · exact Has.nil
        have hI9 : Inv w [(b, #[.int .i64 w0, .int .i64 w1, .int .i64 w2, .int .i64 (c0 - m), .int .i64 c1, .int .i64 c2, .int .i64 0], 58)] wd2 := hI8
        have hS5 : ∀ {w : World}, Has [] w := Has.nil
        refine any_end (by kernel_rfl) ?_
        clear hf58 hI3 ac54 hf61 ac56 hf62 ac57 hf63 ac58 hf64 ac59 hf65 ac60 hf66 ac61 hf67 ac62 hf68 ac63 hf69 ac64 hf70 hS2 ac65 hf71 ac66 hf72 hS3 ac67 hf73 ac68 hf74 wd1 hI7 hI8 hS4 hS5
        refine then_normal ?_
        refine code_seq ?_
        refine seq_start (l := [0]) rfl ?_
        refine seq_one (op_val (v := .int .i64 0) hf75 rfl rfl rfl rfl rfl rfl (r_assign rfl) fun ac70 hf76 => ?_)
        refine seq_end ?_
        clear ac69 hf75
        refine then_normal ?_
        refine wp_ret ?_
        refine post1 rfl hf76 rfl ?_
        have hI10 : Inv w [(b, #[.int .i64 w0, .int .i64 w1, .int .i64 w2, .int .i64 (c0 - m), .int .i64 c1, .int .i64 c2, .int .i64 0], 58)] _ := hI9
        have hb : ¬ (m < 1 ∨ m > 65536 ∨ (⟨c0, c1, c2, 0⟩ : St).cr ≤ 0) := by
          simp only [St.cr, if_true, if_false, show ((1 : Int) = 0) = False by simp, show ((2 : Int) = 0) = False by simp, show ((2 : Int) = 1) = False by simp]
          simp only [decide_eq_true_eq, decide_eq_false_iff_not] at g11_1 g15_2 c8_3
          omega
        unfold spE spS
        rw [if_neg hb, if_neg hb]
        exact ⟨rfl, hI10⟩
set_option maxHeartbeats 8000000 in
theorem spend_walk1 (w0 w1 w2 c0 c1 c2 m : Int) (hw : w0 ≠ 0) (hv : WOK w0 w1 w2) (hs : Ok w0 w1 w2 ⟨c0, c1, c2, 1⟩) (b : Nat) (w : World) (h0_ : Has [(b, #[.int .i64 w0, .int .i64 w1, .int .i64 w2, .int .i64 c0, .int .i64 c1, .int .i64 c2, .int .i64 1], 58)] w) : Calls Try.prog 14 [.pointer (some ⟨b, 0, none⟩), .int .i64 m].toArray w fun e w' => e = .returned (.int .i64 (spE m ⟨c0, c1, c2, 1⟩)) ∧ Inv w [(b, #[.int .i64 w0, .int .i64 w1, .int .i64 w2, .int .i64 (((spS m ⟨c0, c1, c2, 1⟩ : St)).c0), .int .i64 (((spS m ⟨c0, c1, c2, 1⟩ : St)).c1), .int .i64 (((spS m ⟨c0, c1, c2, 1⟩ : St)).c2), .int .i64 (((spS m ⟨c0, c1, c2, 1⟩ : St)).now)], 58)] w' := by
  have hI1 := Inv.startS h0_ (List.pairwise_singleton _ _)
  refine enter (n := 41) Try.func14 rfl rfl rfl ?_
  intro ac1 hf1
  refine code_seq ?_
  refine seq_start (l := [0]) rfl ?_
  refine seq_one (op_val (v := .int .i64 0) hf1 rfl rfl rfl rfl rfl rfl (r_assign rfl) fun ac2 hf2 => ?_)
  refine seq_end ?_
  clear ac1 hf1
  refine then_normal ?_
  refine code_seq ?_
  refine wp_block ?_
  refine code_seq ?_
  refine seq_start (l := [0, 1, 2]) rfl ?_
  refine seq_one (op_val (v := .pointer (some ⟨b, 0, none⟩)) hf2 rfl rfl rfl rfl rfl rfl (r_move rfl) fun ac3 hf3 => ?_)
  refine seq_one (op_pureW hf3 rfl rfl rfl rfl ca_20 (none_walk w0 w1 w2 c0 c1 c2 1 hw b _ (Has.cons (hI1.at 0 rfl) Has.nil)) hI1 fun ac4 wd1 hI2 hf4 => ?_)
  refine seq_one (op_val (v := .bool false) hf4 rfl rfl rfl rfl rfl rfl (r_assign rfl) fun ac5 hf5 => ?_)
  refine seq_end ?_
  clear ac2 hf2 ac3 hI1 hf3 ac4 hf4
  refine then_normal ?_
  refine code_if_false hf5 rfl ?_
  refine code_seq ?_
  refine any_start (fun w => Has [(b, #[.int .i64 w0, .int .i64 w1, .int .i64 w2, .int .i64 c0, .int .i64 c1, .int .i64 c2, .int .i64 1], 58)] w) follows (Has.drew (Has.cons (hI2.at 0 rfl) Has.nil)) ?_
  have hS1 : Has [(b, #[.int .i64 w0, .int .i64 w1, .int .i64 w2, .int .i64 c0, .int .i64 c1, .int .i64 c2, .int .i64 1], 58)] _ := Has.drew (Has.cons (hI2.at 0 rfl) Has.nil)
  have hI3 := hI2.drew
  refine any_val (i := 0) (v := .int .i64 m) hf5 rfl rfl rfl rfl rfl rfl (fun _ _ _ h => h) (by kernel_rfl) (by kernel_rfl) (by kernel_rfl) (fun wd1 hS1 => (r_move rfl)) hS1 fun ac6 hf6 => ?_
  refine any_val (i := 1) (v := .bool (decide (m < 1))) hf6 rfl rfl rfl rfl rfl rfl (fun _ _ _ h => h) (by kernel_rfl) (by kernel_rfl) (by kernel_rfl) (fun wd1 hS1 => (r_lss rfl rfl)) hS1 fun ac7 hf7 => ?_
  refine any_val (i := 2) (v := .bool (decide (m < 1))) hf7 rfl rfl rfl rfl rfl rfl (fun _ _ _ h => h) (by kernel_rfl) (by kernel_rfl) (by kernel_rfl) (fun wd1 hS1 => (r_move rfl)) hS1 fun ac8 hf8 => ?_
  rcases Bool.eq_false_or_eq_true (decide (m < 1) : Bool) with g11_1 | g11_1
  · have hf9 := hf8.know 11 (u := .bool true) rfl (congrArg Value.bool g11_1)
    refine any_skip (i := 3) hf9 rfl rfl rfl rfl (fun _ _ _ h => h) (by kernel_rfl) (by kernel_rfl) (by kernel_rfl) hS1 fun ac9 hf10 => ?_
    refine any_skip (i := 4) hf10 rfl rfl rfl rfl (fun _ _ _ h => h) (by kernel_rfl) (by kernel_rfl) (by kernel_rfl) hS1 fun ac10 hf11 => ?_
    refine any_val (i := 5) (v := .bool true) hf11 rfl rfl rfl rfl rfl rfl (fun _ _ _ h => h) (by kernel_rfl) (by kernel_rfl) (by kernel_rfl) (fun wd1 hS1 => (r_pickT rfl rfl)) hS1 fun ac11 hf12 => ?_
    refine any_val (i := 6) (v := .bool true) hf12 rfl rfl rfl rfl rfl rfl (fun _ _ _ h => h) (by kernel_rfl) (by kernel_rfl) (by kernel_rfl) (fun wd1 hS1 => (r_move rfl)) hS1 fun ac12 hf13 => ?_
    refine any_skip (i := 7) hf13 rfl rfl rfl rfl (fun _ _ _ h => h) (by kernel_rfl) (by kernel_rfl) (by kernel_rfl) hS1 fun ac13 hf14 => ?_
    refine any_skip (i := 8) hf14 rfl rfl rfl rfl (fun _ _ _ h => h) (by kernel_rfl) (by kernel_rfl) (by kernel_rfl) hS1 fun ac14 hf15 => ?_
    refine any_skip (i := 9) hf15 rfl rfl rfl rfl (fun _ _ _ h => h) (by kernel_rfl) (by kernel_rfl) (by kernel_rfl) hS1 fun ac15 hf16 => ?_
    refine any_skip (i := 10) hf16 rfl rfl rfl rfl (fun _ _ _ h => h) (by kernel_rfl) (by kernel_rfl) (by kernel_rfl) hS1 fun ac16 hf17 => ?_
    refine any_skip (i := 11) hf17 rfl rfl rfl rfl (fun _ _ _ h => h) (by kernel_rfl) (by kernel_rfl) (by kernel_rfl) hS1 fun ac17 hf18 => ?_
    refine any_skip (i := 12) hf18 rfl rfl rfl rfl (fun _ _ _ h => h) (by kernel_rfl) (by kernel_rfl) (by kernel_rfl) hS1 fun ac18 hf19 => ?_
    refine any_skip (i := 13) hf19 rfl rfl rfl rfl (fun _ _ _ h => h) (by kernel_rfl) (by kernel_rfl) (by kernel_rfl) hS1 fun ac19 hf20 => ?_
    refine any_skip (i := 14) hf20 rfl rfl rfl rfl (fun _ _ _ h => h) (by kernel_rfl) (by kernel_rfl) (by kernel_rfl) hS1 fun ac20 hf21 => ?_
    refine any_skip (i := 15) hf21 rfl rfl rfl rfl (fun _ _ _ h => h) (by kernel_rfl) (by kernel_rfl) (by kernel_rfl) hS1 fun ac21 hf22 => ?_
    refine any_skip (i := 16) hf22 rfl rfl rfl rfl (fun _ _ _ h => h) (by kernel_rfl) (by kernel_rfl) (by kernel_rfl) hS1 fun ac22 hf23 => ?_
    refine any_val (i := 17) (v := .bool true) hf23 rfl rfl rfl rfl rfl rfl (fun _ _ _ h => h) (by kernel_rfl) (by kernel_rfl) (by kernel_rfl) (fun wd1 hS1 => (r_pickT rfl rfl)) hS1 fun ac23 hf24 => ?_
    refine any_val (i := 18) (v := .bool true) hf24 rfl rfl rfl rfl rfl rfl (fun _ _ _ h => h) (by kernel_rfl) (by kernel_rfl) (by kernel_rfl) (fun wd1 hS1 => (r_assign rfl)) hS1 fun ac24 hf25 => ?_
    refine any_end (by kernel_rfl) ?_
    clear hI2 ac5 hf5 ac6 hf6 ac7 hf7 hf8 ac8 hf9 ac9 hf10 ac10 hf11 ac11 hf12 ac12 hf13 ac13 hf14 ac14 hf15 ac15 hf16 ac16 hf17 ac17 hf18 ac18 hf19 ac19 hf20 ac20 hf21 ac21 hf22 ac22 hf23 ac23 hf24 hS1
    refine then_normal ?_
    refine code_if_true hf25 rfl ?_
    refine code_seq ?_
    refine seq_start (l := [0]) rfl ?_
    refine seq_one (op_val (v := .int .i64 2) hf25 rfl rfl rfl rfl rfl rfl (r_assign rfl) fun ac25 hf26 => ?_)
    refine seq_end ?_
    clear ac24 hf25
    refine then_normal ?_
    refine wp_ret ?_
    refine block_ret ?_
    refine then_ret ?_
    refine post1 rfl hf26 rfl ?_
    have hI4 : Inv w [(b, #[.int .i64 w0, .int .i64 w1, .int .i64 w2, .int .i64 c0, .int .i64 c1, .int .i64 c2, .int .i64 1], 58)] _ := hI3
    have hb : (m < 1 ∨ m > 65536 ∨ (⟨c0, c1, c2, 1⟩ : St).cr ≤ 0) := by
      simp only [St.cr, if_true, if_false, show ((1 : Int) = 0) = False by simp, show ((2 : Int) = 0) = False by simp, show ((2 : Int) = 1) = False by simp]
      simp only [decide_eq_true_eq, decide_eq_false_iff_not] at g11_1
      omega
    unfold spE spS
    rw [if_pos hb, if_pos hb]
    exact ⟨rfl, hI4⟩
  · have hf27 := hf8.know 11 (u := .bool false) rfl (congrArg Value.bool g11_1)
    refine any_val (i := 3) (v := .int .i64 m) hf27 rfl rfl rfl rfl rfl rfl (fun _ _ _ h => h) (by kernel_rfl) (by kernel_rfl) (by kernel_rfl) (fun wd1 hS1 => (r_move rfl)) hS1 fun ac26 hf28 => ?_
    refine any_val (i := 4) (v := .bool (decide (m > 65536))) hf28 rfl rfl rfl rfl rfl rfl (fun _ _ _ h => h) (by kernel_rfl) (by kernel_rfl) (by kernel_rfl) (fun wd1 hS1 => (r_gtr rfl rfl)) hS1 fun ac27 hf29 => ?_
    refine any_val (i := 5) (v := .bool (decide (m > 65536))) hf29 rfl rfl rfl rfl rfl rfl (fun _ _ _ h => h) (by kernel_rfl) (by kernel_rfl) (by kernel_rfl) (fun wd1 hS1 => (r_pickF rfl rfl)) hS1 fun ac28 hf30 => ?_
    refine any_val (i := 6) (v := .bool (decide (m > 65536))) hf30 rfl rfl rfl rfl rfl rfl (fun _ _ _ h => h) (by kernel_rfl) (by kernel_rfl) (by kernel_rfl) (fun wd1 hS1 => (r_move rfl)) hS1 fun ac29 hf31 => ?_
    rcases Bool.eq_false_or_eq_true (decide (m > 65536) : Bool) with g15_2 | g15_2
    · have hf32 := hf31.know 15 (u := .bool true) rfl (congrArg Value.bool g15_2)
      refine any_skip (i := 7) hf32 rfl rfl rfl rfl (fun _ _ _ h => h) (by kernel_rfl) (by kernel_rfl) (by kernel_rfl) hS1 fun ac30 hf33 => ?_
      refine any_skip (i := 8) hf33 rfl rfl rfl rfl (fun _ _ _ h => h) (by kernel_rfl) (by kernel_rfl) (by kernel_rfl) hS1 fun ac31 hf34 => ?_
      refine any_skip (i := 9) hf34 rfl rfl rfl rfl (fun _ _ _ h => h) (by kernel_rfl) (by kernel_rfl) (by kernel_rfl) hS1 fun ac32 hf35 => ?_
      refine any_skip (i := 10) hf35 rfl rfl rfl rfl (fun _ _ _ h => h) (by kernel_rfl) (by kernel_rfl) (by kernel_rfl) hS1 fun ac33 hf36 => ?_
      refine any_skip (i := 11) hf36 rfl rfl rfl rfl (fun _ _ _ h => h) (by kernel_rfl) (by kernel_rfl) (by kernel_rfl) hS1 fun ac34 hf37 => ?_
      refine any_skip (i := 12) hf37 rfl rfl rfl rfl (fun _ _ _ h => h) (by kernel_rfl) (by kernel_rfl) (by kernel_rfl) hS1 fun ac35 hf38 => ?_
      refine any_skip (i := 13) hf38 rfl rfl rfl rfl (fun _ _ _ h => h) (by kernel_rfl) (by kernel_rfl) (by kernel_rfl) hS1 fun ac36 hf39 => ?_
      refine any_skip (i := 14) hf39 rfl rfl rfl rfl (fun _ _ _ h => h) (by kernel_rfl) (by kernel_rfl) (by kernel_rfl) hS1 fun ac37 hf40 => ?_
      refine any_skip (i := 15) hf40 rfl rfl rfl rfl (fun _ _ _ h => h) (by kernel_rfl) (by kernel_rfl) (by kernel_rfl) hS1 fun ac38 hf41 => ?_
      refine any_skip (i := 16) hf41 rfl rfl rfl rfl (fun _ _ _ h => h) (by kernel_rfl) (by kernel_rfl) (by kernel_rfl) hS1 fun ac39 hf42 => ?_
      refine any_val (i := 17) (v := .bool true) hf42 rfl rfl rfl rfl rfl rfl (fun _ _ _ h => h) (by kernel_rfl) (by kernel_rfl) (by kernel_rfl) (fun wd1 hS1 => (r_pickT rfl rfl)) hS1 fun ac40 hf43 => ?_
      refine any_val (i := 18) (v := .bool true) hf43 rfl rfl rfl rfl rfl rfl (fun _ _ _ h => h) (by kernel_rfl) (by kernel_rfl) (by kernel_rfl) (fun wd1 hS1 => (r_assign rfl)) hS1 fun ac41 hf44 => ?_
      refine any_end (by kernel_rfl) ?_
      clear hI2 ac5 hf5 ac6 hf6 ac7 hf7 hf8 ac8 hf27 ac26 hf28 ac27 hf29 ac28 hf30 hf31 ac29 hf32 ac30 hf33 ac31 hf34 ac32 hf35 ac33 hf36 ac34 hf37 ac35 hf38 ac36 hf39 ac37 hf40 ac38 hf41 ac39 hf42 ac40 hf43 hS1
      refine then_normal ?_
      refine code_if_true hf44 rfl ?_
      refine code_seq ?_
      refine seq_start (l := [0]) rfl ?_
      refine seq_one (op_val (v := .int .i64 2) hf44 rfl rfl rfl rfl rfl rfl (r_assign rfl) fun ac42 hf45 => ?_)
      refine seq_end ?_
      clear ac41 hf44
      refine then_normal ?_
      refine wp_ret ?_
      refine block_ret ?_
      refine then_ret ?_
      refine post1 rfl hf45 rfl ?_
      have hI5 : Inv w [(b, #[.int .i64 w0, .int .i64 w1, .int .i64 w2, .int .i64 c0, .int .i64 c1, .int .i64 c2, .int .i64 1], 58)] _ := hI3
      have hb : (m < 1 ∨ m > 65536 ∨ (⟨c0, c1, c2, 1⟩ : St).cr ≤ 0) := by
        simp only [St.cr, if_true, if_false, show ((1 : Int) = 0) = False by simp, show ((2 : Int) = 0) = False by simp, show ((2 : Int) = 1) = False by simp]
        simp only [decide_eq_true_eq, decide_eq_false_iff_not] at g11_1 g15_2
        omega
      unfold spE spS
      rw [if_pos hb, if_pos hb]
      exact ⟨rfl, hI5⟩
    · have hf46 := hf31.know 15 (u := .bool false) rfl (congrArg Value.bool g15_2)
      refine any_val (i := 7) (v := .pointer (some ⟨b, 0, none⟩)) hf46 rfl rfl rfl rfl rfl rfl (fun _ _ _ h => h) (by kernel_rfl) (by kernel_rfl) (by kernel_rfl) (fun wd1 hS1 => (r_move rfl)) hS1 fun ac43 hf47 => ?_
      refine any_val (i := 8) (v := .pointer (some ⟨b, 0, none⟩)) hf47 rfl rfl rfl rfl rfl rfl (fun _ _ _ h => h) (by kernel_rfl) (by kernel_rfl) (by kernel_rfl) (fun wd1 hS1 => (r_move rfl)) hS1 fun ac44 hf48 => ?_
      refine any_val (i := 9) (v := .pointer (some ⟨b, 0, none⟩)) hf48 rfl rfl rfl rfl rfl rfl (fun _ _ _ h => h) (by kernel_rfl) (by kernel_rfl) (by kernel_rfl) (fun wd1 hS1 => (r_nilCheck rfl)) hS1 fun ac45 hf49 => ?_
      refine any_val (i := 10) (v := .pointer (some ⟨b, 6, none⟩)) hf49 rfl rfl rfl rfl rfl rfl (fun _ _ _ h => h) (by kernel_rfl) (by kernel_rfl) (by kernel_rfl) (fun wd1 hS1 => (r_fieldAddr fi_58_2 rfl rfl)) hS1 fun ac46 hf50 => ?_
      refine any_val (i := 11) (v := .int .i64 1) hf50 rfl rfl rfl rfl rfl rfl (fun _ _ _ h => h) (by kernel_rfl) (by kernel_rfl) (by kernel_rfl) (fun wd1 hS1 => (r_load ag_3 rfl (hS1.at 0 rfl) rfl)) hS1 fun ac47 hf51 => ?_
      refine any_val (i := 12) (v := .pointer (some ⟨b, 0, none⟩)) hf51 rfl rfl rfl rfl rfl rfl (fun _ _ _ h => h) (by kernel_rfl) (by kernel_rfl) (by kernel_rfl) (fun wd1 hS1 => (r_nilCheck rfl)) hS1 fun ac48 hf52 => ?_
      refine any_val (i := 13) (v := .pointer (some ⟨b, 3, none⟩)) hf52 rfl rfl rfl rfl rfl rfl (fun _ _ _ h => h) (by kernel_rfl) (by kernel_rfl) (by kernel_rfl) (fun wd1 hS1 => (r_fieldAddr fi_58_1 rfl rfl)) hS1 fun ac49 hf53 => ?_
      refine any_val (i := 14) (v := .pointer (some ⟨b, 4, none⟩)) hf53 rfl rfl rfl rfl rfl rfl (fun _ _ _ h => h) (by kernel_rfl) (by kernel_rfl) (by kernel_rfl) (fun wd1 hS1 => (r_indexAddr (i := 1) ar_22 rfl rfl rfl (by decide) rfl)) hS1 fun ac50 hf54 => ?_
      refine any_val (i := 15) (v := .int .i64 c1) hf54 rfl rfl rfl rfl rfl rfl (fun _ _ _ h => h) (by kernel_rfl) (by kernel_rfl) (by kernel_rfl) (fun wd1 hS1 => (r_load ag_3 rfl (hS1.at 0 rfl) rfl)) hS1 fun ac51 hf55 => ?_
      refine any_val (i := 16) (v := .bool (decide (c1 ≤ 0))) hf55 rfl rfl rfl rfl rfl rfl (fun _ _ _ h => h) (by kernel_rfl) (by kernel_rfl) (by kernel_rfl) (fun wd1 hS1 => (r_leq rfl rfl)) hS1 fun ac52 hf56 => ?_
      refine any_val (i := 17) (v := .bool (decide (c1 ≤ 0))) hf56 rfl rfl rfl rfl rfl rfl (fun _ _ _ h => h) (by kernel_rfl) (by kernel_rfl) (by kernel_rfl) (fun wd1 hS1 => (r_pickF rfl rfl)) hS1 fun ac53 hf57 => ?_
      refine any_val (i := 18) (v := .bool (decide (c1 ≤ 0))) hf57 rfl rfl rfl rfl rfl rfl (fun _ _ _ h => h) (by kernel_rfl) (by kernel_rfl) (by kernel_rfl) (fun wd1 hS1 => (r_assign rfl)) hS1 fun ac54 hf58 => ?_
      refine any_end (by kernel_rfl) ?_
      clear hI2 ac5 hf5 ac6 hf6 ac7 hf7 hf8 ac8 hf27 ac26 hf28 ac27 hf29 ac28 hf30 hf31 ac29 hf46 ac43 hf47 ac44 hf48 ac45 hf49 ac46 hf50 ac47 hf51 ac48 hf52 ac49 hf53 ac50 hf54 ac51 hf55 ac52 hf56 ac53 hf57 hS1
      refine then_normal ?_
      refine code_if hf58 rfl (fun c8_3 => ?_) (fun c8_3 => ?_)
      · have hf59 := hf58.know 8 (u := .bool true) rfl (congrArg Value.bool c8_3)
        refine code_seq ?_
        refine seq_start (l := [0]) rfl ?_
        refine seq_one (op_val (v := .int .i64 2) hf59 rfl rfl rfl rfl rfl rfl (r_assign rfl) fun ac55 hf60 => ?_)
        refine seq_end ?_
        clear hf58 ac54 hf59
        refine then_normal ?_
        refine wp_ret ?_
        refine block_ret ?_
        refine then_ret ?_
        refine post1 rfl hf60 rfl ?_
        have hI6 : Inv w [(b, #[.int .i64 w0, .int .i64 w1, .int .i64 w2, .int .i64 c0, .int .i64 c1, .int .i64 c2, .int .i64 1], 58)] _ := hI3
        have hb : (m < 1 ∨ m > 65536 ∨ (⟨c0, c1, c2, 1⟩ : St).cr ≤ 0) := by
          simp only [St.cr, if_true, if_false, show ((1 : Int) = 0) = False by simp, show ((2 : Int) = 0) = False by simp, show ((2 : Int) = 1) = False by simp]
          simp only [decide_eq_true_eq, decide_eq_false_iff_not] at g11_1 g15_2 c8_3
          omega
        unfold spE spS
        rw [if_pos hb, if_pos hb]
        exact ⟨rfl, hI6⟩
      · have hf61 := hf58.know 8 (u := .bool false) rfl (congrArg Value.bool c8_3)
        refine wp_skip ?_
        refine block_normal ?_
        refine then_normal ?_
        refine code_seq ?_
        refine any_start (fun w => Has [] w) follows (Has.drew Has.nil) ?_
        have hS2 : ∀ {w : World}, Has [] w := Has.nil
        have hI7 := hI3.drew
        refine any_val (i := 0) (v := .pointer (some ⟨b, 0, none⟩)) hf61 rfl rfl rfl rfl rfl rfl (fun _ _ _ h => h) (by kernel_rfl) (by kernel_rfl) (by kernel_rfl) (fun wd1 hS2 => (r_move rfl)) hS2 fun ac56 hf62 => ?_
        refine any_val (i := 1) (v := .pointer (some ⟨b, 0, none⟩)) hf62 rfl rfl rfl rfl rfl rfl (fun _ _ _ h => h) (by kernel_rfl) (by kernel_rfl) (by kernel_rfl) (fun wd1 hS2 => (r_move rfl)) hS2 fun ac57 hf63 => ?_
        refine any_val (i := 2) (v := .pointer (some ⟨b, 0, none⟩)) hf63 rfl rfl rfl rfl rfl rfl (fun _ _ _ h => h) (by kernel_rfl) (by kernel_rfl) (by kernel_rfl) (fun wd1 hS2 => (r_nilCheck rfl)) hS2 fun ac58 hf64 => ?_
        refine any_val (i := 3) (v := .pointer (some ⟨b, 6, none⟩)) hf64 rfl rfl rfl rfl rfl rfl (fun _ _ _ h => h) (by kernel_rfl) (by kernel_rfl) (by kernel_rfl) (fun wd1 hS2 => (r_fieldAddr fi_58_2 rfl rfl)) hS2 fun ac59 hf65 => ?_
        refine any_val (i := 5) (v := .pointer (some ⟨b, 0, none⟩)) hf65 rfl rfl rfl rfl rfl rfl (fun _ _ _ h => h) (by kernel_rfl) (by kernel_rfl) (by kernel_rfl) (fun wd1 hS2 => (r_nilCheck rfl)) hS2 fun ac60 hf66 => ?_
        refine any_val (i := 6) (v := .pointer (some ⟨b, 3, none⟩)) hf66 rfl rfl rfl rfl rfl rfl (fun _ _ _ h => h) (by kernel_rfl) (by kernel_rfl) (by kernel_rfl) (fun wd1 hS2 => (r_fieldAddr fi_58_1 rfl rfl)) hS2 fun ac61 hf67 => ?_
        refine any_val (i := 9) (v := .int .i64 m) hf67 rfl rfl rfl rfl rfl rfl (fun _ _ _ h => h) (by kernel_rfl) (by kernel_rfl) (by kernel_rfl) (fun wd1 hS2 => (r_move rfl)) hS2 fun ac62 hf68 => ?_
        refine any_val (i := 11) (v := .pointer (some ⟨b, 0, none⟩)) hf68 rfl rfl rfl rfl rfl rfl (fun _ _ _ h => h) (by kernel_rfl) (by kernel_rfl) (by kernel_rfl) (fun wd1 hS2 => (r_nilCheck rfl)) hS2 fun ac63 hf69 => ?_
        refine any_val (i := 12) (v := .pointer (some ⟨b, 3, none⟩)) hf69 rfl rfl rfl rfl rfl rfl (fun _ _ _ h => h) (by kernel_rfl) (by kernel_rfl) (by kernel_rfl) (fun wd1 hS2 => (r_fieldAddr fi_58_1 rfl rfl)) hS2 fun ac64 hf70 => ?_
        refine any_one (i := 4) (by kernel_rfl) ?_
        refine op_val (v := .int .i64 1) hf70 rfl rfl rfl rfl rfl rfl (r_load ag_3 rfl (hI7.at 0 rfl) rfl) fun ac65 hf71 => ⟨?_, ?_⟩
        · exact Has.nil
        have hS3 : ∀ {w : World}, Has [] w := Has.nil
        refine any_val (i := 7) (v := .pointer (some ⟨b, 4, none⟩)) hf71 rfl rfl rfl rfl rfl rfl (fun _ _ _ h => h) (by kernel_rfl) (by kernel_rfl) (by kernel_rfl) (fun wd1 hS3 => (r_indexAddr (i := 1) ar_22 rfl rfl rfl (by decide) rfl)) hS3 fun ac66 hf72 => ?_
        refine any_one (i := 8) (by kernel_rfl) ?_
        refine op_val (v := .int .i64 c1) hf72 rfl rfl rfl rfl rfl rfl (r_load ag_3 rfl (hI7.at 0 rfl) rfl) fun ac67 hf73 => ⟨?_, ?_⟩
        · exact Has.nil
        have hS4 : ∀ {w : World}, Has [] w := Has.nil
        refine any_val (i := 10) (v := .int .i64 (c1 - m)) hf73 rfl rfl rfl rfl rfl rfl (fun _ _ _ h => h) (by kernel_rfl) (by kernel_rfl) (by kernel_rfl) (fun wd1 hS4 => (r_sub (c := (c1 - m)) rfl rfl (by have h1 := hs.l1; have h2 := hs.r1; have h3 := hv.r1; dsimp only at h1 h2; simp only [decide_eq_true_eq, decide_eq_false_iff_not] at g11_1 g15_2 c8_3; exact wrap_i64 (by omega) (by omega)))) hS4 fun ac68 hf74 => ?_
        refine any_val (i := 13) (v := .pointer (some ⟨b, 4, none⟩)) hf74 rfl rfl rfl rfl rfl rfl (fun _ _ _ h => h) (by kernel_rfl) (by kernel_rfl) (by kernel_rfl) (fun wd1 hS4 => (r_indexAddr (i := 1) ar_22 rfl rfl rfl (by decide) rfl)) hS4 fun ac69 hf75 => ?_
        refine any_one (i := 14) (by kernel_rfl) ?_
        refine (op_store (cs' := #[.int .i64 w0, .int .i64 w1, .int .i64 w2, .int .i64 c0, .int .i64 (c1 - m), .int .i64 c2, .int .i64 1]) 0 hf75 rfl rfl rfl rfl rfl sz_3 hI7 rfl (ltb rfl) (by kernel_rfl) fun wd2 hI8 => ⟨?_, ?_⟩)
        · exact Has.nil
        have hI9 : Inv w [(b, #[.int .i64 w0, .int .i64 w1, .int .i64 w2, .int .i64 c0, .int .i64 (c1 - m), .int .i64 c2, .int .i64 1], 58)] wd2 := hI8
        have hS5 : ∀ {w : World}, Has [] w := Has.nil
        refine any_end (by kernel_rfl) ?_
        clear hf58 hI3 ac54 hf61 ac56 hf62 ac57 hf63 ac58 hf64 ac59 hf65 ac60 hf66 ac61 hf67 ac62 hf68 ac63 hf69 ac64 hf70 hS2 ac65 hf71 ac66 hf72 hS3 ac67 hf73 ac68 hf74 wd1 hI7 hI8 hS4 hS5
        refine then_normal ?_
        refine code_seq ?_
        refine seq_start (l := [0]) rfl ?_
        refine seq_one (op_val (v := .int .i64 0) hf75 rfl rfl rfl rfl rfl rfl (r_assign rfl) fun ac70 hf76 => ?_)
        refine seq_end ?_
        clear ac69 hf75
        refine then_normal ?_
        refine wp_ret ?_
        refine post1 rfl hf76 rfl ?_
        have hI10 : Inv w [(b, #[.int .i64 w0, .int .i64 w1, .int .i64 w2, .int .i64 c0, .int .i64 (c1 - m), .int .i64 c2, .int .i64 1], 58)] _ := hI9
        have hb : ¬ (m < 1 ∨ m > 65536 ∨ (⟨c0, c1, c2, 1⟩ : St).cr ≤ 0) := by
          simp only [St.cr, if_true, if_false, show ((1 : Int) = 0) = False by simp, show ((2 : Int) = 0) = False by simp, show ((2 : Int) = 1) = False by simp]
          simp only [decide_eq_true_eq, decide_eq_false_iff_not] at g11_1 g15_2 c8_3
          omega
        unfold spE spS
        rw [if_neg hb, if_neg hb]
        exact ⟨rfl, hI10⟩
set_option maxHeartbeats 8000000 in
theorem spend_walk2 (w0 w1 w2 c0 c1 c2 m : Int) (hw : w0 ≠ 0) (hv : WOK w0 w1 w2) (hs : Ok w0 w1 w2 ⟨c0, c1, c2, 2⟩) (b : Nat) (w : World) (h0_ : Has [(b, #[.int .i64 w0, .int .i64 w1, .int .i64 w2, .int .i64 c0, .int .i64 c1, .int .i64 c2, .int .i64 2], 58)] w) : Calls Try.prog 14 [.pointer (some ⟨b, 0, none⟩), .int .i64 m].toArray w fun e w' => e = .returned (.int .i64 (spE m ⟨c0, c1, c2, 2⟩)) ∧ Inv w [(b, #[.int .i64 w0, .int .i64 w1, .int .i64 w2, .int .i64 (((spS m ⟨c0, c1, c2, 2⟩ : St)).c0), .int .i64 (((spS m ⟨c0, c1, c2, 2⟩ : St)).c1), .int .i64 (((spS m ⟨c0, c1, c2, 2⟩ : St)).c2), .int .i64 (((spS m ⟨c0, c1, c2, 2⟩ : St)).now)], 58)] w' := by
  have hI1 := Inv.startS h0_ (List.pairwise_singleton _ _)
  refine enter (n := 41) Try.func14 rfl rfl rfl ?_
  intro ac1 hf1
  refine code_seq ?_
  refine seq_start (l := [0]) rfl ?_
  refine seq_one (op_val (v := .int .i64 0) hf1 rfl rfl rfl rfl rfl rfl (r_assign rfl) fun ac2 hf2 => ?_)
  refine seq_end ?_
  clear ac1 hf1
  refine then_normal ?_
  refine code_seq ?_
  refine wp_block ?_
  refine code_seq ?_
  refine seq_start (l := [0, 1, 2]) rfl ?_
  refine seq_one (op_val (v := .pointer (some ⟨b, 0, none⟩)) hf2 rfl rfl rfl rfl rfl rfl (r_move rfl) fun ac3 hf3 => ?_)
  refine seq_one (op_pureW hf3 rfl rfl rfl rfl ca_20 (none_walk w0 w1 w2 c0 c1 c2 2 hw b _ (Has.cons (hI1.at 0 rfl) Has.nil)) hI1 fun ac4 wd1 hI2 hf4 => ?_)
  refine seq_one (op_val (v := .bool false) hf4 rfl rfl rfl rfl rfl rfl (r_assign rfl) fun ac5 hf5 => ?_)
  refine seq_end ?_
  clear ac2 hf2 ac3 hI1 hf3 ac4 hf4
  refine then_normal ?_
  refine code_if_false hf5 rfl ?_
  refine code_seq ?_
  refine any_start (fun w => Has [(b, #[.int .i64 w0, .int .i64 w1, .int .i64 w2, .int .i64 c0, .int .i64 c1, .int .i64 c2, .int .i64 2], 58)] w) follows (Has.drew (Has.cons (hI2.at 0 rfl) Has.nil)) ?_
  have hS1 : Has [(b, #[.int .i64 w0, .int .i64 w1, .int .i64 w2, .int .i64 c0, .int .i64 c1, .int .i64 c2, .int .i64 2], 58)] _ := Has.drew (Has.cons (hI2.at 0 rfl) Has.nil)
  have hI3 := hI2.drew
  refine any_val (i := 0) (v := .int .i64 m) hf5 rfl rfl rfl rfl rfl rfl (fun _ _ _ h => h) (by kernel_rfl) (by kernel_rfl) (by kernel_rfl) (fun wd1 hS1 => (r_move rfl)) hS1 fun ac6 hf6 => ?_
  refine any_val (i := 1) (v := .bool (decide (m < 1))) hf6 rfl rfl rfl rfl rfl rfl (fun _ _ _ h => h) (by kernel_rfl) (by kernel_rfl) (by kernel_rfl) (fun wd1 hS1 => (r_lss rfl rfl)) hS1 fun ac7 hf7 => ?_
  refine any_val (i := 2) (v := .bool (decide (m < 1))) hf7 rfl rfl rfl rfl rfl rfl (fun _ _ _ h => h) (by kernel_rfl) (by kernel_rfl) (by kernel_rfl) (fun wd1 hS1 => (r_move rfl)) hS1 fun ac8 hf8 => ?_
  rcases Bool.eq_false_or_eq_true (decide (m < 1) : Bool) with g11_1 | g11_1
  · have hf9 := hf8.know 11 (u := .bool true) rfl (congrArg Value.bool g11_1)
    refine any_skip (i := 3) hf9 rfl rfl rfl rfl (fun _ _ _ h => h) (by kernel_rfl) (by kernel_rfl) (by kernel_rfl) hS1 fun ac9 hf10 => ?_
    refine any_skip (i := 4) hf10 rfl rfl rfl rfl (fun _ _ _ h => h) (by kernel_rfl) (by kernel_rfl) (by kernel_rfl) hS1 fun ac10 hf11 => ?_
    refine any_val (i := 5) (v := .bool true) hf11 rfl rfl rfl rfl rfl rfl (fun _ _ _ h => h) (by kernel_rfl) (by kernel_rfl) (by kernel_rfl) (fun wd1 hS1 => (r_pickT rfl rfl)) hS1 fun ac11 hf12 => ?_
    refine any_val (i := 6) (v := .bool true) hf12 rfl rfl rfl rfl rfl rfl (fun _ _ _ h => h) (by kernel_rfl) (by kernel_rfl) (by kernel_rfl) (fun wd1 hS1 => (r_move rfl)) hS1 fun ac12 hf13 => ?_
    refine any_skip (i := 7) hf13 rfl rfl rfl rfl (fun _ _ _ h => h) (by kernel_rfl) (by kernel_rfl) (by kernel_rfl) hS1 fun ac13 hf14 => ?_
    refine any_skip (i := 8) hf14 rfl rfl rfl rfl (fun _ _ _ h => h) (by kernel_rfl) (by kernel_rfl) (by kernel_rfl) hS1 fun ac14 hf15 => ?_
    refine any_skip (i := 9) hf15 rfl rfl rfl rfl (fun _ _ _ h => h) (by kernel_rfl) (by kernel_rfl) (by kernel_rfl) hS1 fun ac15 hf16 => ?_
    refine any_skip (i := 10) hf16 rfl rfl rfl rfl (fun _ _ _ h => h) (by kernel_rfl) (by kernel_rfl) (by kernel_rfl) hS1 fun ac16 hf17 => ?_
    refine any_skip (i := 11) hf17 rfl rfl rfl rfl (fun _ _ _ h => h) (by kernel_rfl) (by kernel_rfl) (by kernel_rfl) hS1 fun ac17 hf18 => ?_
    refine any_skip (i := 12) hf18 rfl rfl rfl rfl (fun _ _ _ h => h) (by kernel_rfl) (by kernel_rfl) (by kernel_rfl) hS1 fun ac18 hf19 => ?_
    refine any_skip (i := 13) hf19 rfl rfl rfl rfl (fun _ _ _ h => h) (by kernel_rfl) (by kernel_rfl) (by kernel_rfl) hS1 fun ac19 hf20 => ?_
    refine any_skip (i := 14) hf20 rfl rfl rfl rfl (fun _ _ _ h => h) (by kernel_rfl) (by kernel_rfl) (by kernel_rfl) hS1 fun ac20 hf21 => ?_
    refine any_skip (i := 15) hf21 rfl rfl rfl rfl (fun _ _ _ h => h) (by kernel_rfl) (by kernel_rfl) (by kernel_rfl) hS1 fun ac21 hf22 => ?_
    refine any_skip (i := 16) hf22 rfl rfl rfl rfl (fun _ _ _ h => h) (by kernel_rfl) (by kernel_rfl) (by kernel_rfl) hS1 fun ac22 hf23 => ?_
    refine any_val (i := 17) (v := .bool true) hf23 rfl rfl rfl rfl rfl rfl (fun _ _ _ h => h) (by kernel_rfl) (by kernel_rfl) (by kernel_rfl) (fun wd1 hS1 => (r_pickT rfl rfl)) hS1 fun ac23 hf24 => ?_
    refine any_val (i := 18) (v := .bool true) hf24 rfl rfl rfl rfl rfl rfl (fun _ _ _ h => h) (by kernel_rfl) (by kernel_rfl) (by kernel_rfl) (fun wd1 hS1 => (r_assign rfl)) hS1 fun ac24 hf25 => ?_
    refine any_end (by kernel_rfl) ?_
    clear hI2 ac5 hf5 ac6 hf6 ac7 hf7 hf8 ac8 hf9 ac9 hf10 ac10 hf11 ac11 hf12 ac12 hf13 ac13 hf14 ac14 hf15 ac15 hf16 ac16 hf17 ac17 hf18 ac18 hf19 ac19 hf20 ac20 hf21 ac21 hf22 ac22 hf23 ac23 hf24 hS1
    refine then_normal ?_
    refine code_if_true hf25 rfl ?_
    refine code_seq ?_
    refine seq_start (l := [0]) rfl ?_
    refine seq_one (op_val (v := .int .i64 2) hf25 rfl rfl rfl rfl rfl rfl (r_assign rfl) fun ac25 hf26 => ?_)
    refine seq_end ?_
    clear ac24 hf25
    refine then_normal ?_
    refine wp_ret ?_
    refine block_ret ?_
    refine then_ret ?_
    refine post1 rfl hf26 rfl ?_
    have hI4 : Inv w [(b, #[.int .i64 w0, .int .i64 w1, .int .i64 w2, .int .i64 c0, .int .i64 c1, .int .i64 c2, .int .i64 2], 58)] _ := hI3
    have hb : (m < 1 ∨ m > 65536 ∨ (⟨c0, c1, c2, 2⟩ : St).cr ≤ 0) := by
      simp only [St.cr, if_true, if_false, show ((1 : Int) = 0) = False by simp, show ((2 : Int) = 0) = False by simp, show ((2 : Int) = 1) = False by simp]
      simp only [decide_eq_true_eq, decide_eq_false_iff_not] at g11_1
      omega
    unfold spE spS
    rw [if_pos hb, if_pos hb]
    exact ⟨rfl, hI4⟩
  · have hf27 := hf8.know 11 (u := .bool false) rfl (congrArg Value.bool g11_1)
    refine any_val (i := 3) (v := .int .i64 m) hf27 rfl rfl rfl rfl rfl rfl (fun _ _ _ h => h) (by kernel_rfl) (by kernel_rfl) (by kernel_rfl) (fun wd1 hS1 => (r_move rfl)) hS1 fun ac26 hf28 => ?_
    refine any_val (i := 4) (v := .bool (decide (m > 65536))) hf28 rfl rfl rfl rfl rfl rfl (fun _ _ _ h => h) (by kernel_rfl) (by kernel_rfl) (by kernel_rfl) (fun wd1 hS1 => (r_gtr rfl rfl)) hS1 fun ac27 hf29 => ?_
    refine any_val (i := 5) (v := .bool (decide (m > 65536))) hf29 rfl rfl rfl rfl rfl rfl (fun _ _ _ h => h) (by kernel_rfl) (by kernel_rfl) (by kernel_rfl) (fun wd1 hS1 => (r_pickF rfl rfl)) hS1 fun ac28 hf30 => ?_
    refine any_val (i := 6) (v := .bool (decide (m > 65536))) hf30 rfl rfl rfl rfl rfl rfl (fun _ _ _ h => h) (by kernel_rfl) (by kernel_rfl) (by kernel_rfl) (fun wd1 hS1 => (r_move rfl)) hS1 fun ac29 hf31 => ?_
    rcases Bool.eq_false_or_eq_true (decide (m > 65536) : Bool) with g15_2 | g15_2
    · have hf32 := hf31.know 15 (u := .bool true) rfl (congrArg Value.bool g15_2)
      refine any_skip (i := 7) hf32 rfl rfl rfl rfl (fun _ _ _ h => h) (by kernel_rfl) (by kernel_rfl) (by kernel_rfl) hS1 fun ac30 hf33 => ?_
      refine any_skip (i := 8) hf33 rfl rfl rfl rfl (fun _ _ _ h => h) (by kernel_rfl) (by kernel_rfl) (by kernel_rfl) hS1 fun ac31 hf34 => ?_
      refine any_skip (i := 9) hf34 rfl rfl rfl rfl (fun _ _ _ h => h) (by kernel_rfl) (by kernel_rfl) (by kernel_rfl) hS1 fun ac32 hf35 => ?_
      refine any_skip (i := 10) hf35 rfl rfl rfl rfl (fun _ _ _ h => h) (by kernel_rfl) (by kernel_rfl) (by kernel_rfl) hS1 fun ac33 hf36 => ?_
      refine any_skip (i := 11) hf36 rfl rfl rfl rfl (fun _ _ _ h => h) (by kernel_rfl) (by kernel_rfl) (by kernel_rfl) hS1 fun ac34 hf37 => ?_
      refine any_skip (i := 12) hf37 rfl rfl rfl rfl (fun _ _ _ h => h) (by kernel_rfl) (by kernel_rfl) (by kernel_rfl) hS1 fun ac35 hf38 => ?_
      refine any_skip (i := 13) hf38 rfl rfl rfl rfl (fun _ _ _ h => h) (by kernel_rfl) (by kernel_rfl) (by kernel_rfl) hS1 fun ac36 hf39 => ?_
      refine any_skip (i := 14) hf39 rfl rfl rfl rfl (fun _ _ _ h => h) (by kernel_rfl) (by kernel_rfl) (by kernel_rfl) hS1 fun ac37 hf40 => ?_
      refine any_skip (i := 15) hf40 rfl rfl rfl rfl (fun _ _ _ h => h) (by kernel_rfl) (by kernel_rfl) (by kernel_rfl) hS1 fun ac38 hf41 => ?_
      refine any_skip (i := 16) hf41 rfl rfl rfl rfl (fun _ _ _ h => h) (by kernel_rfl) (by kernel_rfl) (by kernel_rfl) hS1 fun ac39 hf42 => ?_
      refine any_val (i := 17) (v := .bool true) hf42 rfl rfl rfl rfl rfl rfl (fun _ _ _ h => h) (by kernel_rfl) (by kernel_rfl) (by kernel_rfl) (fun wd1 hS1 => (r_pickT rfl rfl)) hS1 fun ac40 hf43 => ?_
      refine any_val (i := 18) (v := .bool true) hf43 rfl rfl rfl rfl rfl rfl (fun _ _ _ h => h) (by kernel_rfl) (by kernel_rfl) (by kernel_rfl) (fun wd1 hS1 => (r_assign rfl)) hS1 fun ac41 hf44 => ?_
      refine any_end (by kernel_rfl) ?_
      clear hI2 ac5 hf5 ac6 hf6 ac7 hf7 hf8 ac8 hf27 ac26 hf28 ac27 hf29 ac28 hf30 hf31 ac29 hf32 ac30 hf33 ac31 hf34 ac32 hf35 ac33 hf36 ac34 hf37 ac35 hf38 ac36 hf39 ac37 hf40 ac38 hf41 ac39 hf42 ac40 hf43 hS1
      refine then_normal ?_
      refine code_if_true hf44 rfl ?_
      refine code_seq ?_
      refine seq_start (l := [0]) rfl ?_
      refine seq_one (op_val (v := .int .i64 2) hf44 rfl rfl rfl rfl rfl rfl (r_assign rfl) fun ac42 hf45 => ?_)
      refine seq_end ?_
      clear ac41 hf44
      refine then_normal ?_
      refine wp_ret ?_
      refine block_ret ?_
      refine then_ret ?_
      refine post1 rfl hf45 rfl ?_
      have hI5 : Inv w [(b, #[.int .i64 w0, .int .i64 w1, .int .i64 w2, .int .i64 c0, .int .i64 c1, .int .i64 c2, .int .i64 2], 58)] _ := hI3
      have hb : (m < 1 ∨ m > 65536 ∨ (⟨c0, c1, c2, 2⟩ : St).cr ≤ 0) := by
        simp only [St.cr, if_true, if_false, show ((1 : Int) = 0) = False by simp, show ((2 : Int) = 0) = False by simp, show ((2 : Int) = 1) = False by simp]
        simp only [decide_eq_true_eq, decide_eq_false_iff_not] at g11_1 g15_2
        omega
      unfold spE spS
      rw [if_pos hb, if_pos hb]
      exact ⟨rfl, hI5⟩
    · have hf46 := hf31.know 15 (u := .bool false) rfl (congrArg Value.bool g15_2)
      refine any_val (i := 7) (v := .pointer (some ⟨b, 0, none⟩)) hf46 rfl rfl rfl rfl rfl rfl (fun _ _ _ h => h) (by kernel_rfl) (by kernel_rfl) (by kernel_rfl) (fun wd1 hS1 => (r_move rfl)) hS1 fun ac43 hf47 => ?_
      refine any_val (i := 8) (v := .pointer (some ⟨b, 0, none⟩)) hf47 rfl rfl rfl rfl rfl rfl (fun _ _ _ h => h) (by kernel_rfl) (by kernel_rfl) (by kernel_rfl) (fun wd1 hS1 => (r_move rfl)) hS1 fun ac44 hf48 => ?_
      refine any_val (i := 9) (v := .pointer (some ⟨b, 0, none⟩)) hf48 rfl rfl rfl rfl rfl rfl (fun _ _ _ h => h) (by kernel_rfl) (by kernel_rfl) (by kernel_rfl) (fun wd1 hS1 => (r_nilCheck rfl)) hS1 fun ac45 hf49 => ?_
      refine any_val (i := 10) (v := .pointer (some ⟨b, 6, none⟩)) hf49 rfl rfl rfl rfl rfl rfl (fun _ _ _ h => h) (by kernel_rfl) (by kernel_rfl) (by kernel_rfl) (fun wd1 hS1 => (r_fieldAddr fi_58_2 rfl rfl)) hS1 fun ac46 hf50 => ?_
      refine any_val (i := 11) (v := .int .i64 2) hf50 rfl rfl rfl rfl rfl rfl (fun _ _ _ h => h) (by kernel_rfl) (by kernel_rfl) (by kernel_rfl) (fun wd1 hS1 => (r_load ag_3 rfl (hS1.at 0 rfl) rfl)) hS1 fun ac47 hf51 => ?_
      refine any_val (i := 12) (v := .pointer (some ⟨b, 0, none⟩)) hf51 rfl rfl rfl rfl rfl rfl (fun _ _ _ h => h) (by kernel_rfl) (by kernel_rfl) (by kernel_rfl) (fun wd1 hS1 => (r_nilCheck rfl)) hS1 fun ac48 hf52 => ?_
      refine any_val (i := 13) (v := .pointer (some ⟨b, 3, none⟩)) hf52 rfl rfl rfl rfl rfl rfl (fun _ _ _ h => h) (by kernel_rfl) (by kernel_rfl) (by kernel_rfl) (fun wd1 hS1 => (r_fieldAddr fi_58_1 rfl rfl)) hS1 fun ac49 hf53 => ?_
      refine any_val (i := 14) (v := .pointer (some ⟨b, 5, none⟩)) hf53 rfl rfl rfl rfl rfl rfl (fun _ _ _ h => h) (by kernel_rfl) (by kernel_rfl) (by kernel_rfl) (fun wd1 hS1 => (r_indexAddr (i := 2) ar_22 rfl rfl rfl (by decide) rfl)) hS1 fun ac50 hf54 => ?_
      refine any_val (i := 15) (v := .int .i64 c2) hf54 rfl rfl rfl rfl rfl rfl (fun _ _ _ h => h) (by kernel_rfl) (by kernel_rfl) (by kernel_rfl) (fun wd1 hS1 => (r_load ag_3 rfl (hS1.at 0 rfl) rfl)) hS1 fun ac51 hf55 => ?_
      refine any_val (i := 16) (v := .bool (decide (c2 ≤ 0))) hf55 rfl rfl rfl rfl rfl rfl (fun _ _ _ h => h) (by kernel_rfl) (by kernel_rfl) (by kernel_rfl) (fun wd1 hS1 => (r_leq rfl rfl)) hS1 fun ac52 hf56 => ?_
      refine any_val (i := 17) (v := .bool (decide (c2 ≤ 0))) hf56 rfl rfl rfl rfl rfl rfl (fun _ _ _ h => h) (by kernel_rfl) (by kernel_rfl) (by kernel_rfl) (fun wd1 hS1 => (r_pickF rfl rfl)) hS1 fun ac53 hf57 => ?_
      refine any_val (i := 18) (v := .bool (decide (c2 ≤ 0))) hf57 rfl rfl rfl rfl rfl rfl (fun _ _ _ h => h) (by kernel_rfl) (by kernel_rfl) (by kernel_rfl) (fun wd1 hS1 => (r_assign rfl)) hS1 fun ac54 hf58 => ?_
      refine any_end (by kernel_rfl) ?_
      clear hI2 ac5 hf5 ac6 hf6 ac7 hf7 hf8 ac8 hf27 ac26 hf28 ac27 hf29 ac28 hf30 hf31 ac29 hf46 ac43 hf47 ac44 hf48 ac45 hf49 ac46 hf50 ac47 hf51 ac48 hf52 ac49 hf53 ac50 hf54 ac51 hf55 ac52 hf56 ac53 hf57 hS1
      refine then_normal ?_
      refine code_if hf58 rfl (fun c8_3 => ?_) (fun c8_3 => ?_)
      · have hf59 := hf58.know 8 (u := .bool true) rfl (congrArg Value.bool c8_3)
        refine code_seq ?_
        refine seq_start (l := [0]) rfl ?_
        refine seq_one (op_val (v := .int .i64 2) hf59 rfl rfl rfl rfl rfl rfl (r_assign rfl) fun ac55 hf60 => ?_)
        refine seq_end ?_
        clear hf58 ac54 hf59
        refine then_normal ?_
        refine wp_ret ?_
        refine block_ret ?_
        refine then_ret ?_
        refine post1 rfl hf60 rfl ?_
        have hI6 : Inv w [(b, #[.int .i64 w0, .int .i64 w1, .int .i64 w2, .int .i64 c0, .int .i64 c1, .int .i64 c2, .int .i64 2], 58)] _ := hI3
        have hb : (m < 1 ∨ m > 65536 ∨ (⟨c0, c1, c2, 2⟩ : St).cr ≤ 0) := by
          simp only [St.cr, if_true, if_false, show ((1 : Int) = 0) = False by simp, show ((2 : Int) = 0) = False by simp, show ((2 : Int) = 1) = False by simp]
          simp only [decide_eq_true_eq, decide_eq_false_iff_not] at g11_1 g15_2 c8_3
          omega
        unfold spE spS
        rw [if_pos hb, if_pos hb]
        exact ⟨rfl, hI6⟩
      · have hf61 := hf58.know 8 (u := .bool false) rfl (congrArg Value.bool c8_3)
        refine wp_skip ?_
        refine block_normal ?_
        refine then_normal ?_
        refine code_seq ?_
        refine any_start (fun w => Has [] w) follows (Has.drew Has.nil) ?_
        have hS2 : ∀ {w : World}, Has [] w := Has.nil
        have hI7 := hI3.drew
        refine any_val (i := 0) (v := .pointer (some ⟨b, 0, none⟩)) hf61 rfl rfl rfl rfl rfl rfl (fun _ _ _ h => h) (by kernel_rfl) (by kernel_rfl) (by kernel_rfl) (fun wd1 hS2 => (r_move rfl)) hS2 fun ac56 hf62 => ?_
        refine any_val (i := 1) (v := .pointer (some ⟨b, 0, none⟩)) hf62 rfl rfl rfl rfl rfl rfl (fun _ _ _ h => h) (by kernel_rfl) (by kernel_rfl) (by kernel_rfl) (fun wd1 hS2 => (r_move rfl)) hS2 fun ac57 hf63 => ?_
        refine any_val (i := 2) (v := .pointer (some ⟨b, 0, none⟩)) hf63 rfl rfl rfl rfl rfl rfl (fun _ _ _ h => h) (by kernel_rfl) (by kernel_rfl) (by kernel_rfl) (fun wd1 hS2 => (r_nilCheck rfl)) hS2 fun ac58 hf64 => ?_
        refine any_val (i := 3) (v := .pointer (some ⟨b, 6, none⟩)) hf64 rfl rfl rfl rfl rfl rfl (fun _ _ _ h => h) (by kernel_rfl) (by kernel_rfl) (by kernel_rfl) (fun wd1 hS2 => (r_fieldAddr fi_58_2 rfl rfl)) hS2 fun ac59 hf65 => ?_
        refine any_val (i := 5) (v := .pointer (some ⟨b, 0, none⟩)) hf65 rfl rfl rfl rfl rfl rfl (fun _ _ _ h => h) (by kernel_rfl) (by kernel_rfl) (by kernel_rfl) (fun wd1 hS2 => (r_nilCheck rfl)) hS2 fun ac60 hf66 => ?_
        refine any_val (i := 6) (v := .pointer (some ⟨b, 3, none⟩)) hf66 rfl rfl rfl rfl rfl rfl (fun _ _ _ h => h) (by kernel_rfl) (by kernel_rfl) (by kernel_rfl) (fun wd1 hS2 => (r_fieldAddr fi_58_1 rfl rfl)) hS2 fun ac61 hf67 => ?_
        refine any_val (i := 9) (v := .int .i64 m) hf67 rfl rfl rfl rfl rfl rfl (fun _ _ _ h => h) (by kernel_rfl) (by kernel_rfl) (by kernel_rfl) (fun wd1 hS2 => (r_move rfl)) hS2 fun ac62 hf68 => ?_
        refine any_val (i := 11) (v := .pointer (some ⟨b, 0, none⟩)) hf68 rfl rfl rfl rfl rfl rfl (fun _ _ _ h => h) (by kernel_rfl) (by kernel_rfl) (by kernel_rfl) (fun wd1 hS2 => (r_nilCheck rfl)) hS2 fun ac63 hf69 => ?_
        refine any_val (i := 12) (v := .pointer (some ⟨b, 3, none⟩)) hf69 rfl rfl rfl rfl rfl rfl (fun _ _ _ h => h) (by kernel_rfl) (by kernel_rfl) (by kernel_rfl) (fun wd1 hS2 => (r_fieldAddr fi_58_1 rfl rfl)) hS2 fun ac64 hf70 => ?_
        refine any_one (i := 4) (by kernel_rfl) ?_
        refine op_val (v := .int .i64 2) hf70 rfl rfl rfl rfl rfl rfl (r_load ag_3 rfl (hI7.at 0 rfl) rfl) fun ac65 hf71 => ⟨?_, ?_⟩
        · exact Has.nil
        have hS3 : ∀ {w : World}, Has [] w := Has.nil
        refine any_val (i := 7) (v := .pointer (some ⟨b, 5, none⟩)) hf71 rfl rfl rfl rfl rfl rfl (fun _ _ _ h => h) (by kernel_rfl) (by kernel_rfl) (by kernel_rfl) (fun wd1 hS3 => (r_indexAddr (i := 2) ar_22 rfl rfl rfl (by decide) rfl)) hS3 fun ac66 hf72 => ?_
        refine any_one (i := 8) (by kernel_rfl) ?_
        refine op_val (v := .int .i64 c2) hf72 rfl rfl rfl rfl rfl rfl (r_load ag_3 rfl (hI7.at 0 rfl) rfl) fun ac67 hf73 => ⟨?_, ?_⟩
        · exact Has.nil
        have hS4 : ∀ {w : World}, Has [] w := Has.nil
        refine any_val (i := 10) (v := .int .i64 (c2 - m)) hf73 rfl rfl rfl rfl rfl rfl (fun _ _ _ h => h) (by kernel_rfl) (by kernel_rfl) (by kernel_rfl) (fun wd1 hS4 => (r_sub (c := (c2 - m)) rfl rfl (by have h1 := hs.l2; have h2 := hs.r2; have h3 := hv.r2; dsimp only at h1 h2; simp only [decide_eq_true_eq, decide_eq_false_iff_not] at g11_1 g15_2 c8_3; exact wrap_i64 (by omega) (by omega)))) hS4 fun ac68 hf74 => ?_
        refine any_val (i := 13) (v := .pointer (some ⟨b, 5, none⟩)) hf74 rfl rfl rfl rfl rfl rfl (fun _ _ _ h => h) (by kernel_rfl) (by kernel_rfl) (by kernel_rfl) (fun wd1 hS4 => (r_indexAddr (i := 2) ar_22 rfl rfl rfl (by decide) rfl)) hS4 fun ac69 hf75 => ?_
        refine any_one (i := 14) (by kernel_rfl) ?_
        refine (op_store (cs' := #[.int .i64 w0, .int .i64 w1, .int .i64 w2, .int .i64 c0, .int .i64 c1, .int .i64 (c2 - m), .int .i64 2]) 0 hf75 rfl rfl rfl rfl rfl sz_3 hI7 rfl (ltb rfl) (by kernel_rfl) fun wd2 hI8 => ⟨?_, ?_⟩)
        · exact Has.nil
        have hI9 : Inv w [(b, #[.int .i64 w0, .int .i64 w1, .int .i64 w2, .int .i64 c0, .int .i64 c1, .int .i64 (c2 - m), .int .i64 2], 58)] wd2 := hI8
        have hS5 : ∀ {w : World}, Has [] w := Has.nil
        refine any_end (by kernel_rfl) ?_
        clear hf58 hI3 ac54 hf61 ac56 hf62 ac57 hf63 ac58 hf64 ac59 hf65 ac60 hf66 ac61 hf67 ac62 hf68 ac63 hf69 ac64 hf70 hS2 ac65 hf71 ac66 hf72 hS3 ac67 hf73 ac68 hf74 wd1 hI7 hI8 hS4 hS5
        refine then_normal ?_
        refine code_seq ?_
        refine seq_start (l := [0]) rfl ?_
        refine seq_one (op_val (v := .int .i64 0) hf75 rfl rfl rfl rfl rfl rfl (r_assign rfl) fun ac70 hf76 => ?_)
        refine seq_end ?_
        clear ac69 hf75
        refine then_normal ?_
        refine wp_ret ?_
        refine post1 rfl hf76 rfl ?_
        have hI10 : Inv w [(b, #[.int .i64 w0, .int .i64 w1, .int .i64 w2, .int .i64 c0, .int .i64 c1, .int .i64 (c2 - m), .int .i64 2], 58)] _ := hI9
        have hb : ¬ (m < 1 ∨ m > 65536 ∨ (⟨c0, c1, c2, 2⟩ : St).cr ≤ 0) := by
          simp only [St.cr, if_true, if_false, show ((1 : Int) = 0) = False by simp, show ((2 : Int) = 0) = False by simp, show ((2 : Int) = 1) = False by simp]
          simp only [decide_eq_true_eq, decide_eq_false_iff_not] at g11_1 g15_2 c8_3
          omega
        unfold spE spS
        rw [if_neg hb, if_neg hb]
        exact ⟨rfl, hI10⟩
theorem spend_walk (w0 w1 w2 c0 c1 c2 n m : Int) (hw : w0 ≠ 0) (hv : WOK w0 w1 w2) (hs : Ok w0 w1 w2 ⟨c0, c1, c2, n⟩) (b : Nat) (w : World) (h0_ : Has [(b, #[.int .i64 w0, .int .i64 w1, .int .i64 w2, .int .i64 c0, .int .i64 c1, .int .i64 c2, .int .i64 n], 58)] w) : Calls Try.prog 14 [.pointer (some ⟨b, 0, none⟩), .int .i64 m].toArray w fun e w' => e = .returned (.int .i64 (spE m ⟨c0, c1, c2, n⟩)) ∧ Inv w [(b, #[.int .i64 w0, .int .i64 w1, .int .i64 w2, .int .i64 ((spS m ⟨c0, c1, c2, n⟩).c0), .int .i64 ((spS m ⟨c0, c1, c2, n⟩).c1), .int .i64 ((spS m ⟨c0, c1, c2, n⟩).c2), .int .i64 ((spS m ⟨c0, c1, c2, n⟩).now)], 58)] w' := by
  rcases hs.n with h | h | h
  all_goals (dsimp only at h; subst h)
  · exact spend_walk0 w0 w1 w2 c0 c1 c2 m hw hv hs b w h0_
  · exact spend_walk1 w0 w1 w2 c0 c1 c2 m hw hv hs b w h0_
  · exact spend_walk2 w0 w1 w2 c0 c1 c2 m hw hv hs b w h0_
end Go.Proofs.Ytkfilmdnpocinaa
