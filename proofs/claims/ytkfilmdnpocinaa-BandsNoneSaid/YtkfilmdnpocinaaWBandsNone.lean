/-
  The walk of BandsNone.
-/
import Derived.Test.YtkfilmdnpocinaaPlayed
namespace Go.Proofs.Ytkfilmdnpocinaa
set_option linter.unusedVariables false
set_option linter.unusedSimpArgs false
set_option maxRecDepth 100000
open Go.RowKit
set_option maxHeartbeats 8000000 in
theorem none_nil  : Pur Try.prog 20 [.pointer none] (.bool true) := by
  intro w
  have hI1 := Inv.start w
  refine enter (n := 13) Try.func20 rfl rfl rfl ?_
  intro ac1 hf1
  refine code_seq ?_
  refine seq_start (l := [0]) rfl ?_
  refine seq_one (op_val (v := .bool false) hf1 rfl rfl rfl rfl rfl rfl (r_assign rfl) fun ac2 hf2 => ?_)
  refine seq_end ?_
  clear ac1 hf1
  refine then_normal ?_
  refine code_seq ?_
  refine seq_start (l := [0, 1, 2, 3, 4, 5, 6, 7, 8, 9, 10]) rfl ?_
  refine seq_one (op_val (v := .pointer none) hf2 rfl rfl rfl rfl rfl rfl (r_move rfl) fun ac3 hf3 => ?_)
  refine seq_one (op_val (v := .bool true) hf3 rfl rfl rfl rfl rfl rfl (r_eqNil up_24 rfl rfl rfl) fun ac4 hf4 => ?_)
  refine seq_one (op_val (v := .bool true) hf4 rfl rfl rfl rfl rfl rfl (r_move rfl) fun ac5 hf5 => ?_)
  refine seq_one (op_skip hf5 rfl rfl rfl rfl fun ac6 hf6 => ?_)
  refine seq_one (op_skip hf6 rfl rfl rfl rfl fun ac7 hf7 => ?_)
  refine seq_one (op_skip hf7 rfl rfl rfl rfl fun ac8 hf8 => ?_)
  refine seq_one (op_skip hf8 rfl rfl rfl rfl fun ac9 hf9 => ?_)
  refine seq_one (op_skip hf9 rfl rfl rfl rfl fun ac10 hf10 => ?_)
  refine seq_one (op_skip hf10 rfl rfl rfl rfl fun ac11 hf11 => ?_)
  refine seq_one (op_val (v := .bool true) hf11 rfl rfl rfl rfl rfl rfl (r_pickT rfl rfl) fun ac12 hf12 => ?_)
  refine seq_one (op_val (v := .bool true) hf12 rfl rfl rfl rfl rfl rfl (r_assign rfl) fun ac13 hf13 => ?_)
  refine seq_end ?_
  clear ac2 hf2 ac3 hf3 ac4 hf4 ac5 hf5 ac6 hf6 ac7 hf7 ac8 hf8 ac9 hf9 ac10 hf10 ac11 hf11 ac12 hf12
  refine then_normal ?_
  refine wp_ret ?_
  refine post1 rfl hf13 rfl ⟨?_, hI1.done (fresh_keys (ks := []) rfl fk_nil)⟩
  rfl
set_option maxHeartbeats 8000000 in
theorem none_zero  (b : Nat) (w : World) (h0_ : Has [(b, #[.int .i64 0, .int .i64 0, .int .i64 0, .int .i64 0, .int .i64 0, .int .i64 0, .int .i64 0], 58)] w) : Calls Try.prog 20 [.pointer (some ⟨b, 0, none⟩)].toArray w fun e w' => e = .returned (.bool true) ∧ Inv w [] w' := by
  have hI1 := Inv.startS h0_ (List.pairwise_singleton _ _)
  refine enter (n := 13) Try.func20 rfl rfl rfl ?_
  intro ac1 hf1
  refine code_seq ?_
  refine seq_start (l := [0]) rfl ?_
  refine seq_one (op_val (v := .bool false) hf1 rfl rfl rfl rfl rfl rfl (r_assign rfl) fun ac2 hf2 => ?_)
  refine seq_end ?_
  clear ac1 hf1
  refine then_normal ?_
  refine code_seq ?_
  refine seq_start (l := [0, 1, 2, 3, 4, 5, 6, 7, 8, 9, 10]) rfl ?_
  refine seq_one (op_val (v := .pointer (some ⟨b, 0, none⟩)) hf2 rfl rfl rfl rfl rfl rfl (r_move rfl) fun ac3 hf3 => ?_)
  refine seq_one (op_val (v := .bool false) hf3 rfl rfl rfl rfl rfl rfl (r_eqNil up_24 rfl rfl rfl) fun ac4 hf4 => ?_)
  refine seq_one (op_val (v := .bool false) hf4 rfl rfl rfl rfl rfl rfl (r_move rfl) fun ac5 hf5 => ?_)
  refine seq_one (op_val (v := .pointer (some ⟨b, 0, none⟩)) hf5 rfl rfl rfl rfl rfl rfl (r_move rfl) fun ac6 hf6 => ?_)
  refine seq_one (op_val (v := .pointer (some ⟨b, 0, none⟩)) hf6 rfl rfl rfl rfl rfl rfl (r_nilCheck rfl) fun ac7 hf7 => ?_)
  refine seq_one (op_val (v := .pointer (some ⟨b, 0, none⟩)) hf7 rfl rfl rfl rfl rfl rfl (r_fieldAddr fi_58_0 rfl rfl) fun ac8 hf8 => ?_)
  refine seq_one (op_val (v := .pointer (some ⟨b, 0, none⟩)) hf8 rfl rfl rfl rfl rfl rfl (r_indexAddr (i := 0) ar_22 rfl rfl rfl (by decide) rfl) fun ac9 hf9 => ?_)
  refine seq_one (op_val (v := .int .i64 0) hf9 rfl rfl rfl rfl rfl rfl (r_load ag_3 rfl (hI1.at 0 rfl) rfl) fun ac10 hf10 => ?_)
  refine seq_one (op_val (v := .bool true) hf10 rfl rfl rfl rfl rfl rfl (r_eqlC rfl rfl (by decide)) fun ac11 hf11 => ?_)
  refine seq_one (op_val (v := .bool true) hf11 rfl rfl rfl rfl rfl rfl (r_pickF rfl rfl) fun ac12 hf12 => ?_)
  refine seq_one (op_val (v := .bool true) hf12 rfl rfl rfl rfl rfl rfl (r_assign rfl) fun ac13 hf13 => ?_)
  refine seq_end ?_
  clear ac2 hf2 ac3 hf3 ac4 hf4 ac5 hf5 ac6 hf6 ac7 hf7 ac8 hf8 ac9 hf9 ac10 hf10 ac11 hf11 ac12 hf12
  refine then_normal ?_
  refine wp_ret ?_
  exact post1 rfl hf13 rfl ⟨rfl, (hI1).unread h0_⟩
set_option maxHeartbeats 8000000 in
theorem pick_nil (h0 h1 h2 : Bool) : Pur Try.prog 12 [.pointer none, .agg #[.bool h0, .bool h1, .bool h2]] (.tuple #[.int .i64 0, .bool false]) := by
  intro w
  have hI1 := Inv.start w
  refine enter (n := 76) Try.func12 rfl rfl rfl ?_
  intro ac1 hf1
  refine code_seq ?_
  refine seq_start (l := [0, 1, 2]) rfl ?_
  refine seq_one (op_box hf1 rfl rfl rfl rfl hI1 fun ac2 b1 wd1 hb1 hI2 hf2 => ?_)
  have hI3 : Inv w [(b1, #[.bool h0, .bool h1, .bool h2], 33)] wd1 := hI2
  refine seq_one (op_val (v := .int .i64 0) hf2 rfl rfl rfl rfl rfl rfl (r_assign rfl) fun ac3 hf3 => ?_)
  refine seq_one (op_val (v := .bool false) hf3 rfl rfl rfl rfl rfl rfl (r_assign rfl) fun ac4 hf4 => ?_)
  refine seq_end ?_
  clear ac1 hI1 hf1 hI2 ac2 hf2 ac3 hf3
  refine then_normal ?_
  refine code_seq ?_
  refine code_seq ?_
  refine seq_start (l := [0, 1, 2, 3, 4, 5, 6]) rfl ?_
  refine seq_one (op_val (v := .pointer none) hf4 rfl rfl rfl rfl rfl rfl (r_move rfl) fun ac5 hf5 => ?_)
  refine seq_one (op_pure hf5 rfl rfl rfl rfl ca_20 none_nil hI3 fun ac6 wd2 hI4 hf6 => ?_)
  refine seq_one (op_val (v := .bool true) hf6 rfl rfl rfl rfl rfl rfl (r_move rfl) fun ac7 hf7 => ?_)
  refine seq_one (op_skip hf7 rfl rfl rfl rfl fun ac8 hf8 => ?_)
  refine seq_one (op_skip hf8 rfl rfl rfl rfl fun ac9 hf9 => ?_)
  refine seq_one (op_skip hf9 rfl rfl rfl rfl fun ac10 hf10 => ?_)
  refine seq_one (op_val (v := .bool true) hf10 rfl rfl rfl rfl rfl rfl (r_pickT rfl rfl) fun ac11 hf11 => ?_)
  refine seq_end ?_
  clear ac4 hf4 ac5 wd1 hI3 hf5 ac6 hf6 ac7 hf7 ac8 hf8 ac9 hf9 ac10 hf10
  refine then_normal ?_
  refine code_if_true hf11 rfl ?_
  refine code_seq ?_
  refine seq_start (l := [0, 1]) rfl ?_
  refine seq_one (op_val (v := .int .i64 0) hf11 rfl rfl rfl rfl rfl rfl (r_assign rfl) fun ac12 hf12 => ?_)
  refine seq_one (op_val (v := .bool false) hf12 rfl rfl rfl rfl rfl rfl (r_assign rfl) fun ac13 hf13 => ?_)
  refine seq_end ?_
  clear ac11 hf11 ac12 hf12
  refine then_normal ?_
  refine wp_ret ?_
  refine then_ret ?_
  refine post2 rfl hf13 rfl rfl ⟨?_, hI4.done (fresh_keys (ks := [b1]) rfl (fk_cons hb1 fk_nil))⟩
  rfl
set_option maxHeartbeats 8000000 in
theorem pick_zero (h0 h1 h2 : Bool) (b : Nat) (w : World) (h0_ : Has [(b, #[.int .i64 0, .int .i64 0, .int .i64 0, .int .i64 0, .int .i64 0, .int .i64 0, .int .i64 0], 58)] w) : Calls Try.prog 12 [.pointer (some ⟨b, 0, none⟩), .agg #[.bool h0, .bool h1, .bool h2]].toArray w fun e w' => e = .returned (.tuple #[.int .i64 0, .bool false]) ∧ Inv w [] w' := by
  have hI1 := Inv.startS h0_ (List.pairwise_singleton _ _)
  refine enter (n := 76) Try.func12 rfl rfl rfl ?_
  intro ac1 hf1
  refine code_seq ?_
  refine seq_start (l := [0, 1, 2]) rfl ?_
  refine seq_one (op_box hf1 rfl rfl rfl rfl hI1 fun ac2 b1 wd1 hb1 hI2 hf2 => ?_)
  have hI3 : Inv w [(b, #[.int .i64 0, .int .i64 0, .int .i64 0, .int .i64 0, .int .i64 0, .int .i64 0, .int .i64 0], 58), (b1, #[.bool h0, .bool h1, .bool h2], 33)] wd1 := hI2
  refine seq_one (op_val (v := .int .i64 0) hf2 rfl rfl rfl rfl rfl rfl (r_assign rfl) fun ac3 hf3 => ?_)
  refine seq_one (op_val (v := .bool false) hf3 rfl rfl rfl rfl rfl rfl (r_assign rfl) fun ac4 hf4 => ?_)
  refine seq_end ?_
  clear ac1 hI1 hf1 hI2 ac2 hf2 ac3 hf3
  refine then_normal ?_
  refine code_seq ?_
  refine code_seq ?_
  refine seq_start (l := [0, 1, 2, 3, 4, 5, 6]) rfl ?_
  refine seq_one (op_val (v := .pointer (some ⟨b, 0, none⟩)) hf4 rfl rfl rfl rfl rfl rfl (r_move rfl) fun ac5 hf5 => ?_)
  refine seq_one (op_pureW hf5 rfl rfl rfl rfl ca_20 (none_zero b _ (Has.cons (hI3.at 0 rfl) Has.nil)) hI3 fun ac6 wd2 hI4 hf6 => ?_)
  refine seq_one (op_val (v := .bool true) hf6 rfl rfl rfl rfl rfl rfl (r_move rfl) fun ac7 hf7 => ?_)
  refine seq_one (op_skip hf7 rfl rfl rfl rfl fun ac8 hf8 => ?_)
  refine seq_one (op_skip hf8 rfl rfl rfl rfl fun ac9 hf9 => ?_)
  refine seq_one (op_skip hf9 rfl rfl rfl rfl fun ac10 hf10 => ?_)
  refine seq_one (op_val (v := .bool true) hf10 rfl rfl rfl rfl rfl rfl (r_pickT rfl rfl) fun ac11 hf11 => ?_)
  refine seq_end ?_
  clear ac4 hf4 ac5 wd1 hI3 hf5 ac6 hf6 ac7 hf7 ac8 hf8 ac9 hf9 ac10 hf10
  refine then_normal ?_
  refine code_if_true hf11 rfl ?_
  refine code_seq ?_
  refine seq_start (l := [0, 1]) rfl ?_
  refine seq_one (op_val (v := .int .i64 0) hf11 rfl rfl rfl rfl rfl rfl (r_assign rfl) fun ac12 hf12 => ?_)
  refine seq_one (op_val (v := .bool false) hf12 rfl rfl rfl rfl rfl rfl (r_assign rfl) fun ac13 hf13 => ?_)
  refine seq_end ?_
  clear ac11 hf11 ac12 hf12
  refine then_normal ?_
  refine wp_ret ?_
  refine then_ret ?_
  exact post2 rfl hf13 rfl rfl ⟨rfl, (Inv.drop (A := [(b, #[.int .i64 0, .int .i64 0, .int .i64 0, .int .i64 0, .int .i64 0, .int .i64 0, .int .i64 0], 58)]) (B := [(b1, #[.bool h0, .bool h1, .bool h2], 33)]) hI4 (fresh_keys (ks := [b1]) rfl (fk_cons hb1 fk_nil))).unread h0_⟩
set_option maxHeartbeats 8000000 in
theorem spend_nil (m : Int) : Pur Try.prog 14 [.pointer none, .int .i64 m] (.int .i64 1) := by
  intro w
  have hI1 := Inv.start w
  refine enter (n := 41) Try.func14 rfl rfl rfl ?_
  intro ac1 hf1
  refine code_seq ?_
  refine seq_start (l := [0]) rfl ?_
  refine seq_one (op_val (v := .int .i64 0) hf1 rfl rfl rfl rfl rfl rfl (r_assign rfl) fun ac2 hf2 => ?_)
  refine seq_end ?_
  clear ac1 hf1
  refine then_normal ?_
  refine code_seq ?_
  refine wp_block ?_
  refine code_seq ?_
  refine seq_start (l := [0, 1, 2]) rfl ?_
  refine seq_one (op_val (v := .pointer none) hf2 rfl rfl rfl rfl rfl rfl (r_move rfl) fun ac3 hf3 => ?_)
  refine seq_one (op_pure hf3 rfl rfl rfl rfl ca_20 none_nil hI1 fun ac4 wd1 hI2 hf4 => ?_)
  refine seq_one (op_val (v := .bool true) hf4 rfl rfl rfl rfl rfl rfl (r_assign rfl) fun ac5 hf5 => ?_)
  refine seq_end ?_
  clear ac2 hf2 ac3 hI1 hf3 ac4 hf4
  refine then_normal ?_
  refine code_if_true hf5 rfl ?_
  refine code_seq ?_
  refine seq_start (l := [0]) rfl ?_
  refine seq_one (op_val (v := .int .i64 1) hf5 rfl rfl rfl rfl rfl rfl (r_assign rfl) fun ac6 hf6 => ?_)
  refine seq_end ?_
  clear ac5 hf5
  refine then_normal ?_
  refine wp_ret ?_
  refine block_ret ?_
  refine then_ret ?_
  refine post1 rfl hf6 rfl ⟨?_, hI2.done (fresh_keys (ks := []) rfl fk_nil)⟩
  rfl
set_option maxHeartbeats 8000000 in
theorem spend_zero (m : Int) (b : Nat) (w : World) (h0_ : Has [(b, #[.int .i64 0, .int .i64 0, .int .i64 0, .int .i64 0, .int .i64 0, .int .i64 0, .int .i64 0], 58)] w) : Calls Try.prog 14 [.pointer (some ⟨b, 0, none⟩), .int .i64 m].toArray w fun e w' => e = .returned (.int .i64 1) ∧ Inv w [] w' := by
  have hI1 := Inv.startS h0_ (List.pairwise_singleton _ _)
  refine enter (n := 41) Try.func14 rfl rfl rfl ?_
  intro ac1 hf1
  refine code_seq ?_
  refine seq_start (l := [0]) rfl ?_
  refine seq_one (op_val (v := .int .i64 0) hf1 rfl rfl rfl rfl rfl rfl (r_assign rfl) fun ac2 hf2 => ?_)
  refine seq_end ?_
  clear ac1 hf1
  refine then_normal ?_
  refine code_seq ?_
  refine wp_block ?_
  refine code_seq ?_
  refine seq_start (l := [0, 1, 2]) rfl ?_
  refine seq_one (op_val (v := .pointer (some ⟨b, 0, none⟩)) hf2 rfl rfl rfl rfl rfl rfl (r_move rfl) fun ac3 hf3 => ?_)
  refine seq_one (op_pureW hf3 rfl rfl rfl rfl ca_20 (none_zero b _ (Has.cons (hI1.at 0 rfl) Has.nil)) hI1 fun ac4 wd1 hI2 hf4 => ?_)
  refine seq_one (op_val (v := .bool true) hf4 rfl rfl rfl rfl rfl rfl (r_assign rfl) fun ac5 hf5 => ?_)
  refine seq_end ?_
  clear ac2 hf2 ac3 hI1 hf3 ac4 hf4
  refine then_normal ?_
  refine code_if_true hf5 rfl ?_
  refine code_seq ?_
  refine seq_start (l := [0]) rfl ?_
  refine seq_one (op_val (v := .int .i64 1) hf5 rfl rfl rfl rfl rfl rfl (r_assign rfl) fun ac6 hf6 => ?_)
  refine seq_end ?_
  clear ac5 hf5
  refine then_normal ?_
  refine wp_ret ?_
  refine block_ret ?_
  refine then_ret ?_
  exact post1 rfl hf6 rfl ⟨rfl, (hI2).unread h0_⟩
set_option maxHeartbeats 8000000 in
theorem now_nil  : Pur Try.prog 16 [.pointer none] (.int .i64 0) := by
  intro w
  have hI1 := Inv.start w
  refine enter (n := 9) Try.func16 rfl rfl rfl ?_
  intro ac1 hf1
  refine code_seq ?_
  refine seq_start (l := [0]) rfl ?_
  refine seq_one (op_val (v := .int .i64 0) hf1 rfl rfl rfl rfl rfl rfl (r_assign rfl) fun ac2 hf2 => ?_)
  refine seq_end ?_
  clear ac1 hf1
  refine then_normal ?_
  refine code_seq ?_
  refine code_seq ?_
  refine seq_start (l := [0, 1]) rfl ?_
  refine seq_one (op_val (v := .pointer none) hf2 rfl rfl rfl rfl rfl rfl (r_move rfl) fun ac3 hf3 => ?_)
  refine seq_one (op_pure hf3 rfl rfl rfl rfl ca_20 none_nil hI1 fun ac4 wd1 hI2 hf4 => ?_)
  refine seq_end ?_
  clear ac2 hf2 ac3 hI1 hf3
  refine then_normal ?_
  refine code_if_true hf4 rfl ?_
  refine code_seq ?_
  refine seq_start (l := [0]) rfl ?_
  refine seq_one (op_val (v := .int .i64 0) hf4 rfl rfl rfl rfl rfl rfl (r_assign rfl) fun ac5 hf5 => ?_)
  refine seq_end ?_
  clear ac4 hf4
  refine then_normal ?_
  refine wp_ret ?_
  refine then_ret ?_
  refine post1 rfl hf5 rfl ⟨?_, hI2.done (fresh_keys (ks := []) rfl fk_nil)⟩
  rfl
set_option maxHeartbeats 8000000 in
theorem now_zero  (b : Nat) (w : World) (h0_ : Has [(b, #[.int .i64 0, .int .i64 0, .int .i64 0, .int .i64 0, .int .i64 0, .int .i64 0, .int .i64 0], 58)] w) : Calls Try.prog 16 [.pointer (some ⟨b, 0, none⟩)].toArray w fun e w' => e = .returned (.int .i64 0) ∧ Inv w [] w' := by
  have hI1 := Inv.startS h0_ (List.pairwise_singleton _ _)
  refine enter (n := 9) Try.func16 rfl rfl rfl ?_
  intro ac1 hf1
  refine code_seq ?_
  refine seq_start (l := [0]) rfl ?_
  refine seq_one (op_val (v := .int .i64 0) hf1 rfl rfl rfl rfl rfl rfl (r_assign rfl) fun ac2 hf2 => ?_)
  refine seq_end ?_
  clear ac1 hf1
  refine then_normal ?_
  refine code_seq ?_
  refine code_seq ?_
  refine seq_start (l := [0, 1]) rfl ?_
  refine seq_one (op_val (v := .pointer (some ⟨b, 0, none⟩)) hf2 rfl rfl rfl rfl rfl rfl (r_move rfl) fun ac3 hf3 => ?_)
  refine seq_one (op_pureW hf3 rfl rfl rfl rfl ca_20 (none_zero b _ (Has.cons (hI1.at 0 rfl) Has.nil)) hI1 fun ac4 wd1 hI2 hf4 => ?_)
  refine seq_end ?_
  clear ac2 hf2 ac3 hI1 hf3
  refine then_normal ?_
  refine code_if_true hf4 rfl ?_
  refine code_seq ?_
  refine seq_start (l := [0]) rfl ?_
  refine seq_one (op_val (v := .int .i64 0) hf4 rfl rfl rfl rfl rfl rfl (r_assign rfl) fun ac5 hf5 => ?_)
  refine seq_end ?_
  clear ac4 hf4
  refine then_normal ?_
  refine wp_ret ?_
  refine then_ret ?_
  exact post1 rfl hf5 rfl ⟨rfl, (hI2).unread h0_⟩
set_option maxHeartbeats 8000000 in
theorem credits_nil  : Pur Try.prog 17 [.pointer none] (.agg #[.int .i64 0, .int .i64 0, .int .i64 0]) := by
  intro w
  have hI1 := Inv.start w
  refine enter (n := 10) Try.func17 rfl rfl rfl ?_
  intro ac1 hf1
  refine code_seq ?_
  refine seq_start (l := [0]) rfl ?_
  refine seq_one (op_alloc hf1 rfl rfl rfl ze_22 hI1 fun ac2 b1 wd1 hb1 hI2 hf2 => ?_)
  have hI3 : Inv w [(b1, #[.int .i64 0, .int .i64 0, .int .i64 0], 22)] wd1 := hI2
  refine seq_end ?_
  clear ac1 hI1 hf1 hI2
  refine then_normal ?_
  refine code_seq ?_
  refine code_seq ?_
  refine seq_start (l := [0, 1]) rfl ?_
  refine seq_one (op_val (v := .pointer none) hf2 rfl rfl rfl rfl rfl rfl (r_move rfl) fun ac3 hf3 => ?_)
  refine seq_one (op_pure hf3 rfl rfl rfl rfl ca_20 none_nil hI3 fun ac4 wd2 hI4 hf4 => ?_)
  refine seq_end ?_
  clear ac2 hf2 ac3 wd1 hI3 hf3
  refine then_normal ?_
  refine code_if_true hf4 rfl ?_
  refine code_seq ?_
  refine seq_start (l := [0, 1]) rfl ?_
  refine seq_one (op_val (v := .agg #[.int .i64 0, .int .i64 0, .int .i64 0]) hf4 rfl rfl rfl rfl rfl rfl (r_build (v := .agg #[.int .i64 0, .int .i64 0, .int .i64 0]) rfl (fun _ => by kernel_rfl)) fun ac5 hf5 => ?_)
  refine seq_one (op_storeW (cells := #[.int .i64 0, .int .i64 0, .int .i64 0]) 0 hf5 rfl rfl rfl rfl rfl sz_22 rfl rfl hI4 rfl rfl fun wd3 hI5 => ?_)
  refine seq_end ?_
  clear ac4 hf4 wd2 hI4
  refine then_normal ?_
  refine wp_ret ?_
  refine then_ret ?_
  refine postC rfl hf5 rfl ag_22 sz_22 (hI5.at 0 rfl) rfl ⟨?_, hI5.done (fresh_keys (ks := [b1]) rfl (fk_cons hb1 fk_nil))⟩
  rfl
set_option maxHeartbeats 8000000 in
theorem credits_zero  (b : Nat) (w : World) (h0_ : Has [(b, #[.int .i64 0, .int .i64 0, .int .i64 0, .int .i64 0, .int .i64 0, .int .i64 0, .int .i64 0], 58)] w) : Calls Try.prog 17 [.pointer (some ⟨b, 0, none⟩)].toArray w fun e w' => e = .returned (.agg #[.int .i64 0, .int .i64 0, .int .i64 0]) ∧ Inv w [] w' := by
  have hI1 := Inv.startS h0_ (List.pairwise_singleton _ _)
  refine enter (n := 10) Try.func17 rfl rfl rfl ?_
  intro ac1 hf1
  refine code_seq ?_
  refine seq_start (l := [0]) rfl ?_
  refine seq_one (op_alloc hf1 rfl rfl rfl ze_22 hI1 fun ac2 b1 wd1 hb1 hI2 hf2 => ?_)
  have hI3 : Inv w [(b, #[.int .i64 0, .int .i64 0, .int .i64 0, .int .i64 0, .int .i64 0, .int .i64 0, .int .i64 0], 58), (b1, #[.int .i64 0, .int .i64 0, .int .i64 0], 22)] wd1 := hI2
  refine seq_end ?_
  clear ac1 hI1 hf1 hI2
  refine then_normal ?_
  refine code_seq ?_
  refine code_seq ?_
  refine seq_start (l := [0, 1]) rfl ?_
  refine seq_one (op_val (v := .pointer (some ⟨b, 0, none⟩)) hf2 rfl rfl rfl rfl rfl rfl (r_move rfl) fun ac3 hf3 => ?_)
  refine seq_one (op_pureW hf3 rfl rfl rfl rfl ca_20 (none_zero b _ (Has.cons (hI3.at 0 rfl) Has.nil)) hI3 fun ac4 wd2 hI4 hf4 => ?_)
  refine seq_end ?_
  clear ac2 hf2 ac3 wd1 hI3 hf3
  refine then_normal ?_
  refine code_if_true hf4 rfl ?_
  refine code_seq ?_
  refine seq_start (l := [0, 1]) rfl ?_
  refine seq_one (op_val (v := .agg #[.int .i64 0, .int .i64 0, .int .i64 0]) hf4 rfl rfl rfl rfl rfl rfl (r_build (v := .agg #[.int .i64 0, .int .i64 0, .int .i64 0]) rfl (fun _ => by kernel_rfl)) fun ac5 hf5 => ?_)
  refine seq_one (op_storeW (cells := #[.int .i64 0, .int .i64 0, .int .i64 0]) 1 hf5 rfl rfl rfl rfl rfl sz_22 rfl rfl hI4 rfl rfl fun wd3 hI5 => ?_)
  refine seq_end ?_
  clear ac4 hf4 wd2 hI4
  refine then_normal ?_
  refine wp_ret ?_
  refine then_ret ?_
  exact postC rfl hf5 rfl ag_22 sz_22 (hI5.at 1 rfl) rfl ⟨rfl, (Inv.drop (A := [(b, #[.int .i64 0, .int .i64 0, .int .i64 0, .int .i64 0, .int .i64 0, .int .i64 0, .int .i64 0], 58)]) (B := [(b1, #[.int .i64 0, .int .i64 0, .int .i64 0], 22)]) hI5 (fresh_keys (ks := [b1]) rfl (fk_cons hb1 fk_nil))).unread h0_⟩
theorem spE_bad {m : Int} {s : St} (h : m < 1 ∨ m > 65536) : spE m s = 2 ∧ spS m s = s := by
  unfold spE spS
  rw [if_pos (by omega), if_pos (by omega)]; exact ⟨rfl, rfl⟩
theorem spE_init {w0 w1 w2 m : Int} (hv : WOK w0 w1 w2) (h1 : 1 ≤ m) (h2 : m ≤ 65536) : spE m ⟨w0, w1, w2, 0⟩ = 0 := by
  have := hv.l0
  unfold spE
  rw [if_neg]
  simp only [St.cr, if_true]; omega
theorem none_102a {w0 w1 w2 m : Int} (hv : WOK w0 w1 w2) (h : decide (m ≥ 1) = true) : ((spE m ⟨w0, w1, w2, 0⟩ == 0) == decide (m ≤ 65536)) = true := by
  have h1 := of_decide_eq_true h
  by_cases h2 : m ≤ 65536
  · rw [spE_init hv h1 h2, decide_eq_true h2]; rfl
  · rw [(spE_bad (.inr (by omega))).1, decide_eq_false h2]; rfl
theorem none_102b {w0 w1 w2 m : Int} (h : decide (m ≥ 1) = false) : ((spE m ⟨w0, w1, w2, 0⟩ == 0) == false) = true := by
  have h1 := of_decide_eq_false h
  rw [(spE_bad (.inl (by omega))).1]; rfl

set_option maxHeartbeats 8000000 in
theorem bandsNone_walk (w0 w1 w2 : Int) (h0 h1 h2 : Bool) (m : Int) (w : World) : Calls Try.prog 8 [.agg #[.int .i64 w0, .int .i64 w1, .int .i64 w2], .agg #[.bool h0, .bool h1, .bool h2], .int .i64 m].toArray w fun e w' => e = .returned (.bool true) ∧ Inv w [] w' := by
  have hI1 := Inv.start w
  refine enter (n := 118) Try.func8 rfl rfl rfl ?_
  intro ac1 hf1
  refine code_seq ?_
  refine seq_start (l := [0, 1, 2]) rfl ?_
  refine seq_one (op_box hf1 rfl rfl rfl rfl hI1 fun ac2 b1 wd1 hb1 hI2 hf2 => ?_)
  have hI3 : Inv w [(b1, #[.int .i64 w0, .int .i64 w1, .int .i64 w2], 22)] wd1 := hI2
  refine seq_one (op_box hf2 rfl rfl rfl rfl hI3 fun ac3 b2 wd2 hb2 hI4 hf3 => ?_)
  have hI5 : Inv w [(b1, #[.int .i64 w0, .int .i64 w1, .int .i64 w2], 22), (b2, #[.bool h0, .bool h1, .bool h2], 33)] wd2 := hI4
  refine seq_one (op_val (v := .bool false) hf3 rfl rfl rfl rfl rfl rfl (r_assign rfl) fun ac4 hf4 => ?_)
  refine seq_end ?_
  clear ac1 hI1 hf1 hI2 ac2 wd1 hI3 hf2 hI4 ac3 hf3
  refine then_normal ?_
  refine code_seq ?_
  refine code_seq ?_
  refine seq_start (l := [0, 1, 2, 3, 4]) rfl ?_
  refine seq_one (op_val (v := .agg #[.int .i64 0, .int .i64 0, .int .i64 0, .int .i64 0, .int .i64 0, .int .i64 0, .int .i64 0]) hf4 rfl rfl rfl rfl rfl rfl (r_build (v := .agg #[.int .i64 0, .int .i64 0, .int .i64 0, .int .i64 0, .int .i64 0, .int .i64 0, .int .i64 0]) rfl (fun _ => by kernel_rfl)) fun ac5 hf5 => ?_)
  refine seq_one (op_box hf5 rfl rfl rfl rfl hI5 fun ac6 b3 wd3 hb3 hI6 hf6 => ?_)
  have hI7 : Inv w [(b1, #[.int .i64 w0, .int .i64 w1, .int .i64 w2], 22), (b2, #[.bool h0, .bool h1, .bool h2], 33), (b3, #[.int .i64 0, .int .i64 0, .int .i64 0, .int .i64 0, .int .i64 0, .int .i64 0, .int .i64 0], 58)] wd3 := hI6
  refine seq_one (op_bslice (s := 24) (cells := #[.pointer none, .pointer (some ⟨b3, 0, none⟩)]) hf6 rfl rfl rfl rfl rfl (fun _ => by kernel_rfl) hI7 fun ac7 b4 wd4 hb4 hI8 hf7 => ?_)
  have hI9 : Inv w [(b1, #[.int .i64 w0, .int .i64 w1, .int .i64 w2], 22), (b2, #[.bool h0, .bool h1, .bool h2], 33), (b3, #[.int .i64 0, .int .i64 0, .int .i64 0, .int .i64 0, .int .i64 0, .int .i64 0, .int .i64 0], 58), (b4, #[.pointer none, .pointer (some ⟨b3, 0, none⟩)], 24)] wd4 := hI8
  refine seq_one (op_val (v := .int .i64 2) hf7 rfl rfl rfl rfl rfl rfl (r_len sl_59 rfl) fun ac8 hf8 => ?_)
  refine seq_one (op_val (v := .int .i64 0) hf8 rfl rfl rfl rfl rfl rfl (r_move rfl) fun ac9 hf9 => ?_)
  refine seq_end ?_
  clear ac4 hf4 ac5 wd2 hI5 hf5 hI6 ac6 wd3 hI7 hf6 hI8 ac7 hf7 ac8 hf8
  refine then_normal ?_
  refine wp_block ?_
  refine wp_loop_rounds 4 ?_
  refine rounds_go ?_
  refine code_seq ?_
  refine seq_start (l := [0]) rfl ?_
  refine seq_one (op_val (v := .bool true) hf9 rfl rfl rfl rfl rfl rfl (r_lssC rfl rfl (by decide)) fun ac10 hf10 => ?_)
  refine seq_end ?_
  clear ac9 hf9
  refine then_normal ?_
  refine code_seq ?_
  refine code_if_true hf10 rfl ?_
  refine wp_skip ?_
  refine then_normal ?_
  refine code_seq ?_
  refine wp_block ?_
  refine code_seq ?_
  refine seq_start (l := [0, 1, 2]) rfl ?_
  refine seq_one (op_val (v := .pointer (some ⟨b4, 0, none⟩)) hf10 rfl rfl rfl rfl rfl rfl (r_indexAddrS (i := 0) sl_59 rfl rfl rfl (by decide) rfl) fun ac11 hf11 => ?_)
  refine seq_one (op_val (v := .pointer none) hf11 rfl rfl rfl rfl rfl rfl (r_load ag_24 rfl (hI9.at 3 rfl) rfl) fun ac12 hf12 => ?_)
  refine seq_one (op_val (v := .pointer none) hf12 rfl rfl rfl rfl rfl rfl (r_assign rfl) fun ac13 hf13 => ?_)
  refine seq_end ?_
  clear ac10 hf10 ac11 hf11 ac12 hf12
  refine then_normal ?_
  refine code_seq ?_
  refine seq_start (l := [0, 1, 2, 3, 4, 5, 6, 7]) rfl ?_
  refine seq_one (op_val (v := .pointer none) hf13 rfl rfl rfl rfl rfl rfl (r_move rfl) fun ac14 hf14 => ?_)
  refine seq_one (op_val (v := .agg #[.bool h0, .bool h1, .bool h2]) hf14 rfl rfl rfl rfl rfl rfl (r_loadW ag_33 sz_33 rfl (hI9.at 1 rfl) rfl) fun ac15 hf15 => ?_)
  refine seq_one (op_pure hf15 rfl rfl rfl rfl ca_12 (pick_nil h0 h1 h2) hI9 fun ac16 wd5 hI10 hf16 => ?_)
  refine seq_one (op_val (v := .tuple #[.int .i64 0, .bool false]) hf16 rfl rfl rfl rfl rfl rfl (r_move rfl) fun ac17 hf17 => ?_)
  refine seq_one (op_val (v := .int .i64 0) hf17 rfl rfl rfl rfl rfl rfl (r_extract rfl rfl) fun ac18 hf18 => ?_)
  refine seq_one (op_val (v := .bool false) hf18 rfl rfl rfl rfl rfl rfl (r_extract rfl rfl) fun ac19 hf19 => ?_)
  refine seq_one (op_val (v := .int .i64 0) hf19 rfl rfl rfl rfl rfl rfl (r_assign rfl) fun ac20 hf20 => ?_)
  refine seq_one (op_val (v := .bool false) hf20 rfl rfl rfl rfl rfl rfl (r_assign rfl) fun ac21 hf21 => ?_)
  refine seq_end ?_
  clear ac13 hf13 ac14 hf14 ac15 wd4 hI9 hf15 ac16 hf16 ac17 hf17 ac18 hf18 ac19 hf19 ac20 hf20
  refine then_normal ?_
  refine code_seq ?_
  refine seq_start (l := [0, 1, 2, 3, 4, 5, 6, 7, 8, 9, 10, 11, 12, 13, 14, 15, 16, 17, 18, 19]) rfl ?_
  refine seq_one (op_val (v := .bool false) hf21 rfl rfl rfl rfl rfl rfl (r_move rfl) fun ac22 hf22 => ?_)
  refine seq_one (op_val (v := .bool false) hf22 rfl rfl rfl rfl rfl rfl (r_move rfl) fun ac23 hf23 => ?_)
  refine seq_one (op_val (v := .int .i64 0) hf23 rfl rfl rfl rfl rfl rfl (r_move rfl) fun ac24 hf24 => ?_)
  refine seq_one (op_val (v := .pointer none) hf24 rfl rfl rfl rfl rfl rfl (r_move rfl) fun ac25 hf25 => ?_)
  refine seq_one (op_pure hf25 rfl rfl rfl rfl ca_16 (now_nil ) hI10 fun ac26 wd6 hI11 hf26 => ?_)
  refine seq_one (op_val (v := .int .i64 0) hf26 rfl rfl rfl rfl rfl rfl (r_add (c := 0) rfl rfl (by rfl)) fun ac27 hf27 => ?_)
  refine seq_one (op_val (v := .bool false) hf27 rfl rfl rfl rfl rfl rfl (r_neqC rfl rfl (by decide)) fun ac28 hf28 => ?_)
  refine seq_one (op_val (v := .bool false) hf28 rfl rfl rfl rfl rfl rfl (r_pickF rfl rfl) fun ac29 hf29 => ?_)
  refine seq_one (op_val (v := .bool false) hf29 rfl rfl rfl rfl rfl rfl (r_move rfl) fun ac30 hf30 => ?_)
  refine seq_one (op_val (v := .pointer none) hf30 rfl rfl rfl rfl rfl rfl (r_move rfl) fun ac31 hf31 => ?_)
  refine seq_one (op_val (v := .int .i64 m) hf31 rfl rfl rfl rfl rfl rfl (r_move rfl) fun ac32 hf32 => ?_)
  refine seq_one (op_pure hf32 rfl rfl rfl rfl ca_14 (spend_nil m) hI11 fun ac33 wd7 hI12 hf33 => ?_)
  refine seq_one (op_val (v := .bool false) hf33 rfl rfl rfl rfl rfl rfl (r_neqC rfl rfl (by decide)) fun ac34 hf34 => ?_)
  refine seq_one (op_val (v := .bool false) hf34 rfl rfl rfl rfl rfl rfl (r_pickF rfl rfl) fun ac35 hf35 => ?_)
  refine seq_one (op_val (v := .bool false) hf35 rfl rfl rfl rfl rfl rfl (r_move rfl) fun ac36 hf36 => ?_)
  refine seq_one (op_val (v := .pointer none) hf36 rfl rfl rfl rfl rfl rfl (r_move rfl) fun ac37 hf37 => ?_)
  refine seq_one (op_pure hf37 rfl rfl rfl rfl ca_17 (credits_nil ) hI12 fun ac38 wd8 hI13 hf38 => ?_)
  refine seq_one (op_val (v := .agg #[.int .i64 0, .int .i64 0, .int .i64 0]) hf38 rfl rfl rfl rfl rfl rfl (r_build (v := .agg #[.int .i64 0, .int .i64 0, .int .i64 0]) rfl (fun _ => by kernel_rfl)) fun ac39 hf39 => ?_)
  refine seq_one (op_val (v := .bool (!eqA (#[.int .i64 0, .int .i64 0, .int .i64 0]) (#[.int .i64 0, .int .i64 0, .int .i64 0]))) hf39 rfl rfl rfl rfl rfl rfl (r_neA sh_22 kt_22 rw_22 rfl zk_22 eg_22 rfl rfl ⟨⟨_, rfl, by decide⟩, ⟨_, rfl, by decide⟩, ⟨_, rfl, by decide⟩, trivial⟩ ⟨⟨_, rfl, by decide⟩, ⟨_, rfl, by decide⟩, ⟨_, rfl, by decide⟩, trivial⟩) fun ac40 hf40 => ?_)
  refine seq_one (op_val (v := .bool (!eqA (#[.int .i64 0, .int .i64 0, .int .i64 0]) (#[.int .i64 0, .int .i64 0, .int .i64 0]))) hf40 rfl rfl rfl rfl rfl rfl (r_pickF rfl rfl) fun ac41 hf41 => ?_)
  refine seq_end ?_
  clear ac21 hf21 ac22 hf22 ac23 hf23 ac24 hf24 ac25 wd5 hI10 hf25 ac26 hf26 ac27 hf27 ac28 hf28 ac29 hf29 ac30 hf30 ac31 hf31 ac32 wd6 hI11 hf32 ac33 hf33 ac34 hf34 ac35 hf35 ac36 hf36 ac37 wd7 hI12 hf37 ac38 hf38 ac39 hf39 ac40 hf40
  refine then_normal ?_
  have hf42 := hf41.know 51 (u := .bool false) rfl (congrArg Value.bool (by rw [eqA_true rfl]; rfl))
  refine code_if_false hf42 rfl ?_
  refine wp_skip ?_
  refine block_normal ?_
  refine then_normal ?_
  refine seq_start (l := [0, 1]) rfl ?_
  refine seq_one (op_val (v := .int .i64 1) hf42 rfl rfl rfl rfl rfl rfl (r_add (c := 1) rfl rfl (by rfl)) fun ac42 hf43 => ?_)
  refine seq_one (op_val (v := .int .i64 1) hf43 rfl rfl rfl rfl rfl rfl (r_move rfl) fun ac43 hf44 => ?_)
  refine seq_end ?_
  clear hf41 ac41 hf42 ac42 hf43
  refine then_normal ?_
  refine rounds_go ?_
  refine code_seq ?_
  refine seq_start (l := [0]) rfl ?_
  refine seq_one (op_val (v := .bool true) hf44 rfl rfl rfl rfl rfl rfl (r_lssC rfl rfl (by decide)) fun ac44 hf45 => ?_)
  refine seq_end ?_
  clear ac43 hf44
  refine then_normal ?_
  refine code_seq ?_
  refine code_if_true hf45 rfl ?_
  refine wp_skip ?_
  refine then_normal ?_
  refine code_seq ?_
  refine wp_block ?_
  refine code_seq ?_
  refine seq_start (l := [0, 1, 2]) rfl ?_
  refine seq_one (op_val (v := .pointer (some ⟨b4, 1, none⟩)) hf45 rfl rfl rfl rfl rfl rfl (r_indexAddrS (i := 1) sl_59 rfl rfl rfl (by decide) rfl) fun ac45 hf46 => ?_)
  refine seq_one (op_val (v := .pointer (some ⟨b3, 0, none⟩)) hf46 rfl rfl rfl rfl rfl rfl (r_load ag_24 rfl (hI13.at 3 rfl) rfl) fun ac46 hf47 => ?_)
  refine seq_one (op_val (v := .pointer (some ⟨b3, 0, none⟩)) hf47 rfl rfl rfl rfl rfl rfl (r_assign rfl) fun ac47 hf48 => ?_)
  refine seq_end ?_
  clear ac44 hf45 ac45 hf46 ac46 hf47
  refine then_normal ?_
  refine code_seq ?_
  refine seq_start (l := [0, 1, 2, 3, 4, 5, 6, 7]) rfl ?_
  refine seq_one (op_val (v := .pointer (some ⟨b3, 0, none⟩)) hf48 rfl rfl rfl rfl rfl rfl (r_move rfl) fun ac48 hf49 => ?_)
  refine seq_one (op_val (v := .agg #[.bool h0, .bool h1, .bool h2]) hf49 rfl rfl rfl rfl rfl rfl (r_loadW ag_33 sz_33 rfl (hI13.at 1 rfl) rfl) fun ac49 hf50 => ?_)
  refine seq_one (op_pureW hf50 rfl rfl rfl rfl ca_12 (pick_zero h0 h1 h2 b3 _ (Has.cons (hI13.at 2 rfl) Has.nil)) hI13 fun ac50 wd9 hI14 hf51 => ?_)
  refine seq_one (op_val (v := .tuple #[.int .i64 0, .bool false]) hf51 rfl rfl rfl rfl rfl rfl (r_move rfl) fun ac51 hf52 => ?_)
  refine seq_one (op_val (v := .int .i64 0) hf52 rfl rfl rfl rfl rfl rfl (r_extract rfl rfl) fun ac52 hf53 => ?_)
  refine seq_one (op_val (v := .bool false) hf53 rfl rfl rfl rfl rfl rfl (r_extract rfl rfl) fun ac53 hf54 => ?_)
  refine seq_one (op_val (v := .int .i64 0) hf54 rfl rfl rfl rfl rfl rfl (r_assign rfl) fun ac54 hf55 => ?_)
  refine seq_one (op_val (v := .bool false) hf55 rfl rfl rfl rfl rfl rfl (r_assign rfl) fun ac55 hf56 => ?_)
  refine seq_end ?_
  clear ac47 hf48 ac48 hf49 ac49 wd8 hI13 hf50 ac50 hf51 ac51 hf52 ac52 hf53 ac53 hf54 ac54 hf55
  refine then_normal ?_
  refine code_seq ?_
  refine seq_start (l := [0, 1, 2, 3, 4, 5, 6, 7, 8, 9, 10, 11, 12, 13, 14, 15, 16, 17, 18, 19]) rfl ?_
  refine seq_one (op_val (v := .bool false) hf56 rfl rfl rfl rfl rfl rfl (r_move rfl) fun ac56 hf57 => ?_)
  refine seq_one (op_val (v := .bool false) hf57 rfl rfl rfl rfl rfl rfl (r_move rfl) fun ac57 hf58 => ?_)
  refine seq_one (op_val (v := .int .i64 0) hf58 rfl rfl rfl rfl rfl rfl (r_move rfl) fun ac58 hf59 => ?_)
  refine seq_one (op_val (v := .pointer (some ⟨b3, 0, none⟩)) hf59 rfl rfl rfl rfl rfl rfl (r_move rfl) fun ac59 hf60 => ?_)
  refine seq_one (op_pureW hf60 rfl rfl rfl rfl ca_16 (now_zero  b3 _ (Has.cons (hI14.at 2 rfl) Has.nil)) hI14 fun ac60 wd10 hI15 hf61 => ?_)
  refine seq_one (op_val (v := .int .i64 0) hf61 rfl rfl rfl rfl rfl rfl (r_add (c := 0) rfl rfl (by rfl)) fun ac61 hf62 => ?_)
  refine seq_one (op_val (v := .bool false) hf62 rfl rfl rfl rfl rfl rfl (r_neqC rfl rfl (by decide)) fun ac62 hf63 => ?_)
  refine seq_one (op_val (v := .bool false) hf63 rfl rfl rfl rfl rfl rfl (r_pickF rfl rfl) fun ac63 hf64 => ?_)
  refine seq_one (op_val (v := .bool false) hf64 rfl rfl rfl rfl rfl rfl (r_move rfl) fun ac64 hf65 => ?_)
  refine seq_one (op_val (v := .pointer (some ⟨b3, 0, none⟩)) hf65 rfl rfl rfl rfl rfl rfl (r_move rfl) fun ac65 hf66 => ?_)
  refine seq_one (op_val (v := .int .i64 m) hf66 rfl rfl rfl rfl rfl rfl (r_move rfl) fun ac66 hf67 => ?_)
  refine seq_one (op_pureW hf67 rfl rfl rfl rfl ca_14 (spend_zero m b3 _ (Has.cons (hI15.at 2 rfl) Has.nil)) hI15 fun ac67 wd11 hI16 hf68 => ?_)
  refine seq_one (op_val (v := .bool false) hf68 rfl rfl rfl rfl rfl rfl (r_neqC rfl rfl (by decide)) fun ac68 hf69 => ?_)
  refine seq_one (op_val (v := .bool false) hf69 rfl rfl rfl rfl rfl rfl (r_pickF rfl rfl) fun ac69 hf70 => ?_)
  refine seq_one (op_val (v := .bool false) hf70 rfl rfl rfl rfl rfl rfl (r_move rfl) fun ac70 hf71 => ?_)
  refine seq_one (op_val (v := .pointer (some ⟨b3, 0, none⟩)) hf71 rfl rfl rfl rfl rfl rfl (r_move rfl) fun ac71 hf72 => ?_)
  refine seq_one (op_pureW hf72 rfl rfl rfl rfl ca_17 (credits_zero  b3 _ (Has.cons (hI16.at 2 rfl) Has.nil)) hI16 fun ac72 wd12 hI17 hf73 => ?_)
  refine seq_one (op_val (v := .agg #[.int .i64 0, .int .i64 0, .int .i64 0]) hf73 rfl rfl rfl rfl rfl rfl (r_build (v := .agg #[.int .i64 0, .int .i64 0, .int .i64 0]) rfl (fun _ => by kernel_rfl)) fun ac73 hf74 => ?_)
  refine seq_one (op_val (v := .bool (!eqA (#[.int .i64 0, .int .i64 0, .int .i64 0]) (#[.int .i64 0, .int .i64 0, .int .i64 0]))) hf74 rfl rfl rfl rfl rfl rfl (r_neA sh_22 kt_22 rw_22 rfl zk_22 eg_22 rfl rfl ⟨⟨_, rfl, by decide⟩, ⟨_, rfl, by decide⟩, ⟨_, rfl, by decide⟩, trivial⟩ ⟨⟨_, rfl, by decide⟩, ⟨_, rfl, by decide⟩, ⟨_, rfl, by decide⟩, trivial⟩) fun ac74 hf75 => ?_)
  refine seq_one (op_val (v := .bool (!eqA (#[.int .i64 0, .int .i64 0, .int .i64 0]) (#[.int .i64 0, .int .i64 0, .int .i64 0]))) hf75 rfl rfl rfl rfl rfl rfl (r_pickF rfl rfl) fun ac75 hf76 => ?_)
  refine seq_end ?_
  clear ac55 hf56 ac56 hf57 ac57 hf58 ac58 hf59 ac59 wd9 hI14 hf60 ac60 hf61 ac61 hf62 ac62 hf63 ac63 hf64 ac64 hf65 ac65 hf66 ac66 wd10 hI15 hf67 ac67 hf68 ac68 hf69 ac69 hf70 ac70 hf71 ac71 wd11 hI16 hf72 ac72 hf73 ac73 hf74 ac74 hf75
  refine then_normal ?_
  have hf77 := hf76.know 51 (u := .bool false) rfl (congrArg Value.bool (by rw [eqA_true rfl]; rfl))
  refine code_if_false hf77 rfl ?_
  refine wp_skip ?_
  refine block_normal ?_
  refine then_normal ?_
  refine seq_start (l := [0, 1]) rfl ?_
  refine seq_one (op_val (v := .int .i64 2) hf77 rfl rfl rfl rfl rfl rfl (r_add (c := 2) rfl rfl (by rfl)) fun ac76 hf78 => ?_)
  refine seq_one (op_val (v := .int .i64 2) hf78 rfl rfl rfl rfl rfl rfl (r_move rfl) fun ac77 hf79 => ?_)
  refine seq_end ?_
  clear hf76 ac75 hf77 ac76 hf78
  refine then_normal ?_
  refine rounds_go ?_
  refine code_seq ?_
  refine seq_start (l := [0]) rfl ?_
  refine seq_one (op_val (v := .bool false) hf79 rfl rfl rfl rfl rfl rfl (r_lssC rfl rfl (by decide)) fun ac78 hf80 => ?_)
  refine seq_end ?_
  clear ac77 hf79
  refine then_normal ?_
  refine code_seq ?_
  refine code_if_false hf80 rfl ?_
  refine wp_exit ?_
  refine then_exit ?_
  refine then_exit ?_
  refine block_here ?_
  refine then_normal ?_
  refine code_seq ?_
  refine seq_start (l := [0, 1, 2, 3, 4, 5, 6]) rfl ?_
  refine seq_one (op_val (v := .agg #[.int .i64 w0, .int .i64 w1, .int .i64 w2]) hf80 rfl rfl rfl rfl rfl rfl (r_loadW ag_22 sz_22 rfl (hI17.at 0 rfl) rfl) fun ac79 hf81 => ?_)
  refine seq_one (op_call (R := fun v w' => (WOK w0 w1 w2 ∧ ∃ b, wd12.heap.size ≤ b ∧ v = .tuple #[.pointer (some ⟨b, 0, none⟩), .int .i64 0] ∧ Inv wd12 [(b, #[.int .i64 w0, .int .i64 w1, .int .i64 w2, .int .i64 w0, .int .i64 w1, .int .i64 w2, .int .i64 0], 58)] w') ∨ (¬ WOK w0 w1 w2 ∧ v = .tuple #[.pointer none, .int .i64 2] ∧ Inv wd12 [] w')) hf81 rfl rfl rfl rfl ca_9 ((new_walk w0 w1 w2 _).mono fun e w' h => by rcases h with ⟨h0, b, h1, h2, h3⟩ | ⟨h, h1, h2⟩; exact ⟨_, h2, .inl ⟨h0, b, h1, rfl, h3⟩⟩; exact ⟨_, h1, .inr ⟨h, rfl, h2⟩⟩) fun ac80 v wd13 hR hf82 => ?_)
  rcases hR with ⟨hv, b5, hqb5, rfl, hwb5⟩ | ⟨hv, rfl, hwb5⟩
  ·
    have hb5 := Nat.le_trans hI17.size hqb5
    have hI18 : Inv w [(b1, #[.int .i64 w0, .int .i64 w1, .int .i64 w2], 22), (b2, #[.bool h0, .bool h1, .bool h2], 33), (b3, #[.int .i64 0, .int .i64 0, .int .i64 0, .int .i64 0, .int .i64 0, .int .i64 0, .int .i64 0], 58), (b4, #[.pointer none, .pointer (some ⟨b3, 0, none⟩)], 24), (b5, #[.int .i64 w0, .int .i64 w1, .int .i64 w2, .int .i64 w0, .int .i64 w1, .int .i64 w2, .int .i64 0], 58)] _ := hI17.callN hwb5 (fun x hx => by simp only [List.mem_singleton] at hx; subst hx; exact hqb5)
    refine seq_one (op_val (v := .tuple #[.pointer (some ⟨b5, 0, none⟩), .int .i64 0]) hf82 rfl rfl rfl rfl rfl rfl (r_move rfl) fun ac81 hf83 => ?_)
    refine seq_one (op_val (v := .pointer (some ⟨b5, 0, none⟩)) hf83 rfl rfl rfl rfl rfl rfl (r_extract rfl rfl) fun ac82 hf84 => ?_)
    refine seq_one (op_val (v := .int .i64 0) hf84 rfl rfl rfl rfl rfl rfl (r_extract rfl rfl) fun ac83 hf85 => ?_)
    refine seq_one (op_val (v := .pointer (some ⟨b5, 0, none⟩)) hf85 rfl rfl rfl rfl rfl rfl (r_assign rfl) fun ac84 hf86 => ?_)
    refine seq_one (op_val (v := .int .i64 0) hf86 rfl rfl rfl rfl rfl rfl (r_assign rfl) fun ac85 hf87 => ?_)
    refine seq_end ?_
    clear ac78 hf80 ac79 wd12 hf81 hI17 hwb5 hqb5 ac80 hf82 ac81 hf83 ac82 hf84 ac83 hf85 ac84 hf86
    refine then_normal ?_
    refine code_seq ?_
    refine code_seq ?_
    refine seq_start (l := [0, 1]) rfl ?_
    refine seq_one (op_val (v := .agg #[.int .i64 w0, .int .i64 w1, .int .i64 w2]) hf87 rfl rfl rfl rfl rfl rfl (r_loadW ag_22 sz_22 rfl (hI18.at 0 rfl) rfl) fun ac86 hf88 => ?_)
    refine seq_one (op_val (v := .int .i64 0) hf88 rfl rfl rfl rfl rfl rfl (r_move rfl) fun ac87 hf89 => ?_)
    refine seq_end ?_
    clear ac85 hf87 ac86 hf88
    refine then_normal ?_
    refine wp_block ?_
    refine wp_loop_rounds 4 ?_
    refine rounds_go ?_
    refine code_seq ?_
    refine seq_start (l := [0]) rfl ?_
    refine seq_one (op_val (v := .bool true) hf89 rfl rfl rfl rfl rfl rfl (r_lssC rfl rfl (by decide)) fun ac88 hf90 => ?_)
    refine seq_end ?_
    clear ac87 hf89
    refine then_normal ?_
    refine code_seq ?_
    refine code_if_true hf90 rfl ?_
    refine wp_skip ?_
    refine then_normal ?_
    refine code_seq ?_
    refine wp_block ?_
    refine code_seq ?_
    refine seq_start (l := [0, 1]) rfl ?_
    refine seq_one (op_val (v := .int .i64 w0) hf90 rfl rfl rfl rfl rfl rfl (r_index (i := 0) ar_22 ag_3 rfl rfl rfl (by decide) rfl) fun ac89 hf91 => ?_)
    refine seq_one (op_val (v := .int .i64 w0) hf91 rfl rfl rfl rfl rfl rfl (r_assign rfl) fun ac90 hf92 => ?_)
    refine seq_end ?_
    clear ac88 hf90 ac89 hf91
    refine then_normal ?_
    refine code_seq ?_
    refine seq_start (l := [0, 1, 2, 3, 4, 5]) rfl ?_
    refine seq_one (op_val (v := .int .i64 w0) hf92 rfl rfl rfl rfl rfl rfl (r_move rfl) fun ac91 hf93 => ?_)
    refine seq_one (op_val (v := .bool (decide (w0 < 1024))) hf93 rfl rfl rfl rfl rfl rfl (r_lss rfl rfl) fun ac92 hf94 => ?_)
    refine seq_one (op_val (v := .bool (decide (w0 < 1024))) hf94 rfl rfl rfl rfl rfl rfl (r_move rfl) fun ac93 hf95 => ?_)
    have hf96 := hf95.know 64 (u := .bool false) rfl (congrArg Value.bool (decide_eq_false (by have := hv.l0; have := hv.l1; have := hv.l2; omega)))
    refine seq_one (op_val (v := .int .i64 w0) hf96 rfl rfl rfl rfl rfl rfl (r_move rfl) fun ac94 hf97 => ?_)
    refine seq_one (op_val (v := .bool (decide (w0 > 1048576))) hf97 rfl rfl rfl rfl rfl rfl (r_gtr rfl rfl) fun ac95 hf98 => ?_)
    refine seq_one (op_val (v := .bool (decide (w0 > 1048576))) hf98 rfl rfl rfl rfl rfl rfl (r_pickF rfl rfl) fun ac96 hf99 => ?_)
    refine seq_end ?_
    clear ac90 hf92 ac91 hf93 ac92 hf94 hf95 ac93 hf96 ac94 hf97 ac95 hf98
    refine then_normal ?_
    have hf100 := hf99.know 67 (u := .bool false) rfl (congrArg Value.bool (decide_eq_false (by have := hv.r0; have := hv.r1; have := hv.r2; omega)))
    refine code_if_false hf100 rfl ?_
    refine wp_skip ?_
    refine block_normal ?_
    refine then_normal ?_
    refine seq_start (l := [0, 1]) rfl ?_
    refine seq_one (op_val (v := .int .i64 1) hf100 rfl rfl rfl rfl rfl rfl (r_add (c := 1) rfl rfl (by rfl)) fun ac97 hf101 => ?_)
    refine seq_one (op_val (v := .int .i64 1) hf101 rfl rfl rfl rfl rfl rfl (r_move rfl) fun ac98 hf102 => ?_)
    refine seq_end ?_
    clear hf99 ac96 hf100 ac97 hf101
    refine then_normal ?_
    refine rounds_go ?_
    refine code_seq ?_
    refine seq_start (l := [0]) rfl ?_
    refine seq_one (op_val (v := .bool true) hf102 rfl rfl rfl rfl rfl rfl (r_lssC rfl rfl (by decide)) fun ac99 hf103 => ?_)
    refine seq_end ?_
    clear ac98 hf102
    refine then_normal ?_
    refine code_seq ?_
    refine code_if_true hf103 rfl ?_
    refine wp_skip ?_
    refine then_normal ?_
    refine code_seq ?_
    refine wp_block ?_
    refine code_seq ?_
    refine seq_start (l := [0, 1]) rfl ?_
    refine seq_one (op_val (v := .int .i64 w1) hf103 rfl rfl rfl rfl rfl rfl (r_index (i := 1) ar_22 ag_3 rfl rfl rfl (by decide) rfl) fun ac100 hf104 => ?_)
    refine seq_one (op_val (v := .int .i64 w1) hf104 rfl rfl rfl rfl rfl rfl (r_assign rfl) fun ac101 hf105 => ?_)
    refine seq_end ?_
    clear ac99 hf103 ac100 hf104
    refine then_normal ?_
    refine code_seq ?_
    refine seq_start (l := [0, 1, 2, 3, 4, 5]) rfl ?_
    refine seq_one (op_val (v := .int .i64 w1) hf105 rfl rfl rfl rfl rfl rfl (r_move rfl) fun ac102 hf106 => ?_)
    refine seq_one (op_val (v := .bool (decide (w1 < 1024))) hf106 rfl rfl rfl rfl rfl rfl (r_lss rfl rfl) fun ac103 hf107 => ?_)
    refine seq_one (op_val (v := .bool (decide (w1 < 1024))) hf107 rfl rfl rfl rfl rfl rfl (r_move rfl) fun ac104 hf108 => ?_)
    have hf109 := hf108.know 64 (u := .bool false) rfl (congrArg Value.bool (decide_eq_false (by have := hv.l0; have := hv.l1; have := hv.l2; omega)))
    refine seq_one (op_val (v := .int .i64 w1) hf109 rfl rfl rfl rfl rfl rfl (r_move rfl) fun ac105 hf110 => ?_)
    refine seq_one (op_val (v := .bool (decide (w1 > 1048576))) hf110 rfl rfl rfl rfl rfl rfl (r_gtr rfl rfl) fun ac106 hf111 => ?_)
    refine seq_one (op_val (v := .bool (decide (w1 > 1048576))) hf111 rfl rfl rfl rfl rfl rfl (r_pickF rfl rfl) fun ac107 hf112 => ?_)
    refine seq_end ?_
    clear ac101 hf105 ac102 hf106 ac103 hf107 hf108 ac104 hf109 ac105 hf110 ac106 hf111
    refine then_normal ?_
    have hf113 := hf112.know 67 (u := .bool false) rfl (congrArg Value.bool (decide_eq_false (by have := hv.r0; have := hv.r1; have := hv.r2; omega)))
    refine code_if_false hf113 rfl ?_
    refine wp_skip ?_
    refine block_normal ?_
    refine then_normal ?_
    refine seq_start (l := [0, 1]) rfl ?_
    refine seq_one (op_val (v := .int .i64 2) hf113 rfl rfl rfl rfl rfl rfl (r_add (c := 2) rfl rfl (by rfl)) fun ac108 hf114 => ?_)
    refine seq_one (op_val (v := .int .i64 2) hf114 rfl rfl rfl rfl rfl rfl (r_move rfl) fun ac109 hf115 => ?_)
    refine seq_end ?_
    clear hf112 ac107 hf113 ac108 hf114
    refine then_normal ?_
    refine rounds_go ?_
    refine code_seq ?_
    refine seq_start (l := [0]) rfl ?_
    refine seq_one (op_val (v := .bool true) hf115 rfl rfl rfl rfl rfl rfl (r_lssC rfl rfl (by decide)) fun ac110 hf116 => ?_)
    refine seq_end ?_
    clear ac109 hf115
    refine then_normal ?_
    refine code_seq ?_
    refine code_if_true hf116 rfl ?_
    refine wp_skip ?_
    refine then_normal ?_
    refine code_seq ?_
    refine wp_block ?_
    refine code_seq ?_
    refine seq_start (l := [0, 1]) rfl ?_
    refine seq_one (op_val (v := .int .i64 w2) hf116 rfl rfl rfl rfl rfl rfl (r_index (i := 2) ar_22 ag_3 rfl rfl rfl (by decide) rfl) fun ac111 hf117 => ?_)
    refine seq_one (op_val (v := .int .i64 w2) hf117 rfl rfl rfl rfl rfl rfl (r_assign rfl) fun ac112 hf118 => ?_)
    refine seq_end ?_
    clear ac110 hf116 ac111 hf117
    refine then_normal ?_
    refine code_seq ?_
    refine seq_start (l := [0, 1, 2, 3, 4, 5]) rfl ?_
    refine seq_one (op_val (v := .int .i64 w2) hf118 rfl rfl rfl rfl rfl rfl (r_move rfl) fun ac113 hf119 => ?_)
    refine seq_one (op_val (v := .bool (decide (w2 < 1024))) hf119 rfl rfl rfl rfl rfl rfl (r_lss rfl rfl) fun ac114 hf120 => ?_)
    refine seq_one (op_val (v := .bool (decide (w2 < 1024))) hf120 rfl rfl rfl rfl rfl rfl (r_move rfl) fun ac115 hf121 => ?_)
    have hf122 := hf121.know 64 (u := .bool false) rfl (congrArg Value.bool (decide_eq_false (by have := hv.l0; have := hv.l1; have := hv.l2; omega)))
    refine seq_one (op_val (v := .int .i64 w2) hf122 rfl rfl rfl rfl rfl rfl (r_move rfl) fun ac116 hf123 => ?_)
    refine seq_one (op_val (v := .bool (decide (w2 > 1048576))) hf123 rfl rfl rfl rfl rfl rfl (r_gtr rfl rfl) fun ac117 hf124 => ?_)
    refine seq_one (op_val (v := .bool (decide (w2 > 1048576))) hf124 rfl rfl rfl rfl rfl rfl (r_pickF rfl rfl) fun ac118 hf125 => ?_)
    refine seq_end ?_
    clear ac112 hf118 ac113 hf119 ac114 hf120 hf121 ac115 hf122 ac116 hf123 ac117 hf124
    refine then_normal ?_
    have hf126 := hf125.know 67 (u := .bool false) rfl (congrArg Value.bool (decide_eq_false (by have := hv.r0; have := hv.r1; have := hv.r2; omega)))
    refine code_if_false hf126 rfl ?_
    refine wp_skip ?_
    refine block_normal ?_
    refine then_normal ?_
    refine seq_start (l := [0, 1]) rfl ?_
    refine seq_one (op_val (v := .int .i64 3) hf126 rfl rfl rfl rfl rfl rfl (r_add (c := 3) rfl rfl (by rfl)) fun ac119 hf127 => ?_)
    refine seq_one (op_val (v := .int .i64 3) hf127 rfl rfl rfl rfl rfl rfl (r_move rfl) fun ac120 hf128 => ?_)
    refine seq_end ?_
    clear hf125 ac118 hf126 ac119 hf127
    refine then_normal ?_
    refine rounds_go ?_
    refine code_seq ?_
    refine seq_start (l := [0]) rfl ?_
    refine seq_one (op_val (v := .bool false) hf128 rfl rfl rfl rfl rfl rfl (r_lssC rfl rfl (by decide)) fun ac121 hf129 => ?_)
    refine seq_end ?_
    clear ac120 hf128
    refine then_normal ?_
    refine code_seq ?_
    refine code_if_false hf129 rfl ?_
    refine wp_exit ?_
    refine then_exit ?_
    refine then_exit ?_
    refine block_here ?_
    refine then_normal ?_
    refine code_seq ?_
    refine seq_start (l := [0, 1, 2, 3]) rfl ?_
    refine seq_one (op_val (v := .pointer (some ⟨b5, 0, none⟩)) hf129 rfl rfl rfl rfl rfl rfl (r_move rfl) fun ac122 hf130 => ?_)
    refine seq_one (op_pureW hf130 rfl rfl rfl rfl ca_17 (credits_walk w0 w1 w2 w0 w1 w2 0 hv.ne b5 _ (Has.cons (hI18.at 4 rfl) Has.nil)) hI18 fun ac123 wd14 hI19 hf131 => ?_)
    refine seq_one (op_alloc hf131 rfl rfl rfl ze_22 hI19 fun ac124 b6 wd15 hb6 hI20 hf132 => ?_)
    have hI21 : Inv w [(b1, #[.int .i64 w0, .int .i64 w1, .int .i64 w2], 22), (b2, #[.bool h0, .bool h1, .bool h2], 33), (b3, #[.int .i64 0, .int .i64 0, .int .i64 0, .int .i64 0, .int .i64 0, .int .i64 0, .int .i64 0], 58), (b4, #[.pointer none, .pointer (some ⟨b3, 0, none⟩)], 24), (b5, #[.int .i64 w0, .int .i64 w1, .int .i64 w2, .int .i64 w0, .int .i64 w1, .int .i64 w2, .int .i64 0], 58), (b6, #[.int .i64 0, .int .i64 0, .int .i64 0], 22)] wd15 := hI20
    refine seq_one (op_storeW (cells := #[.int .i64 w0, .int .i64 w1, .int .i64 w2]) 5 hf132 rfl rfl rfl rfl rfl sz_22 rfl rfl hI21 rfl rfl fun wd16 hI22 => ?_)
    have hI23 : Inv w [(b1, #[.int .i64 w0, .int .i64 w1, .int .i64 w2], 22), (b2, #[.bool h0, .bool h1, .bool h2], 33), (b3, #[.int .i64 0, .int .i64 0, .int .i64 0, .int .i64 0, .int .i64 0, .int .i64 0, .int .i64 0], 58), (b4, #[.pointer none, .pointer (some ⟨b3, 0, none⟩)], 24), (b5, #[.int .i64 w0, .int .i64 w1, .int .i64 w2, .int .i64 w0, .int .i64 w1, .int .i64 w2, .int .i64 0], 58), (b6, #[.int .i64 w0, .int .i64 w1, .int .i64 w2], 22)] wd16 := hI22
    refine seq_end ?_
    clear ac121 hf129 ac122 wd13 hI18 hf130 ac123 wd14 hI19 hf131 hI20 wd15 hI21 hI22
    refine then_normal ?_
    refine code_seq ?_
    refine seq_start (l := [0, 1, 2, 3]) rfl ?_
    refine seq_one (op_val (v := .pointer (some ⟨b5, 0, none⟩)) hf132 rfl rfl rfl rfl rfl rfl (r_move rfl) fun ac125 hf133 => ?_)
    refine seq_one (op_val (v := .int .i64 m) hf133 rfl rfl rfl rfl rfl rfl (r_move rfl) fun ac126 hf134 => ?_)
    refine seq_one (op_call (R := fun v w' => v = (.int .i64 (spE m ⟨w0, w1, w2, 0⟩)) ∧ Inv wd16 [(b5, #[.int .i64 w0, .int .i64 w1, .int .i64 w2, .int .i64 (((spS m ⟨w0, w1, w2, 0⟩ : St)).c0), .int .i64 (((spS m ⟨w0, w1, w2, 0⟩ : St)).c1), .int .i64 (((spS m ⟨w0, w1, w2, 0⟩ : St)).c2), .int .i64 (((spS m ⟨w0, w1, w2, 0⟩ : St)).now)], 58)] w') hf134 rfl rfl rfl rfl ca_14 ((spend_walk w0 w1 w2 w0 w1 w2 0 m hv.ne hv (init_ok hv) b5 _ (Has.cons (hI23.at 4 rfl) Has.nil)).mono fun _ _ h => ⟨_, h.1, rfl, h.2⟩) fun ac127 v wd17 hR hf135 => ?_)
    obtain ⟨rfl, hR⟩ := hR
    obtain ⟨a_7, b_7, c_7, d_7, he7⟩ : ∃ a b c d, (spS m ⟨w0, w1, w2, 0⟩ : St) = ⟨a, b, c, d⟩ := ⟨_, _, _, _, rfl⟩
    rw [he7] at hR
    dsimp only at hR
    have ho7 : Ok w0 w1 w2 ⟨a_7, b_7, c_7, d_7⟩ := by rw [← he7]; exact (spS_ok (init_ok hv))
    have hI24 : Inv w [(b1, #[.int .i64 w0, .int .i64 w1, .int .i64 w2], 22), (b2, #[.bool h0, .bool h1, .bool h2], 33), (b3, #[.int .i64 0, .int .i64 0, .int .i64 0, .int .i64 0, .int .i64 0, .int .i64 0, .int .i64 0], 58), (b4, #[.pointer none, .pointer (some ⟨b3, 0, none⟩)], 24), (b5, #[.int .i64 w0, .int .i64 w1, .int .i64 w2, .int .i64 a_7, .int .i64 b_7, .int .i64 c_7, .int .i64 d_7], 58), (b6, #[.int .i64 w0, .int .i64 w1, .int .i64 w2], 22)] _ := Inv.callS (A := [(b1, #[.int .i64 w0, .int .i64 w1, .int .i64 w2], 22), (b2, #[.bool h0, .bool h1, .bool h2], 33), (b3, #[.int .i64 0, .int .i64 0, .int .i64 0, .int .i64 0, .int .i64 0, .int .i64 0, .int .i64 0], 58), (b4, #[.pointer none, .pointer (some ⟨b3, 0, none⟩)], 24)]) (S := [(b5, #[.int .i64 w0, .int .i64 w1, .int .i64 w2, .int .i64 w0, .int .i64 w1, .int .i64 w2, .int .i64 0], 58)]) (S' := [(b5, #[.int .i64 w0, .int .i64 w1, .int .i64 w2, .int .i64 a_7, .int .i64 b_7, .int .i64 c_7, .int .i64 d_7], 58)]) (L := [(b6, #[.int .i64 w0, .int .i64 w1, .int .i64 w2], 22)]) (N := []) hI23 hR rfl (fun _ h => by cases h)
    refine seq_one (op_val (v := .int .i64 (spE m ⟨w0, w1, w2, 0⟩)) hf135 rfl rfl rfl rfl rfl rfl (r_assign rfl) fun ac128 hf136 => ?_)
    refine seq_end ?_
    clear ac124 hf132 ac125 hf133 ac126 wd16 hf134 hI23 hR ac127 hf135
    refine then_normal ?_
    refine code_seq ?_
    refine seq_start (l := [0, 1, 2, 3, 4, 5, 6]) rfl ?_
    refine seq_one (op_val (v := .int .i64 m) hf136 rfl rfl rfl rfl rfl rfl (r_move rfl) fun ac129 hf137 => ?_)
    refine seq_one (op_val (v := .bool (decide (m ≥ 1))) hf137 rfl rfl rfl rfl rfl rfl (r_geq rfl rfl) fun ac130 hf138 => ?_)
    refine seq_one (op_val (v := .bool (decide (m ≥ 1))) hf138 rfl rfl rfl rfl rfl rfl (r_move rfl) fun ac131 hf139 => ?_)
    rcases Bool.eq_false_or_eq_true (decide (m ≥ 1) : Bool) with g85_1 | g85_1
    · have hf140 := hf139.know 85 (u := .bool true) rfl (congrArg Value.bool g85_1)
      refine seq_one (op_val (v := .int .i64 m) hf140 rfl rfl rfl rfl rfl rfl (r_move rfl) fun ac132 hf141 => ?_)
      refine seq_one (op_val (v := .bool (decide (m ≤ 65536))) hf141 rfl rfl rfl rfl rfl rfl (r_leq rfl rfl) fun ac133 hf142 => ?_)
      refine seq_one (op_val (v := .bool (decide (m ≤ 65536))) hf142 rfl rfl rfl rfl rfl rfl (r_pickT rfl rfl) fun ac134 hf143 => ?_)
      refine seq_one (op_val (v := .bool (decide (m ≤ 65536))) hf143 rfl rfl rfl rfl rfl rfl (r_assign rfl) fun ac135 hf144 => ?_)
      refine seq_end ?_
      clear ac128 hf136 ac129 hf137 ac130 hf138 hf139 ac131 hf140 ac132 hf141 ac133 hf142 ac134 hf143
      refine then_normal ?_
      refine code_seq ?_
      refine any_start (fun w => Has [(b1, #[.int .i64 w0, .int .i64 w1, .int .i64 w2], 22), (b6, #[.int .i64 w0, .int .i64 w1, .int .i64 w2], 22)] w) follows (Has.drew (Has.cons (hI24.at 0 rfl) (Has.cons (hI24.at 5 rfl) Has.nil))) ?_
      have hS1 : Has [(b1, #[.int .i64 w0, .int .i64 w1, .int .i64 w2], 22), (b6, #[.int .i64 w0, .int .i64 w1, .int .i64 w2], 22)] _ := Has.drew (Has.cons (hI24.at 0 rfl) (Has.cons (hI24.at 5 rfl) Has.nil))
      have hI25 := hI24.drew
      refine any_val (i := 0) (v := .int .i64 0) hf144 rfl rfl rfl rfl rfl rfl (fun _ _ _ h => h) (by kernel_rfl) (by kernel_rfl) (by kernel_rfl) (fun wd17 hS1 => (r_move rfl)) hS1 fun ac136 hf145 => ?_
      refine any_val (i := 1) (v := .bool true) hf145 rfl rfl rfl rfl rfl rfl (fun _ _ _ h => h) (by kernel_rfl) (by kernel_rfl) (by kernel_rfl) (fun wd17 hS1 => (r_eqlC rfl rfl (by decide))) hS1 fun ac137 hf146 => ?_
      refine any_val (i := 2) (v := .bool true) hf146 rfl rfl rfl rfl rfl rfl (fun _ _ _ h => h) (by kernel_rfl) (by kernel_rfl) (by kernel_rfl) (fun wd17 hS1 => (r_move rfl)) hS1 fun ac138 hf147 => ?_
      refine any_val (i := 3) (v := .agg #[.int .i64 w0, .int .i64 w1, .int .i64 w2]) hf147 rfl rfl rfl rfl rfl rfl (fun _ _ _ h => h) (by kernel_rfl) (by kernel_rfl) (by kernel_rfl) (fun wd17 hS1 => (r_loadW ag_22 sz_22 rfl (hS1.at 1 rfl) rfl)) hS1 fun ac139 hf148 => ?_
      refine any_val (i := 4) (v := .agg #[.int .i64 w0, .int .i64 w1, .int .i64 w2]) hf148 rfl rfl rfl rfl rfl rfl (fun _ _ _ h => h) (by kernel_rfl) (by kernel_rfl) (by kernel_rfl) (fun wd17 hS1 => (r_loadW ag_22 sz_22 rfl (hS1.at 0 rfl) rfl)) hS1 fun ac140 hf149 => ?_
      refine any_val (i := 5) (v := .bool (eqA (#[.int .i64 w0, .int .i64 w1, .int .i64 w2]) (#[.int .i64 w0, .int .i64 w1, .int .i64 w2]))) hf149 rfl rfl rfl rfl rfl rfl (fun _ _ _ h => h) (by kernel_rfl) (by kernel_rfl) (by kernel_rfl) (fun wd17 hS1 => (r_eqA sh_22 kt_22 rw_22 rfl zk_22 eg_22 rfl rfl ⟨⟨_, rfl, (okwf0 hv (init_ok hv))⟩, ⟨_, rfl, (okwf1 hv (init_ok hv))⟩, ⟨_, rfl, (okwf2 hv (init_ok hv))⟩, trivial⟩ ⟨⟨_, rfl, (okwf0 hv (init_ok hv))⟩, ⟨_, rfl, (okwf1 hv (init_ok hv))⟩, ⟨_, rfl, (okwf2 hv (init_ok hv))⟩, trivial⟩)) hS1 fun ac141 hf150 => ?_
      refine any_val (i := 6) (v := .bool (eqA (#[.int .i64 w0, .int .i64 w1, .int .i64 w2]) (#[.int .i64 w0, .int .i64 w1, .int .i64 w2]))) hf150 rfl rfl rfl rfl rfl rfl (fun _ _ _ h => h) (by kernel_rfl) (by kernel_rfl) (by kernel_rfl) (fun wd17 hS1 => (r_pickT rfl rfl)) hS1 fun ac142 hf151 => ?_
      refine any_val (i := 7) (v := .bool (eqA (#[.int .i64 w0, .int .i64 w1, .int .i64 w2]) (#[.int .i64 w0, .int .i64 w1, .int .i64 w2]))) hf151 rfl rfl rfl rfl rfl rfl (fun _ _ _ h => h) (by kernel_rfl) (by kernel_rfl) (by kernel_rfl) (fun wd17 hS1 => (r_move rfl)) hS1 fun ac143 hf152 => ?_
      have hf153 := hf152.know 96 (u := .bool true) rfl (congrArg Value.bool (eqA_true rfl))
      refine any_val (i := 8) (v := .int .i64 (spE m ⟨w0, w1, w2, 0⟩)) hf153 rfl rfl rfl rfl rfl rfl (fun _ _ _ h => h) (by kernel_rfl) (by kernel_rfl) (by kernel_rfl) (fun wd17 hS1 => (r_move rfl)) hS1 fun ac144 hf154 => ?_
      refine any_val (i := 9) (v := .bool ((spE m ⟨w0, w1, w2, 0⟩) == 0)) hf154 rfl rfl rfl rfl rfl rfl (fun _ _ _ h => h) (by kernel_rfl) (by kernel_rfl) (by kernel_rfl) (fun wd17 hS1 => (r_eql rfl rfl)) hS1 fun ac145 hf155 => ?_
      refine any_val (i := 10) (v := .bool (decide (m ≤ 65536))) hf155 rfl rfl rfl rfl rfl rfl (fun _ _ _ h => h) (by kernel_rfl) (by kernel_rfl) (by kernel_rfl) (fun wd17 hS1 => (r_move rfl)) hS1 fun ac146 hf156 => ?_
      refine any_val (i := 11) (v := .bool (((spE m ⟨w0, w1, w2, 0⟩) == 0) == (decide (m ≤ 65536)))) hf156 rfl rfl rfl rfl rfl rfl (fun _ _ _ h => h) (by kernel_rfl) (by kernel_rfl) (by kernel_rfl) (fun wd17 hS1 => (r_eqB ub_4 rfl rfl)) hS1 fun ac147 hf157 => ?_
      refine any_val (i := 12) (v := .bool (((spE m ⟨w0, w1, w2, 0⟩) == 0) == (decide (m ≤ 65536)))) hf157 rfl rfl rfl rfl rfl rfl (fun _ _ _ h => h) (by kernel_rfl) (by kernel_rfl) (by kernel_rfl) (fun wd17 hS1 => (r_pickT rfl rfl)) hS1 fun ac148 hf158 => ?_
      refine any_val (i := 13) (v := .bool (((spE m ⟨w0, w1, w2, 0⟩) == 0) == (decide (m ≤ 65536)))) hf158 rfl rfl rfl rfl rfl rfl (fun _ _ _ h => h) (by kernel_rfl) (by kernel_rfl) (by kernel_rfl) (fun wd17 hS1 => (r_move rfl)) hS1 fun ac149 hf159 => ?_
      have hf160 := hf159.know 102 (u := .bool true) rfl (congrArg Value.bool (none_102a hv g85_1))
      refine any_val (i := 14) (v := .bool (decide (m ≤ 65536))) hf160 rfl rfl rfl rfl rfl rfl (fun _ _ _ h => h) (by kernel_rfl) (by kernel_rfl) (by kernel_rfl) (fun wd17 hS1 => (r_move rfl)) hS1 fun ac150 hf161 => ?_
      refine any_val (i := 15) (v := .bool (decide (m ≤ 65536))) hf161 rfl rfl rfl rfl rfl rfl (fun _ _ _ h => h) (by kernel_rfl) (by kernel_rfl) (by kernel_rfl) (fun wd17 hS1 => (r_move rfl)) hS1 fun ac151 hf162 => ?_
      rcases Bool.eq_false_or_eq_true (decide (m ≤ 65536) : Bool) with g104_2 | g104_2
      · have hf163 := hf162.know 104 (u := .bool true) rfl (congrArg Value.bool g104_2)
        refine any_skip (i := 16) hf163 rfl rfl rfl rfl (fun _ _ _ h => h) (by kernel_rfl) (by kernel_rfl) (by kernel_rfl) hS1 fun ac152 hf164 => ?_
        refine any_skip (i := 17) hf164 rfl rfl rfl rfl (fun _ _ _ h => h) (by kernel_rfl) (by kernel_rfl) (by kernel_rfl) hS1 fun ac153 hf165 => ?_
        refine any_skip (i := 18) hf165 rfl rfl rfl rfl (fun _ _ _ h => h) (by kernel_rfl) (by kernel_rfl) (by kernel_rfl) hS1 fun ac154 hf166 => ?_
        refine any_skip (i := 19) hf166 rfl rfl rfl rfl (fun _ _ _ h => h) (by kernel_rfl) (by kernel_rfl) (by kernel_rfl) hS1 fun ac155 hf167 => ?_
        refine any_skip (i := 20) hf167 rfl rfl rfl rfl (fun _ _ _ h => h) (by kernel_rfl) (by kernel_rfl) (by kernel_rfl) hS1 fun ac156 hf168 => ?_
        refine any_skip (i := 21) hf168 rfl rfl rfl rfl (fun _ _ _ h => h) (by kernel_rfl) (by kernel_rfl) (by kernel_rfl) hS1 fun ac157 hf169 => ?_
        refine any_skip (i := 22) hf169 rfl rfl rfl rfl (fun _ _ _ h => h) (by kernel_rfl) (by kernel_rfl) (by kernel_rfl) hS1 fun ac158 hf170 => ?_
        refine any_skip (i := 23) hf170 rfl rfl rfl rfl (fun _ _ _ h => h) (by kernel_rfl) (by kernel_rfl) (by kernel_rfl) hS1 fun ac159 hf171 => ?_
        refine any_val (i := 24) (v := .bool true) hf171 rfl rfl rfl rfl rfl rfl (fun _ _ _ h => h) (by kernel_rfl) (by kernel_rfl) (by kernel_rfl) (fun wd17 hS1 => (r_pickT rfl rfl)) hS1 fun ac160 hf172 => ?_
        refine any_val (i := 25) (v := .bool true) hf172 rfl rfl rfl rfl rfl rfl (fun _ _ _ h => h) (by kernel_rfl) (by kernel_rfl) (by kernel_rfl) (fun wd17 hS1 => (r_pickT rfl rfl)) hS1 fun ac161 hf173 => ?_
        refine any_val (i := 26) (v := .bool true) hf173 rfl rfl rfl rfl rfl rfl (fun _ _ _ h => h) (by kernel_rfl) (by kernel_rfl) (by kernel_rfl) (fun wd17 hS1 => (r_move rfl)) hS1 fun ac162 hf174 => ?_
        refine any_one (i := 27) (by kernel_rfl) ?_
        refine (op_pure hf174 rfl rfl rfl rfl ca_11 awake_pur hI25 fun ac163 wd18 hI26 hf175 => ⟨?_, ?_⟩)
        · exact (Has.cons (hI26.at 0 rfl) (Has.cons (hI26.at 5 rfl) Has.nil))
        have hS2 : Has [(b1, #[.int .i64 w0, .int .i64 w1, .int .i64 w2], 22), (b6, #[.int .i64 w0, .int .i64 w1, .int .i64 w2], 22)] _ := (Has.cons (hI26.at 0 rfl) (Has.cons (hI26.at 5 rfl) Has.nil))
        refine any_val (i := 28) (v := .bool true) hf175 rfl rfl rfl rfl rfl rfl (fun _ _ _ h => h) (by kernel_rfl) (by kernel_rfl) (by kernel_rfl) (fun wd18 hS2 => (r_pickT rfl rfl)) hS2 fun ac164 hf176 => ?_
        refine any_val (i := 29) (v := .bool true) hf176 rfl rfl rfl rfl rfl rfl (fun _ _ _ h => h) (by kernel_rfl) (by kernel_rfl) (by kernel_rfl) (fun wd18 hS2 => (r_assign rfl)) hS2 fun ac165 hf177 => ?_
        refine any_end (by kernel_rfl) ?_
        clear hI24 ac135 hf144 ac136 hf145 ac137 hf146 ac138 hf147 ac139 hf148 ac140 hf149 ac141 hf150 ac142 hf151 hf152 ac143 hf153 ac144 hf154 ac145 hf155 ac146 hf156 ac147 hf157 ac148 hf158 hf159 ac149 hf160 ac150 hf161 hf162 ac151 hf163 ac152 hf164 ac153 hf165 ac154 hf166 ac155 hf167 ac156 hf168 ac157 hf169 ac158 hf170 ac159 hf171 ac160 hf172 ac161 hf173 ac162 wd17 hI25 hf174 hS1 ac163 hf175 ac164 hf176 hS2
        refine then_normal ?_
        refine wp_ret ?_
        refine post1 rfl hf177 rfl ⟨?_, hI26.done (fresh_keys (ks := [b1, b2, b3, b4, b5, b6]) rfl (fk_cons hb1 (fk_cons hb2 (fk_cons hb3 (fk_cons hb4 (fk_cons hb5 (fk_cons hb6 fk_nil)))))))⟩
        rfl
      · have hf178 := hf162.know 104 (u := .bool false) rfl (congrArg Value.bool g104_2)
        refine any_val (i := 16) (v := .int .i64 (spE m ⟨w0, w1, w2, 0⟩)) hf178 rfl rfl rfl rfl rfl rfl (fun _ _ _ h => h) (by kernel_rfl) (by kernel_rfl) (by kernel_rfl) (fun wd17 hS1 => (r_move rfl)) hS1 fun ac166 hf179 => ?_
        refine any_val (i := 17) (v := .bool ((spE m ⟨w0, w1, w2, 0⟩) == 2)) hf179 rfl rfl rfl rfl rfl rfl (fun _ _ _ h => h) (by kernel_rfl) (by kernel_rfl) (by kernel_rfl) (fun wd17 hS1 => (r_eql rfl rfl)) hS1 fun ac167 hf180 => ?_
        refine any_val (i := 18) (v := .bool ((spE m ⟨w0, w1, w2, 0⟩) == 2)) hf180 rfl rfl rfl rfl rfl rfl (fun _ _ _ h => h) (by kernel_rfl) (by kernel_rfl) (by kernel_rfl) (fun wd17 hS1 => (r_move rfl)) hS1 fun ac168 hf181 => ?_
        have hf182 := hf181.know 107 (u := .bool true) rfl (congrArg Value.bool (beq_iff_eq.2 (spE_bad (by have := of_decide_eq_false g104_2; omega)).1))
        refine any_val (i := 19) (v := .pointer (some ⟨b5, 0, none⟩)) hf182 rfl rfl rfl rfl rfl rfl (fun _ _ _ h => h) (by kernel_rfl) (by kernel_rfl) (by kernel_rfl) (fun wd17 hS1 => (r_move rfl)) hS1 fun ac169 hf183 => ?_
        refine any_val (i := 21) (v := .agg #[.int .i64 w0, .int .i64 w1, .int .i64 w2]) hf183 rfl rfl rfl rfl rfl rfl (fun _ _ _ h => h) (by kernel_rfl) (by kernel_rfl) (by kernel_rfl) (fun wd17 hS1 => (r_loadW ag_22 sz_22 rfl (hS1.at 1 rfl) rfl)) hS1 fun ac170 hf184 => ?_
        refine any_one (i := 20) (by kernel_rfl) ?_
        refine (op_pureW hf184 rfl rfl rfl rfl ca_17 (credits_walk w0 w1 w2 a_7 b_7 c_7 d_7 hv.ne b5 _ (Has.cons (hI25.at 4 rfl) Has.nil)) hI25 fun ac171 wd19 hI27 hf185 => ⟨?_, ?_⟩)
        · exact (Has.cons (hI27.at 0 rfl) (Has.cons (hI27.at 5 rfl) Has.nil))
        have hS3 : Has [(b1, #[.int .i64 w0, .int .i64 w1, .int .i64 w2], 22), (b6, #[.int .i64 w0, .int .i64 w1, .int .i64 w2], 22)] _ := (Has.cons (hI27.at 0 rfl) (Has.cons (hI27.at 5 rfl) Has.nil))
        refine any_val (i := 22) (v := .bool (eqA (#[.int .i64 a_7, .int .i64 b_7, .int .i64 c_7]) (#[.int .i64 w0, .int .i64 w1, .int .i64 w2]))) hf185 rfl rfl rfl rfl rfl rfl (fun _ _ _ h => h) (by kernel_rfl) (by kernel_rfl) (by kernel_rfl) (fun wd19 hS3 => (r_eqA sh_22 kt_22 rw_22 rfl zk_22 eg_22 rfl rfl ⟨⟨_, rfl, (okwf0 hv ho7)⟩, ⟨_, rfl, (okwf1 hv ho7)⟩, ⟨_, rfl, (okwf2 hv ho7)⟩, trivial⟩ ⟨⟨_, rfl, (okwf0 hv (init_ok hv))⟩, ⟨_, rfl, (okwf1 hv (init_ok hv))⟩, ⟨_, rfl, (okwf2 hv (init_ok hv))⟩, trivial⟩)) hS3 fun ac172 hf186 => ?_
        refine any_val (i := 23) (v := .bool (eqA (#[.int .i64 a_7, .int .i64 b_7, .int .i64 c_7]) (#[.int .i64 w0, .int .i64 w1, .int .i64 w2]))) hf186 rfl rfl rfl rfl rfl rfl (fun _ _ _ h => h) (by kernel_rfl) (by kernel_rfl) (by kernel_rfl) (fun wd19 hS3 => (r_pickT rfl rfl)) hS3 fun ac173 hf187 => ?_
        refine any_val (i := 24) (v := .bool (eqA (#[.int .i64 a_7, .int .i64 b_7, .int .i64 c_7]) (#[.int .i64 w0, .int .i64 w1, .int .i64 w2]))) hf187 rfl rfl rfl rfl rfl rfl (fun _ _ _ h => h) (by kernel_rfl) (by kernel_rfl) (by kernel_rfl) (fun wd19 hS3 => (r_pickF rfl rfl)) hS3 fun ac174 hf188 => ?_
        refine any_val (i := 25) (v := .bool (eqA (#[.int .i64 a_7, .int .i64 b_7, .int .i64 c_7]) (#[.int .i64 w0, .int .i64 w1, .int .i64 w2]))) hf188 rfl rfl rfl rfl rfl rfl (fun _ _ _ h => h) (by kernel_rfl) (by kernel_rfl) (by kernel_rfl) (fun wd19 hS3 => (r_pickT rfl rfl)) hS3 fun ac175 hf189 => ?_
        refine any_val (i := 26) (v := .bool (eqA (#[.int .i64 a_7, .int .i64 b_7, .int .i64 c_7]) (#[.int .i64 w0, .int .i64 w1, .int .i64 w2]))) hf189 rfl rfl rfl rfl rfl rfl (fun _ _ _ h => h) (by kernel_rfl) (by kernel_rfl) (by kernel_rfl) (fun wd19 hS3 => (r_move rfl)) hS3 fun ac176 hf190 => ?_
        have hf191 := hf190.know 115 (u := .bool true) rfl (congrArg Value.bool (by have e := he7.symm.trans (spE_bad (by have := of_decide_eq_false g104_2; omega)).2; simp only [St.mk.injEq] at e; rw [e.1, e.2.1, e.2.2.1]; exact eqA_true rfl))
        refine any_one (i := 27) (by kernel_rfl) ?_
        refine (op_pure hf191 rfl rfl rfl rfl ca_11 awake_pur hI27 fun ac177 wd20 hI28 hf192 => ⟨?_, ?_⟩)
        · exact (Has.cons (hI28.at 0 rfl) (Has.cons (hI28.at 5 rfl) Has.nil))
        have hS4 : Has [(b1, #[.int .i64 w0, .int .i64 w1, .int .i64 w2], 22), (b6, #[.int .i64 w0, .int .i64 w1, .int .i64 w2], 22)] _ := (Has.cons (hI28.at 0 rfl) (Has.cons (hI28.at 5 rfl) Has.nil))
        refine any_val (i := 28) (v := .bool true) hf192 rfl rfl rfl rfl rfl rfl (fun _ _ _ h => h) (by kernel_rfl) (by kernel_rfl) (by kernel_rfl) (fun wd20 hS4 => (r_pickT rfl rfl)) hS4 fun ac178 hf193 => ?_
        refine any_val (i := 29) (v := .bool true) hf193 rfl rfl rfl rfl rfl rfl (fun _ _ _ h => h) (by kernel_rfl) (by kernel_rfl) (by kernel_rfl) (fun wd20 hS4 => (r_assign rfl)) hS4 fun ac179 hf194 => ?_
        refine any_end (by kernel_rfl) ?_
        clear hI24 ac135 hf144 ac136 hf145 ac137 hf146 ac138 hf147 ac139 hf148 ac140 hf149 ac141 hf150 ac142 hf151 hf152 ac143 hf153 ac144 hf154 ac145 hf155 ac146 hf156 ac147 hf157 ac148 hf158 hf159 ac149 hf160 ac150 hf161 hf162 ac151 hf178 ac166 hf179 ac167 hf180 hf181 ac168 hf182 ac169 hf183 ac170 wd17 hI25 hf184 hS1 ac171 hf185 ac172 hf186 ac173 hf187 ac174 hf188 ac175 hf189 hf190 ac176 wd19 hI27 hf191 hS3 ac177 hf192 ac178 hf193 hS4
        refine then_normal ?_
        refine wp_ret ?_
        refine post1 rfl hf194 rfl ⟨?_, hI28.done (fresh_keys (ks := [b1, b2, b3, b4, b5, b6]) rfl (fk_cons hb1 (fk_cons hb2 (fk_cons hb3 (fk_cons hb4 (fk_cons hb5 (fk_cons hb6 fk_nil)))))))⟩
        rfl
    · have hf195 := hf139.know 85 (u := .bool false) rfl (congrArg Value.bool g85_1)
      refine seq_one (op_skip hf195 rfl rfl rfl rfl fun ac180 hf196 => ?_)
      refine seq_one (op_skip hf196 rfl rfl rfl rfl fun ac181 hf197 => ?_)
      refine seq_one (op_val (v := .bool false) hf197 rfl rfl rfl rfl rfl rfl (r_pickF rfl rfl) fun ac182 hf198 => ?_)
      refine seq_one (op_val (v := .bool false) hf198 rfl rfl rfl rfl rfl rfl (r_assign rfl) fun ac183 hf199 => ?_)
      refine seq_end ?_
      clear ac128 hf136 ac129 hf137 ac130 hf138 hf139 ac131 hf195 ac180 hf196 ac181 hf197 ac182 hf198
      refine then_normal ?_
      refine code_seq ?_
      refine any_start (fun w => Has [(b1, #[.int .i64 w0, .int .i64 w1, .int .i64 w2], 22), (b6, #[.int .i64 w0, .int .i64 w1, .int .i64 w2], 22)] w) follows (Has.drew (Has.cons (hI24.at 0 rfl) (Has.cons (hI24.at 5 rfl) Has.nil))) ?_
      have hS5 : Has [(b1, #[.int .i64 w0, .int .i64 w1, .int .i64 w2], 22), (b6, #[.int .i64 w0, .int .i64 w1, .int .i64 w2], 22)] _ := Has.drew (Has.cons (hI24.at 0 rfl) (Has.cons (hI24.at 5 rfl) Has.nil))
      have hI29 := hI24.drew
      refine any_val (i := 0) (v := .int .i64 0) hf199 rfl rfl rfl rfl rfl rfl (fun _ _ _ h => h) (by kernel_rfl) (by kernel_rfl) (by kernel_rfl) (fun wd17 hS5 => (r_move rfl)) hS5 fun ac184 hf200 => ?_
      refine any_val (i := 1) (v := .bool true) hf200 rfl rfl rfl rfl rfl rfl (fun _ _ _ h => h) (by kernel_rfl) (by kernel_rfl) (by kernel_rfl) (fun wd17 hS5 => (r_eqlC rfl rfl (by decide))) hS5 fun ac185 hf201 => ?_
      refine any_val (i := 2) (v := .bool true) hf201 rfl rfl rfl rfl rfl rfl (fun _ _ _ h => h) (by kernel_rfl) (by kernel_rfl) (by kernel_rfl) (fun wd17 hS5 => (r_move rfl)) hS5 fun ac186 hf202 => ?_
      refine any_val (i := 3) (v := .agg #[.int .i64 w0, .int .i64 w1, .int .i64 w2]) hf202 rfl rfl rfl rfl rfl rfl (fun _ _ _ h => h) (by kernel_rfl) (by kernel_rfl) (by kernel_rfl) (fun wd17 hS5 => (r_loadW ag_22 sz_22 rfl (hS5.at 1 rfl) rfl)) hS5 fun ac187 hf203 => ?_
      refine any_val (i := 4) (v := .agg #[.int .i64 w0, .int .i64 w1, .int .i64 w2]) hf203 rfl rfl rfl rfl rfl rfl (fun _ _ _ h => h) (by kernel_rfl) (by kernel_rfl) (by kernel_rfl) (fun wd17 hS5 => (r_loadW ag_22 sz_22 rfl (hS5.at 0 rfl) rfl)) hS5 fun ac188 hf204 => ?_
      refine any_val (i := 5) (v := .bool (eqA (#[.int .i64 w0, .int .i64 w1, .int .i64 w2]) (#[.int .i64 w0, .int .i64 w1, .int .i64 w2]))) hf204 rfl rfl rfl rfl rfl rfl (fun _ _ _ h => h) (by kernel_rfl) (by kernel_rfl) (by kernel_rfl) (fun wd17 hS5 => (r_eqA sh_22 kt_22 rw_22 rfl zk_22 eg_22 rfl rfl ⟨⟨_, rfl, (okwf0 hv (init_ok hv))⟩, ⟨_, rfl, (okwf1 hv (init_ok hv))⟩, ⟨_, rfl, (okwf2 hv (init_ok hv))⟩, trivial⟩ ⟨⟨_, rfl, (okwf0 hv (init_ok hv))⟩, ⟨_, rfl, (okwf1 hv (init_ok hv))⟩, ⟨_, rfl, (okwf2 hv (init_ok hv))⟩, trivial⟩)) hS5 fun ac189 hf205 => ?_
      refine any_val (i := 6) (v := .bool (eqA (#[.int .i64 w0, .int .i64 w1, .int .i64 w2]) (#[.int .i64 w0, .int .i64 w1, .int .i64 w2]))) hf205 rfl rfl rfl rfl rfl rfl (fun _ _ _ h => h) (by kernel_rfl) (by kernel_rfl) (by kernel_rfl) (fun wd17 hS5 => (r_pickT rfl rfl)) hS5 fun ac190 hf206 => ?_
      refine any_val (i := 7) (v := .bool (eqA (#[.int .i64 w0, .int .i64 w1, .int .i64 w2]) (#[.int .i64 w0, .int .i64 w1, .int .i64 w2]))) hf206 rfl rfl rfl rfl rfl rfl (fun _ _ _ h => h) (by kernel_rfl) (by kernel_rfl) (by kernel_rfl) (fun wd17 hS5 => (r_move rfl)) hS5 fun ac191 hf207 => ?_
      have hf208 := hf207.know 96 (u := .bool true) rfl (congrArg Value.bool (eqA_true rfl))
      refine any_val (i := 8) (v := .int .i64 (spE m ⟨w0, w1, w2, 0⟩)) hf208 rfl rfl rfl rfl rfl rfl (fun _ _ _ h => h) (by kernel_rfl) (by kernel_rfl) (by kernel_rfl) (fun wd17 hS5 => (r_move rfl)) hS5 fun ac192 hf209 => ?_
      refine any_val (i := 9) (v := .bool ((spE m ⟨w0, w1, w2, 0⟩) == 0)) hf209 rfl rfl rfl rfl rfl rfl (fun _ _ _ h => h) (by kernel_rfl) (by kernel_rfl) (by kernel_rfl) (fun wd17 hS5 => (r_eql rfl rfl)) hS5 fun ac193 hf210 => ?_
      refine any_val (i := 10) (v := .bool false) hf210 rfl rfl rfl rfl rfl rfl (fun _ _ _ h => h) (by kernel_rfl) (by kernel_rfl) (by kernel_rfl) (fun wd17 hS5 => (r_move rfl)) hS5 fun ac194 hf211 => ?_
      refine any_val (i := 11) (v := .bool (((spE m ⟨w0, w1, w2, 0⟩) == 0) == false)) hf211 rfl rfl rfl rfl rfl rfl (fun _ _ _ h => h) (by kernel_rfl) (by kernel_rfl) (by kernel_rfl) (fun wd17 hS5 => (r_eqB ub_4 rfl rfl)) hS5 fun ac195 hf212 => ?_
      refine any_val (i := 12) (v := .bool (((spE m ⟨w0, w1, w2, 0⟩) == 0) == false)) hf212 rfl rfl rfl rfl rfl rfl (fun _ _ _ h => h) (by kernel_rfl) (by kernel_rfl) (by kernel_rfl) (fun wd17 hS5 => (r_pickT rfl rfl)) hS5 fun ac196 hf213 => ?_
      refine any_val (i := 13) (v := .bool (((spE m ⟨w0, w1, w2, 0⟩) == 0) == false)) hf213 rfl rfl rfl rfl rfl rfl (fun _ _ _ h => h) (by kernel_rfl) (by kernel_rfl) (by kernel_rfl) (fun wd17 hS5 => (r_move rfl)) hS5 fun ac197 hf214 => ?_
      have hf215 := hf214.know 102 (u := .bool true) rfl (congrArg Value.bool (none_102b g85_1))
      refine any_val (i := 14) (v := .bool false) hf215 rfl rfl rfl rfl rfl rfl (fun _ _ _ h => h) (by kernel_rfl) (by kernel_rfl) (by kernel_rfl) (fun wd17 hS5 => (r_move rfl)) hS5 fun ac198 hf216 => ?_
      refine any_val (i := 15) (v := .bool false) hf216 rfl rfl rfl rfl rfl rfl (fun _ _ _ h => h) (by kernel_rfl) (by kernel_rfl) (by kernel_rfl) (fun wd17 hS5 => (r_move rfl)) hS5 fun ac199 hf217 => ?_
      refine any_val (i := 16) (v := .int .i64 (spE m ⟨w0, w1, w2, 0⟩)) hf217 rfl rfl rfl rfl rfl rfl (fun _ _ _ h => h) (by kernel_rfl) (by kernel_rfl) (by kernel_rfl) (fun wd17 hS5 => (r_move rfl)) hS5 fun ac200 hf218 => ?_
      refine any_val (i := 17) (v := .bool ((spE m ⟨w0, w1, w2, 0⟩) == 2)) hf218 rfl rfl rfl rfl rfl rfl (fun _ _ _ h => h) (by kernel_rfl) (by kernel_rfl) (by kernel_rfl) (fun wd17 hS5 => (r_eql rfl rfl)) hS5 fun ac201 hf219 => ?_
      refine any_val (i := 18) (v := .bool ((spE m ⟨w0, w1, w2, 0⟩) == 2)) hf219 rfl rfl rfl rfl rfl rfl (fun _ _ _ h => h) (by kernel_rfl) (by kernel_rfl) (by kernel_rfl) (fun wd17 hS5 => (r_move rfl)) hS5 fun ac202 hf220 => ?_
      have hf221 := hf220.know 107 (u := .bool true) rfl (congrArg Value.bool (beq_iff_eq.2 (spE_bad (by have := of_decide_eq_false g85_1; omega)).1))
      refine any_val (i := 19) (v := .pointer (some ⟨b5, 0, none⟩)) hf221 rfl rfl rfl rfl rfl rfl (fun _ _ _ h => h) (by kernel_rfl) (by kernel_rfl) (by kernel_rfl) (fun wd17 hS5 => (r_move rfl)) hS5 fun ac203 hf222 => ?_
      refine any_val (i := 21) (v := .agg #[.int .i64 w0, .int .i64 w1, .int .i64 w2]) hf222 rfl rfl rfl rfl rfl rfl (fun _ _ _ h => h) (by kernel_rfl) (by kernel_rfl) (by kernel_rfl) (fun wd17 hS5 => (r_loadW ag_22 sz_22 rfl (hS5.at 1 rfl) rfl)) hS5 fun ac204 hf223 => ?_
      refine any_one (i := 20) (by kernel_rfl) ?_
      refine (op_pureW hf223 rfl rfl rfl rfl ca_17 (credits_walk w0 w1 w2 a_7 b_7 c_7 d_7 hv.ne b5 _ (Has.cons (hI29.at 4 rfl) Has.nil)) hI29 fun ac205 wd21 hI30 hf224 => ⟨?_, ?_⟩)
      · exact (Has.cons (hI30.at 0 rfl) (Has.cons (hI30.at 5 rfl) Has.nil))
      have hS6 : Has [(b1, #[.int .i64 w0, .int .i64 w1, .int .i64 w2], 22), (b6, #[.int .i64 w0, .int .i64 w1, .int .i64 w2], 22)] _ := (Has.cons (hI30.at 0 rfl) (Has.cons (hI30.at 5 rfl) Has.nil))
      refine any_val (i := 22) (v := .bool (eqA (#[.int .i64 a_7, .int .i64 b_7, .int .i64 c_7]) (#[.int .i64 w0, .int .i64 w1, .int .i64 w2]))) hf224 rfl rfl rfl rfl rfl rfl (fun _ _ _ h => h) (by kernel_rfl) (by kernel_rfl) (by kernel_rfl) (fun wd21 hS6 => (r_eqA sh_22 kt_22 rw_22 rfl zk_22 eg_22 rfl rfl ⟨⟨_, rfl, (okwf0 hv ho7)⟩, ⟨_, rfl, (okwf1 hv ho7)⟩, ⟨_, rfl, (okwf2 hv ho7)⟩, trivial⟩ ⟨⟨_, rfl, (okwf0 hv (init_ok hv))⟩, ⟨_, rfl, (okwf1 hv (init_ok hv))⟩, ⟨_, rfl, (okwf2 hv (init_ok hv))⟩, trivial⟩)) hS6 fun ac206 hf225 => ?_
      refine any_val (i := 23) (v := .bool (eqA (#[.int .i64 a_7, .int .i64 b_7, .int .i64 c_7]) (#[.int .i64 w0, .int .i64 w1, .int .i64 w2]))) hf225 rfl rfl rfl rfl rfl rfl (fun _ _ _ h => h) (by kernel_rfl) (by kernel_rfl) (by kernel_rfl) (fun wd21 hS6 => (r_pickT rfl rfl)) hS6 fun ac207 hf226 => ?_
      refine any_val (i := 24) (v := .bool (eqA (#[.int .i64 a_7, .int .i64 b_7, .int .i64 c_7]) (#[.int .i64 w0, .int .i64 w1, .int .i64 w2]))) hf226 rfl rfl rfl rfl rfl rfl (fun _ _ _ h => h) (by kernel_rfl) (by kernel_rfl) (by kernel_rfl) (fun wd21 hS6 => (r_pickF rfl rfl)) hS6 fun ac208 hf227 => ?_
      refine any_val (i := 25) (v := .bool (eqA (#[.int .i64 a_7, .int .i64 b_7, .int .i64 c_7]) (#[.int .i64 w0, .int .i64 w1, .int .i64 w2]))) hf227 rfl rfl rfl rfl rfl rfl (fun _ _ _ h => h) (by kernel_rfl) (by kernel_rfl) (by kernel_rfl) (fun wd21 hS6 => (r_pickT rfl rfl)) hS6 fun ac209 hf228 => ?_
      refine any_val (i := 26) (v := .bool (eqA (#[.int .i64 a_7, .int .i64 b_7, .int .i64 c_7]) (#[.int .i64 w0, .int .i64 w1, .int .i64 w2]))) hf228 rfl rfl rfl rfl rfl rfl (fun _ _ _ h => h) (by kernel_rfl) (by kernel_rfl) (by kernel_rfl) (fun wd21 hS6 => (r_move rfl)) hS6 fun ac210 hf229 => ?_
      have hf230 := hf229.know 115 (u := .bool true) rfl (congrArg Value.bool (by have e := he7.symm.trans (spE_bad (by have := of_decide_eq_false g85_1; omega)).2; simp only [St.mk.injEq] at e; rw [e.1, e.2.1, e.2.2.1]; exact eqA_true rfl))
      refine any_one (i := 27) (by kernel_rfl) ?_
      refine (op_pure hf230 rfl rfl rfl rfl ca_11 awake_pur hI30 fun ac211 wd22 hI31 hf231 => ⟨?_, ?_⟩)
      · exact (Has.cons (hI31.at 0 rfl) (Has.cons (hI31.at 5 rfl) Has.nil))
      have hS7 : Has [(b1, #[.int .i64 w0, .int .i64 w1, .int .i64 w2], 22), (b6, #[.int .i64 w0, .int .i64 w1, .int .i64 w2], 22)] _ := (Has.cons (hI31.at 0 rfl) (Has.cons (hI31.at 5 rfl) Has.nil))
      refine any_val (i := 28) (v := .bool true) hf231 rfl rfl rfl rfl rfl rfl (fun _ _ _ h => h) (by kernel_rfl) (by kernel_rfl) (by kernel_rfl) (fun wd22 hS7 => (r_pickT rfl rfl)) hS7 fun ac212 hf232 => ?_
      refine any_val (i := 29) (v := .bool true) hf232 rfl rfl rfl rfl rfl rfl (fun _ _ _ h => h) (by kernel_rfl) (by kernel_rfl) (by kernel_rfl) (fun wd22 hS7 => (r_assign rfl)) hS7 fun ac213 hf233 => ?_
      refine any_end (by kernel_rfl) ?_
      clear hI24 ac183 hf199 ac184 hf200 ac185 hf201 ac186 hf202 ac187 hf203 ac188 hf204 ac189 hf205 ac190 hf206 hf207 ac191 hf208 ac192 hf209 ac193 hf210 ac194 hf211 ac195 hf212 ac196 hf213 hf214 ac197 hf215 ac198 hf216 ac199 hf217 ac200 hf218 ac201 hf219 hf220 ac202 hf221 ac203 hf222 ac204 wd17 hI29 hf223 hS5 ac205 hf224 ac206 hf225 ac207 hf226 ac208 hf227 ac209 hf228 hf229 ac210 wd21 hI30 hf230 hS6 ac211 hf231 ac212 hf232 hS7
      refine then_normal ?_
      refine wp_ret ?_
      refine post1 rfl hf233 rfl ⟨?_, hI31.done (fresh_keys (ks := [b1, b2, b3, b4, b5, b6]) rfl (fk_cons hb1 (fk_cons hb2 (fk_cons hb3 (fk_cons hb4 (fk_cons hb5 (fk_cons hb6 fk_nil)))))))⟩
      rfl
  ·
    have hI32 := hI17.call0 hwb5
    refine seq_one (op_val (v := .tuple #[.pointer none, .int .i64 2]) hf82 rfl rfl rfl rfl rfl rfl (r_move rfl) fun ac214 hf234 => ?_)
    refine seq_one (op_val (v := .pointer none) hf234 rfl rfl rfl rfl rfl rfl (r_extract rfl rfl) fun ac215 hf235 => ?_)
    refine seq_one (op_val (v := .int .i64 2) hf235 rfl rfl rfl rfl rfl rfl (r_extract rfl rfl) fun ac216 hf236 => ?_)
    refine seq_one (op_val (v := .pointer none) hf236 rfl rfl rfl rfl rfl rfl (r_assign rfl) fun ac217 hf237 => ?_)
    refine seq_one (op_val (v := .int .i64 2) hf237 rfl rfl rfl rfl rfl rfl (r_assign rfl) fun ac218 hf238 => ?_)
    refine seq_end ?_
    clear ac78 hf80 ac79 wd12 hf81 hI17 hwb5 ac80 hf82 ac214 hf234 ac215 hf235 ac216 hf236 ac217 hf237
    refine then_normal ?_
    refine code_seq ?_
    refine code_seq ?_
    refine seq_start (l := [0, 1]) rfl ?_
    refine seq_one (op_val (v := .agg #[.int .i64 w0, .int .i64 w1, .int .i64 w2]) hf238 rfl rfl rfl rfl rfl rfl (r_loadW ag_22 sz_22 rfl (hI32.at 0 rfl) rfl) fun ac219 hf239 => ?_)
    refine seq_one (op_val (v := .int .i64 0) hf239 rfl rfl rfl rfl rfl rfl (r_move rfl) fun ac220 hf240 => ?_)
    refine seq_end ?_
    clear ac218 hf238 ac219 hf239
    refine then_normal ?_
    refine wp_block ?_
    refine wp_loop_rounds 4 ?_
    refine rounds_go ?_
    refine code_seq ?_
    refine seq_start (l := [0]) rfl ?_
    refine seq_one (op_val (v := .bool true) hf240 rfl rfl rfl rfl rfl rfl (r_lssC rfl rfl (by decide)) fun ac221 hf241 => ?_)
    refine seq_end ?_
    clear ac220 hf240
    refine then_normal ?_
    refine code_seq ?_
    refine code_if_true hf241 rfl ?_
    refine wp_skip ?_
    refine then_normal ?_
    refine code_seq ?_
    refine wp_block ?_
    refine code_seq ?_
    refine seq_start (l := [0, 1]) rfl ?_
    refine seq_one (op_val (v := .int .i64 w0) hf241 rfl rfl rfl rfl rfl rfl (r_index (i := 0) ar_22 ag_3 rfl rfl rfl (by decide) rfl) fun ac222 hf242 => ?_)
    refine seq_one (op_val (v := .int .i64 w0) hf242 rfl rfl rfl rfl rfl rfl (r_assign rfl) fun ac223 hf243 => ?_)
    refine seq_end ?_
    clear ac221 hf241 ac222 hf242
    refine then_normal ?_
    refine code_seq ?_
    refine seq_start (l := [0, 1, 2, 3, 4, 5]) rfl ?_
    refine seq_one (op_val (v := .int .i64 w0) hf243 rfl rfl rfl rfl rfl rfl (r_move rfl) fun ac224 hf244 => ?_)
    refine seq_one (op_val (v := .bool (decide (w0 < 1024))) hf244 rfl rfl rfl rfl rfl rfl (r_lss rfl rfl) fun ac225 hf245 => ?_)
    refine seq_one (op_val (v := .bool (decide (w0 < 1024))) hf245 rfl rfl rfl rfl rfl rfl (r_move rfl) fun ac226 hf246 => ?_)
    rcases Bool.eq_false_or_eq_true (decide (w0 < 1024) : Bool) with g64_3 | g64_3
    · have hf247 := hf246.know 64 (u := .bool true) rfl (congrArg Value.bool g64_3)
      refine seq_one (op_skip hf247 rfl rfl rfl rfl fun ac227 hf248 => ?_)
      refine seq_one (op_skip hf248 rfl rfl rfl rfl fun ac228 hf249 => ?_)
      refine seq_one (op_val (v := .bool true) hf249 rfl rfl rfl rfl rfl rfl (r_pickT rfl rfl) fun ac229 hf250 => ?_)
      refine seq_end ?_
      clear ac223 hf243 ac224 hf244 ac225 hf245 hf246 ac226 hf247 ac227 hf248 ac228 hf249
      refine then_normal ?_
      refine code_if_true hf250 rfl ?_
      refine code_seq ?_
      refine seq_start (l := [0, 1, 2, 3, 4, 5, 6, 7, 8, 9]) rfl ?_
      refine seq_one (op_val (v := .pointer none) hf250 rfl rfl rfl rfl rfl rfl (r_move rfl) fun ac230 hf251 => ?_)
      refine seq_one (op_val (v := .bool true) hf251 rfl rfl rfl rfl rfl rfl (r_eqNil up_24 rfl rfl rfl) fun ac231 hf252 => ?_)
      refine seq_one (op_val (v := .bool true) hf252 rfl rfl rfl rfl rfl rfl (r_move rfl) fun ac232 hf253 => ?_)
      refine seq_one (op_val (v := .int .i64 2) hf253 rfl rfl rfl rfl rfl rfl (r_move rfl) fun ac233 hf254 => ?_)
      refine seq_one (op_val (v := .bool true) hf254 rfl rfl rfl rfl rfl rfl (r_eqlC rfl rfl (by decide)) fun ac234 hf255 => ?_)
      refine seq_one (op_val (v := .bool true) hf255 rfl rfl rfl rfl rfl rfl (r_pickT rfl rfl) fun ac235 hf256 => ?_)
      refine seq_one (op_val (v := .bool true) hf256 rfl rfl rfl rfl rfl rfl (r_move rfl) fun ac236 hf257 => ?_)
      refine seq_one (op_pure hf257 rfl rfl rfl rfl ca_11 awake_pur hI32 fun ac237 wd23 hI33 hf258 => ?_)
      refine seq_one (op_val (v := .bool true) hf258 rfl rfl rfl rfl rfl rfl (r_pickT rfl rfl) fun ac238 hf259 => ?_)
      refine seq_one (op_val (v := .bool true) hf259 rfl rfl rfl rfl rfl rfl (r_assign rfl) fun ac239 hf260 => ?_)
      refine seq_end ?_
      clear ac229 hf250 ac230 hf251 ac231 hf252 ac232 hf253 ac233 hf254 ac234 hf255 ac235 hf256 ac236 wd13 hI32 hf257 ac237 hf258 ac238 hf259
      refine then_normal ?_
      refine wp_ret ?_
      refine block_ret ?_
      refine then_ret ?_
      refine then_ret ?_
      refine block_ret ?_
      refine then_ret ?_
      refine post1 rfl hf260 rfl ⟨?_, hI33.done (fresh_keys (ks := [b1, b2, b3, b4]) rfl (fk_cons hb1 (fk_cons hb2 (fk_cons hb3 (fk_cons hb4 fk_nil)))))⟩
      rfl
    · have hf261 := hf246.know 64 (u := .bool false) rfl (congrArg Value.bool g64_3)
      refine seq_one (op_val (v := .int .i64 w0) hf261 rfl rfl rfl rfl rfl rfl (r_move rfl) fun ac240 hf262 => ?_)
      refine seq_one (op_val (v := .bool (decide (w0 > 1048576))) hf262 rfl rfl rfl rfl rfl rfl (r_gtr rfl rfl) fun ac241 hf263 => ?_)
      refine seq_one (op_val (v := .bool (decide (w0 > 1048576))) hf263 rfl rfl rfl rfl rfl rfl (r_pickF rfl rfl) fun ac242 hf264 => ?_)
      refine seq_end ?_
      clear ac223 hf243 ac224 hf244 ac225 hf245 hf246 ac226 hf261 ac240 hf262 ac241 hf263
      refine then_normal ?_
      refine code_if hf264 rfl (fun c67_4 => ?_) (fun c67_4 => ?_)
      · have hf265 := hf264.know 67 (u := .bool true) rfl (congrArg Value.bool c67_4)
        refine code_seq ?_
        refine seq_start (l := [0, 1, 2, 3, 4, 5, 6, 7, 8, 9]) rfl ?_
        refine seq_one (op_val (v := .pointer none) hf265 rfl rfl rfl rfl rfl rfl (r_move rfl) fun ac243 hf266 => ?_)
        refine seq_one (op_val (v := .bool true) hf266 rfl rfl rfl rfl rfl rfl (r_eqNil up_24 rfl rfl rfl) fun ac244 hf267 => ?_)
        refine seq_one (op_val (v := .bool true) hf267 rfl rfl rfl rfl rfl rfl (r_move rfl) fun ac245 hf268 => ?_)
        refine seq_one (op_val (v := .int .i64 2) hf268 rfl rfl rfl rfl rfl rfl (r_move rfl) fun ac246 hf269 => ?_)
        refine seq_one (op_val (v := .bool true) hf269 rfl rfl rfl rfl rfl rfl (r_eqlC rfl rfl (by decide)) fun ac247 hf270 => ?_)
        refine seq_one (op_val (v := .bool true) hf270 rfl rfl rfl rfl rfl rfl (r_pickT rfl rfl) fun ac248 hf271 => ?_)
        refine seq_one (op_val (v := .bool true) hf271 rfl rfl rfl rfl rfl rfl (r_move rfl) fun ac249 hf272 => ?_)
        refine seq_one (op_pure hf272 rfl rfl rfl rfl ca_11 awake_pur hI32 fun ac250 wd24 hI34 hf273 => ?_)
        refine seq_one (op_val (v := .bool true) hf273 rfl rfl rfl rfl rfl rfl (r_pickT rfl rfl) fun ac251 hf274 => ?_)
        refine seq_one (op_val (v := .bool true) hf274 rfl rfl rfl rfl rfl rfl (r_assign rfl) fun ac252 hf275 => ?_)
        refine seq_end ?_
        clear hf264 ac242 hf265 ac243 hf266 ac244 hf267 ac245 hf268 ac246 hf269 ac247 hf270 ac248 hf271 ac249 wd13 hI32 hf272 ac250 hf273 ac251 hf274
        refine then_normal ?_
        refine wp_ret ?_
        refine block_ret ?_
        refine then_ret ?_
        refine then_ret ?_
        refine block_ret ?_
        refine then_ret ?_
        refine post1 rfl hf275 rfl ⟨?_, hI34.done (fresh_keys (ks := [b1, b2, b3, b4]) rfl (fk_cons hb1 (fk_cons hb2 (fk_cons hb3 (fk_cons hb4 fk_nil)))))⟩
        rfl
      · have hf276 := hf264.know 67 (u := .bool false) rfl (congrArg Value.bool c67_4)
        refine wp_skip ?_
        refine block_normal ?_
        refine then_normal ?_
        refine seq_start (l := [0, 1]) rfl ?_
        refine seq_one (op_val (v := .int .i64 1) hf276 rfl rfl rfl rfl rfl rfl (r_add (c := 1) rfl rfl (by rfl)) fun ac253 hf277 => ?_)
        refine seq_one (op_val (v := .int .i64 1) hf277 rfl rfl rfl rfl rfl rfl (r_move rfl) fun ac254 hf278 => ?_)
        refine seq_end ?_
        clear hf264 ac242 hf276 ac253 hf277
        refine then_normal ?_
        refine rounds_go ?_
        refine code_seq ?_
        refine seq_start (l := [0]) rfl ?_
        refine seq_one (op_val (v := .bool true) hf278 rfl rfl rfl rfl rfl rfl (r_lssC rfl rfl (by decide)) fun ac255 hf279 => ?_)
        refine seq_end ?_
        clear ac254 hf278
        refine then_normal ?_
        refine code_seq ?_
        refine code_if_true hf279 rfl ?_
        refine wp_skip ?_
        refine then_normal ?_
        refine code_seq ?_
        refine wp_block ?_
        refine code_seq ?_
        refine seq_start (l := [0, 1]) rfl ?_
        refine seq_one (op_val (v := .int .i64 w1) hf279 rfl rfl rfl rfl rfl rfl (r_index (i := 1) ar_22 ag_3 rfl rfl rfl (by decide) rfl) fun ac256 hf280 => ?_)
        refine seq_one (op_val (v := .int .i64 w1) hf280 rfl rfl rfl rfl rfl rfl (r_assign rfl) fun ac257 hf281 => ?_)
        refine seq_end ?_
        clear ac255 hf279 ac256 hf280
        refine then_normal ?_
        refine code_seq ?_
        refine seq_start (l := [0, 1, 2, 3, 4, 5]) rfl ?_
        refine seq_one (op_val (v := .int .i64 w1) hf281 rfl rfl rfl rfl rfl rfl (r_move rfl) fun ac258 hf282 => ?_)
        refine seq_one (op_val (v := .bool (decide (w1 < 1024))) hf282 rfl rfl rfl rfl rfl rfl (r_lss rfl rfl) fun ac259 hf283 => ?_)
        refine seq_one (op_val (v := .bool (decide (w1 < 1024))) hf283 rfl rfl rfl rfl rfl rfl (r_move rfl) fun ac260 hf284 => ?_)
        rcases Bool.eq_false_or_eq_true (decide (w1 < 1024) : Bool) with g64_5 | g64_5
        · have hf285 := hf284.know 64 (u := .bool true) rfl (congrArg Value.bool g64_5)
          refine seq_one (op_skip hf285 rfl rfl rfl rfl fun ac261 hf286 => ?_)
          refine seq_one (op_skip hf286 rfl rfl rfl rfl fun ac262 hf287 => ?_)
          refine seq_one (op_val (v := .bool true) hf287 rfl rfl rfl rfl rfl rfl (r_pickT rfl rfl) fun ac263 hf288 => ?_)
          refine seq_end ?_
          clear ac257 hf281 ac258 hf282 ac259 hf283 hf284 ac260 hf285 ac261 hf286 ac262 hf287
          refine then_normal ?_
          refine code_if_true hf288 rfl ?_
          refine code_seq ?_
          refine seq_start (l := [0, 1, 2, 3, 4, 5, 6, 7, 8, 9]) rfl ?_
          refine seq_one (op_val (v := .pointer none) hf288 rfl rfl rfl rfl rfl rfl (r_move rfl) fun ac264 hf289 => ?_)
          refine seq_one (op_val (v := .bool true) hf289 rfl rfl rfl rfl rfl rfl (r_eqNil up_24 rfl rfl rfl) fun ac265 hf290 => ?_)
          refine seq_one (op_val (v := .bool true) hf290 rfl rfl rfl rfl rfl rfl (r_move rfl) fun ac266 hf291 => ?_)
          refine seq_one (op_val (v := .int .i64 2) hf291 rfl rfl rfl rfl rfl rfl (r_move rfl) fun ac267 hf292 => ?_)
          refine seq_one (op_val (v := .bool true) hf292 rfl rfl rfl rfl rfl rfl (r_eqlC rfl rfl (by decide)) fun ac268 hf293 => ?_)
          refine seq_one (op_val (v := .bool true) hf293 rfl rfl rfl rfl rfl rfl (r_pickT rfl rfl) fun ac269 hf294 => ?_)
          refine seq_one (op_val (v := .bool true) hf294 rfl rfl rfl rfl rfl rfl (r_move rfl) fun ac270 hf295 => ?_)
          refine seq_one (op_pure hf295 rfl rfl rfl rfl ca_11 awake_pur hI32 fun ac271 wd25 hI35 hf296 => ?_)
          refine seq_one (op_val (v := .bool true) hf296 rfl rfl rfl rfl rfl rfl (r_pickT rfl rfl) fun ac272 hf297 => ?_)
          refine seq_one (op_val (v := .bool true) hf297 rfl rfl rfl rfl rfl rfl (r_assign rfl) fun ac273 hf298 => ?_)
          refine seq_end ?_
          clear ac263 hf288 ac264 hf289 ac265 hf290 ac266 hf291 ac267 hf292 ac268 hf293 ac269 hf294 ac270 wd13 hI32 hf295 ac271 hf296 ac272 hf297
          refine then_normal ?_
          refine wp_ret ?_
          refine block_ret ?_
          refine then_ret ?_
          refine then_ret ?_
          refine block_ret ?_
          refine then_ret ?_
          refine post1 rfl hf298 rfl ⟨?_, hI35.done (fresh_keys (ks := [b1, b2, b3, b4]) rfl (fk_cons hb1 (fk_cons hb2 (fk_cons hb3 (fk_cons hb4 fk_nil)))))⟩
          rfl
        · have hf299 := hf284.know 64 (u := .bool false) rfl (congrArg Value.bool g64_5)
          refine seq_one (op_val (v := .int .i64 w1) hf299 rfl rfl rfl rfl rfl rfl (r_move rfl) fun ac274 hf300 => ?_)
          refine seq_one (op_val (v := .bool (decide (w1 > 1048576))) hf300 rfl rfl rfl rfl rfl rfl (r_gtr rfl rfl) fun ac275 hf301 => ?_)
          refine seq_one (op_val (v := .bool (decide (w1 > 1048576))) hf301 rfl rfl rfl rfl rfl rfl (r_pickF rfl rfl) fun ac276 hf302 => ?_)
          refine seq_end ?_
          clear ac257 hf281 ac258 hf282 ac259 hf283 hf284 ac260 hf299 ac274 hf300 ac275 hf301
          refine then_normal ?_
          refine code_if hf302 rfl (fun c67_6 => ?_) (fun c67_6 => ?_)
          · have hf303 := hf302.know 67 (u := .bool true) rfl (congrArg Value.bool c67_6)
            refine code_seq ?_
            refine seq_start (l := [0, 1, 2, 3, 4, 5, 6, 7, 8, 9]) rfl ?_
            refine seq_one (op_val (v := .pointer none) hf303 rfl rfl rfl rfl rfl rfl (r_move rfl) fun ac277 hf304 => ?_)
            refine seq_one (op_val (v := .bool true) hf304 rfl rfl rfl rfl rfl rfl (r_eqNil up_24 rfl rfl rfl) fun ac278 hf305 => ?_)
            refine seq_one (op_val (v := .bool true) hf305 rfl rfl rfl rfl rfl rfl (r_move rfl) fun ac279 hf306 => ?_)
            refine seq_one (op_val (v := .int .i64 2) hf306 rfl rfl rfl rfl rfl rfl (r_move rfl) fun ac280 hf307 => ?_)
            refine seq_one (op_val (v := .bool true) hf307 rfl rfl rfl rfl rfl rfl (r_eqlC rfl rfl (by decide)) fun ac281 hf308 => ?_)
            refine seq_one (op_val (v := .bool true) hf308 rfl rfl rfl rfl rfl rfl (r_pickT rfl rfl) fun ac282 hf309 => ?_)
            refine seq_one (op_val (v := .bool true) hf309 rfl rfl rfl rfl rfl rfl (r_move rfl) fun ac283 hf310 => ?_)
            refine seq_one (op_pure hf310 rfl rfl rfl rfl ca_11 awake_pur hI32 fun ac284 wd26 hI36 hf311 => ?_)
            refine seq_one (op_val (v := .bool true) hf311 rfl rfl rfl rfl rfl rfl (r_pickT rfl rfl) fun ac285 hf312 => ?_)
            refine seq_one (op_val (v := .bool true) hf312 rfl rfl rfl rfl rfl rfl (r_assign rfl) fun ac286 hf313 => ?_)
            refine seq_end ?_
            clear hf302 ac276 hf303 ac277 hf304 ac278 hf305 ac279 hf306 ac280 hf307 ac281 hf308 ac282 hf309 ac283 wd13 hI32 hf310 ac284 hf311 ac285 hf312
            refine then_normal ?_
            refine wp_ret ?_
            refine block_ret ?_
            refine then_ret ?_
            refine then_ret ?_
            refine block_ret ?_
            refine then_ret ?_
            refine post1 rfl hf313 rfl ⟨?_, hI36.done (fresh_keys (ks := [b1, b2, b3, b4]) rfl (fk_cons hb1 (fk_cons hb2 (fk_cons hb3 (fk_cons hb4 fk_nil)))))⟩
            rfl
          · have hf314 := hf302.know 67 (u := .bool false) rfl (congrArg Value.bool c67_6)
            refine wp_skip ?_
            refine block_normal ?_
            refine then_normal ?_
            refine seq_start (l := [0, 1]) rfl ?_
            refine seq_one (op_val (v := .int .i64 2) hf314 rfl rfl rfl rfl rfl rfl (r_add (c := 2) rfl rfl (by rfl)) fun ac287 hf315 => ?_)
            refine seq_one (op_val (v := .int .i64 2) hf315 rfl rfl rfl rfl rfl rfl (r_move rfl) fun ac288 hf316 => ?_)
            refine seq_end ?_
            clear hf302 ac276 hf314 ac287 hf315
            refine then_normal ?_
            refine rounds_go ?_
            refine code_seq ?_
            refine seq_start (l := [0]) rfl ?_
            refine seq_one (op_val (v := .bool true) hf316 rfl rfl rfl rfl rfl rfl (r_lssC rfl rfl (by decide)) fun ac289 hf317 => ?_)
            refine seq_end ?_
            clear ac288 hf316
            refine then_normal ?_
            refine code_seq ?_
            refine code_if_true hf317 rfl ?_
            refine wp_skip ?_
            refine then_normal ?_
            refine code_seq ?_
            refine wp_block ?_
            refine code_seq ?_
            refine seq_start (l := [0, 1]) rfl ?_
            refine seq_one (op_val (v := .int .i64 w2) hf317 rfl rfl rfl rfl rfl rfl (r_index (i := 2) ar_22 ag_3 rfl rfl rfl (by decide) rfl) fun ac290 hf318 => ?_)
            refine seq_one (op_val (v := .int .i64 w2) hf318 rfl rfl rfl rfl rfl rfl (r_assign rfl) fun ac291 hf319 => ?_)
            refine seq_end ?_
            clear ac289 hf317 ac290 hf318
            refine then_normal ?_
            refine code_seq ?_
            refine seq_start (l := [0, 1, 2, 3, 4, 5]) rfl ?_
            refine seq_one (op_val (v := .int .i64 w2) hf319 rfl rfl rfl rfl rfl rfl (r_move rfl) fun ac292 hf320 => ?_)
            refine seq_one (op_val (v := .bool (decide (w2 < 1024))) hf320 rfl rfl rfl rfl rfl rfl (r_lss rfl rfl) fun ac293 hf321 => ?_)
            refine seq_one (op_val (v := .bool (decide (w2 < 1024))) hf321 rfl rfl rfl rfl rfl rfl (r_move rfl) fun ac294 hf322 => ?_)
            rcases Bool.eq_false_or_eq_true (decide (w2 < 1024) : Bool) with g64_7 | g64_7
            · have hf323 := hf322.know 64 (u := .bool true) rfl (congrArg Value.bool g64_7)
              refine seq_one (op_skip hf323 rfl rfl rfl rfl fun ac295 hf324 => ?_)
              refine seq_one (op_skip hf324 rfl rfl rfl rfl fun ac296 hf325 => ?_)
              refine seq_one (op_val (v := .bool true) hf325 rfl rfl rfl rfl rfl rfl (r_pickT rfl rfl) fun ac297 hf326 => ?_)
              refine seq_end ?_
              clear ac291 hf319 ac292 hf320 ac293 hf321 hf322 ac294 hf323 ac295 hf324 ac296 hf325
              refine then_normal ?_
              refine code_if_true hf326 rfl ?_
              refine code_seq ?_
              refine seq_start (l := [0, 1, 2, 3, 4, 5, 6, 7, 8, 9]) rfl ?_
              refine seq_one (op_val (v := .pointer none) hf326 rfl rfl rfl rfl rfl rfl (r_move rfl) fun ac298 hf327 => ?_)
              refine seq_one (op_val (v := .bool true) hf327 rfl rfl rfl rfl rfl rfl (r_eqNil up_24 rfl rfl rfl) fun ac299 hf328 => ?_)
              refine seq_one (op_val (v := .bool true) hf328 rfl rfl rfl rfl rfl rfl (r_move rfl) fun ac300 hf329 => ?_)
              refine seq_one (op_val (v := .int .i64 2) hf329 rfl rfl rfl rfl rfl rfl (r_move rfl) fun ac301 hf330 => ?_)
              refine seq_one (op_val (v := .bool true) hf330 rfl rfl rfl rfl rfl rfl (r_eqlC rfl rfl (by decide)) fun ac302 hf331 => ?_)
              refine seq_one (op_val (v := .bool true) hf331 rfl rfl rfl rfl rfl rfl (r_pickT rfl rfl) fun ac303 hf332 => ?_)
              refine seq_one (op_val (v := .bool true) hf332 rfl rfl rfl rfl rfl rfl (r_move rfl) fun ac304 hf333 => ?_)
              refine seq_one (op_pure hf333 rfl rfl rfl rfl ca_11 awake_pur hI32 fun ac305 wd27 hI37 hf334 => ?_)
              refine seq_one (op_val (v := .bool true) hf334 rfl rfl rfl rfl rfl rfl (r_pickT rfl rfl) fun ac306 hf335 => ?_)
              refine seq_one (op_val (v := .bool true) hf335 rfl rfl rfl rfl rfl rfl (r_assign rfl) fun ac307 hf336 => ?_)
              refine seq_end ?_
              clear ac297 hf326 ac298 hf327 ac299 hf328 ac300 hf329 ac301 hf330 ac302 hf331 ac303 hf332 ac304 wd13 hI32 hf333 ac305 hf334 ac306 hf335
              refine then_normal ?_
              refine wp_ret ?_
              refine block_ret ?_
              refine then_ret ?_
              refine then_ret ?_
              refine block_ret ?_
              refine then_ret ?_
              refine post1 rfl hf336 rfl ⟨?_, hI37.done (fresh_keys (ks := [b1, b2, b3, b4]) rfl (fk_cons hb1 (fk_cons hb2 (fk_cons hb3 (fk_cons hb4 fk_nil)))))⟩
              rfl
            · have hf337 := hf322.know 64 (u := .bool false) rfl (congrArg Value.bool g64_7)
              refine seq_one (op_val (v := .int .i64 w2) hf337 rfl rfl rfl rfl rfl rfl (r_move rfl) fun ac308 hf338 => ?_)
              refine seq_one (op_val (v := .bool (decide (w2 > 1048576))) hf338 rfl rfl rfl rfl rfl rfl (r_gtr rfl rfl) fun ac309 hf339 => ?_)
              refine seq_one (op_val (v := .bool (decide (w2 > 1048576))) hf339 rfl rfl rfl rfl rfl rfl (r_pickF rfl rfl) fun ac310 hf340 => ?_)
              refine seq_end ?_
              clear ac291 hf319 ac292 hf320 ac293 hf321 hf322 ac294 hf337 ac308 hf338 ac309 hf339
              refine then_normal ?_
              refine code_if hf340 rfl (fun c67_8 => ?_) (fun c67_8 => ?_)
              · have hf341 := hf340.know 67 (u := .bool true) rfl (congrArg Value.bool c67_8)
                refine code_seq ?_
                refine seq_start (l := [0, 1, 2, 3, 4, 5, 6, 7, 8, 9]) rfl ?_
                refine seq_one (op_val (v := .pointer none) hf341 rfl rfl rfl rfl rfl rfl (r_move rfl) fun ac311 hf342 => ?_)
                refine seq_one (op_val (v := .bool true) hf342 rfl rfl rfl rfl rfl rfl (r_eqNil up_24 rfl rfl rfl) fun ac312 hf343 => ?_)
                refine seq_one (op_val (v := .bool true) hf343 rfl rfl rfl rfl rfl rfl (r_move rfl) fun ac313 hf344 => ?_)
                refine seq_one (op_val (v := .int .i64 2) hf344 rfl rfl rfl rfl rfl rfl (r_move rfl) fun ac314 hf345 => ?_)
                refine seq_one (op_val (v := .bool true) hf345 rfl rfl rfl rfl rfl rfl (r_eqlC rfl rfl (by decide)) fun ac315 hf346 => ?_)
                refine seq_one (op_val (v := .bool true) hf346 rfl rfl rfl rfl rfl rfl (r_pickT rfl rfl) fun ac316 hf347 => ?_)
                refine seq_one (op_val (v := .bool true) hf347 rfl rfl rfl rfl rfl rfl (r_move rfl) fun ac317 hf348 => ?_)
                refine seq_one (op_pure hf348 rfl rfl rfl rfl ca_11 awake_pur hI32 fun ac318 wd28 hI38 hf349 => ?_)
                refine seq_one (op_val (v := .bool true) hf349 rfl rfl rfl rfl rfl rfl (r_pickT rfl rfl) fun ac319 hf350 => ?_)
                refine seq_one (op_val (v := .bool true) hf350 rfl rfl rfl rfl rfl rfl (r_assign rfl) fun ac320 hf351 => ?_)
                refine seq_end ?_
                clear hf340 ac310 hf341 ac311 hf342 ac312 hf343 ac313 hf344 ac314 hf345 ac315 hf346 ac316 hf347 ac317 wd13 hI32 hf348 ac318 hf349 ac319 hf350
                refine then_normal ?_
                refine wp_ret ?_
                refine block_ret ?_
                refine then_ret ?_
                refine then_ret ?_
                refine block_ret ?_
                refine then_ret ?_
                refine post1 rfl hf351 rfl ⟨?_, hI38.done (fresh_keys (ks := [b1, b2, b3, b4]) rfl (fk_cons hb1 (fk_cons hb2 (fk_cons hb3 (fk_cons hb4 fk_nil)))))⟩
                rfl
              · have hf352 := hf340.know 67 (u := .bool false) rfl (congrArg Value.bool c67_8)
                refine wp_skip ?_
                refine block_normal ?_
                refine then_normal ?_
                refine seq_start (l := [0, 1]) rfl ?_
                refine seq_one (op_val (v := .int .i64 3) hf352 rfl rfl rfl rfl rfl rfl (r_add (c := 3) rfl rfl (by rfl)) fun ac321 hf353 => ?_)
                refine seq_one (op_val (v := .int .i64 3) hf353 rfl rfl rfl rfl rfl rfl (r_move rfl) fun ac322 hf354 => ?_)
                refine seq_end ?_
                clear hf340 ac310 hf352 ac321 hf353
                refine then_normal ?_
                refine rounds_go ?_
                refine code_seq ?_
                refine seq_start (l := [0]) rfl ?_
                refine seq_one (op_val (v := .bool false) hf354 rfl rfl rfl rfl rfl rfl (r_lssC rfl rfl (by decide)) fun ac323 hf355 => ?_)
                refine seq_end ?_
                clear ac322 hf354
                refine then_normal ?_
                refine code_seq ?_
                refine code_if_false hf355 rfl ?_
                refine wp_exit ?_
                refine then_exit ?_
                refine then_exit ?_
                refine block_here ?_
                refine then_normal ?_
                refine code_seq ?_
                refine seq_start (l := [0, 1, 2, 3]) rfl ?_
                refine seq_one (op_val (v := .pointer none) hf355 rfl rfl rfl rfl rfl rfl (r_move rfl) fun ac324 hf356 => ?_)
                refine seq_one (op_pure hf356 rfl rfl rfl rfl ca_17 (credits_nil ) hI32 fun ac325 wd29 hI39 hf357 => ?_)
                refine seq_one (op_alloc hf357 rfl rfl rfl ze_22 hI39 fun ac326 b6 wd30 hb6 hI40 hf358 => ?_)
                have hI41 : Inv w [(b1, #[.int .i64 w0, .int .i64 w1, .int .i64 w2], 22), (b2, #[.bool h0, .bool h1, .bool h2], 33), (b3, #[.int .i64 0, .int .i64 0, .int .i64 0, .int .i64 0, .int .i64 0, .int .i64 0, .int .i64 0], 58), (b4, #[.pointer none, .pointer (some ⟨b3, 0, none⟩)], 24), (b6, #[.int .i64 0, .int .i64 0, .int .i64 0], 22)] wd30 := hI40
                refine seq_one (op_storeW (cells := #[.int .i64 0, .int .i64 0, .int .i64 0]) 4 hf358 rfl rfl rfl rfl rfl sz_22 rfl rfl hI41 rfl rfl fun wd31 hI42 => ?_)
                refine seq_end ?_
                clear ac323 hf355 ac324 wd13 hI32 hf356 ac325 wd29 hI39 hf357 hI40 wd30 hI41
                refine then_normal ?_
                refine code_seq ?_
                refine seq_start (l := [0, 1, 2, 3]) rfl ?_
                refine seq_one (op_val (v := .pointer none) hf358 rfl rfl rfl rfl rfl rfl (r_move rfl) fun ac327 hf359 => ?_)
                refine seq_one (op_val (v := .int .i64 m) hf359 rfl rfl rfl rfl rfl rfl (r_move rfl) fun ac328 hf360 => ?_)
                refine seq_one (op_pure hf360 rfl rfl rfl rfl ca_14 (spend_nil m) hI42 fun ac329 wd32 hI43 hf361 => ?_)
                refine seq_one (op_val (v := .int .i64 1) hf361 rfl rfl rfl rfl rfl rfl (r_assign rfl) fun ac330 hf362 => ?_)
                refine seq_end ?_
                clear ac326 hf358 ac327 hf359 ac328 wd31 hI42 hf360 ac329 hf361
                refine then_normal ?_
                refine code_seq ?_
                refine seq_start (l := [0, 1, 2, 3, 4, 5, 6]) rfl ?_
                refine seq_one (op_val (v := .int .i64 m) hf362 rfl rfl rfl rfl rfl rfl (r_move rfl) fun ac331 hf363 => ?_)
                refine seq_one (op_val (v := .bool (decide (m ≥ 1))) hf363 rfl rfl rfl rfl rfl rfl (r_geq rfl rfl) fun ac332 hf364 => ?_)
                refine seq_one (op_val (v := .bool (decide (m ≥ 1))) hf364 rfl rfl rfl rfl rfl rfl (r_move rfl) fun ac333 hf365 => ?_)
                rcases Bool.eq_false_or_eq_true (decide (m ≥ 1) : Bool) with g85_9 | g85_9
                · have hf366 := hf365.know 85 (u := .bool true) rfl (congrArg Value.bool g85_9)
                  refine seq_one (op_val (v := .int .i64 m) hf366 rfl rfl rfl rfl rfl rfl (r_move rfl) fun ac334 hf367 => ?_)
                  refine seq_one (op_val (v := .bool (decide (m ≤ 65536))) hf367 rfl rfl rfl rfl rfl rfl (r_leq rfl rfl) fun ac335 hf368 => ?_)
                  refine seq_one (op_val (v := .bool (decide (m ≤ 65536))) hf368 rfl rfl rfl rfl rfl rfl (r_pickT rfl rfl) fun ac336 hf369 => ?_)
                  refine seq_one (op_val (v := .bool (decide (m ≤ 65536))) hf369 rfl rfl rfl rfl rfl rfl (r_assign rfl) fun ac337 hf370 => ?_)
                  refine seq_end ?_
                  clear ac330 hf362 ac331 hf363 ac332 hf364 hf365 ac333 hf366 ac334 hf367 ac335 hf368 ac336 hf369
                  refine then_normal ?_
                  refine code_seq ?_
                  refine any_start (fun w => Has [(b1, #[.int .i64 w0, .int .i64 w1, .int .i64 w2], 22), (b6, #[.int .i64 0, .int .i64 0, .int .i64 0], 22)] w) follows (Has.drew (Has.cons (hI43.at 0 rfl) (Has.cons (hI43.at 4 rfl) Has.nil))) ?_
                  have hS8 : Has [(b1, #[.int .i64 w0, .int .i64 w1, .int .i64 w2], 22), (b6, #[.int .i64 0, .int .i64 0, .int .i64 0], 22)] _ := Has.drew (Has.cons (hI43.at 0 rfl) (Has.cons (hI43.at 4 rfl) Has.nil))
                  have hI44 := hI43.drew
                  refine any_val (i := 0) (v := .int .i64 2) hf370 rfl rfl rfl rfl rfl rfl (fun _ _ _ h => h) (by kernel_rfl) (by kernel_rfl) (by kernel_rfl) (fun wd32 hS8 => (r_move rfl)) hS8 fun ac338 hf371 => ?_
                  refine any_val (i := 1) (v := .bool false) hf371 rfl rfl rfl rfl rfl rfl (fun _ _ _ h => h) (by kernel_rfl) (by kernel_rfl) (by kernel_rfl) (fun wd32 hS8 => (r_eqlC rfl rfl (by decide))) hS8 fun ac339 hf372 => ?_
                  refine any_val (i := 2) (v := .bool false) hf372 rfl rfl rfl rfl rfl rfl (fun _ _ _ h => h) (by kernel_rfl) (by kernel_rfl) (by kernel_rfl) (fun wd32 hS8 => (r_move rfl)) hS8 fun ac340 hf373 => ?_
                  refine any_skip (i := 3) hf373 rfl rfl rfl rfl (fun _ _ _ h => h) (by kernel_rfl) (by kernel_rfl) (by kernel_rfl) hS8 fun ac341 hf374 => ?_
                  refine any_skip (i := 4) hf374 rfl rfl rfl rfl (fun _ _ _ h => h) (by kernel_rfl) (by kernel_rfl) (by kernel_rfl) hS8 fun ac342 hf375 => ?_
                  refine any_skip (i := 5) hf375 rfl rfl rfl rfl (fun _ _ _ h => h) (by kernel_rfl) (by kernel_rfl) (by kernel_rfl) hS8 fun ac343 hf376 => ?_
                  refine any_val (i := 6) (v := .bool false) hf376 rfl rfl rfl rfl rfl rfl (fun _ _ _ h => h) (by kernel_rfl) (by kernel_rfl) (by kernel_rfl) (fun wd32 hS8 => (r_pickF rfl rfl)) hS8 fun ac344 hf377 => ?_
                  refine any_val (i := 7) (v := .bool false) hf377 rfl rfl rfl rfl rfl rfl (fun _ _ _ h => h) (by kernel_rfl) (by kernel_rfl) (by kernel_rfl) (fun wd32 hS8 => (r_move rfl)) hS8 fun ac345 hf378 => ?_
                  refine any_skip (i := 8) hf378 rfl rfl rfl rfl (fun _ _ _ h => h) (by kernel_rfl) (by kernel_rfl) (by kernel_rfl) hS8 fun ac346 hf379 => ?_
                  refine any_skip (i := 9) hf379 rfl rfl rfl rfl (fun _ _ _ h => h) (by kernel_rfl) (by kernel_rfl) (by kernel_rfl) hS8 fun ac347 hf380 => ?_
                  refine any_skip (i := 10) hf380 rfl rfl rfl rfl (fun _ _ _ h => h) (by kernel_rfl) (by kernel_rfl) (by kernel_rfl) hS8 fun ac348 hf381 => ?_
                  refine any_skip (i := 11) hf381 rfl rfl rfl rfl (fun _ _ _ h => h) (by kernel_rfl) (by kernel_rfl) (by kernel_rfl) hS8 fun ac349 hf382 => ?_
                  refine any_val (i := 12) (v := .bool false) hf382 rfl rfl rfl rfl rfl rfl (fun _ _ _ h => h) (by kernel_rfl) (by kernel_rfl) (by kernel_rfl) (fun wd32 hS8 => (r_pickF rfl rfl)) hS8 fun ac350 hf383 => ?_
                  refine any_val (i := 13) (v := .bool false) hf383 rfl rfl rfl rfl rfl rfl (fun _ _ _ h => h) (by kernel_rfl) (by kernel_rfl) (by kernel_rfl) (fun wd32 hS8 => (r_move rfl)) hS8 fun ac351 hf384 => ?_
                  refine any_skip (i := 14) hf384 rfl rfl rfl rfl (fun _ _ _ h => h) (by kernel_rfl) (by kernel_rfl) (by kernel_rfl) hS8 fun ac352 hf385 => ?_
                  refine any_skip (i := 15) hf385 rfl rfl rfl rfl (fun _ _ _ h => h) (by kernel_rfl) (by kernel_rfl) (by kernel_rfl) hS8 fun ac353 hf386 => ?_
                  refine any_skip (i := 16) hf386 rfl rfl rfl rfl (fun _ _ _ h => h) (by kernel_rfl) (by kernel_rfl) (by kernel_rfl) hS8 fun ac354 hf387 => ?_
                  refine any_skip (i := 17) hf387 rfl rfl rfl rfl (fun _ _ _ h => h) (by kernel_rfl) (by kernel_rfl) (by kernel_rfl) hS8 fun ac355 hf388 => ?_
                  refine any_skip (i := 18) hf388 rfl rfl rfl rfl (fun _ _ _ h => h) (by kernel_rfl) (by kernel_rfl) (by kernel_rfl) hS8 fun ac356 hf389 => ?_
                  refine any_skip (i := 19) hf389 rfl rfl rfl rfl (fun _ _ _ h => h) (by kernel_rfl) (by kernel_rfl) (by kernel_rfl) hS8 fun ac357 hf390 => ?_
                  refine any_skip (i := 20) hf390 rfl rfl rfl rfl (fun _ _ _ h => h) (by kernel_rfl) (by kernel_rfl) (by kernel_rfl) hS8 fun ac358 hf391 => ?_
                  refine any_skip (i := 21) hf391 rfl rfl rfl rfl (fun _ _ _ h => h) (by kernel_rfl) (by kernel_rfl) (by kernel_rfl) hS8 fun ac359 hf392 => ?_
                  refine any_skip (i := 22) hf392 rfl rfl rfl rfl (fun _ _ _ h => h) (by kernel_rfl) (by kernel_rfl) (by kernel_rfl) hS8 fun ac360 hf393 => ?_
                  refine any_skip (i := 23) hf393 rfl rfl rfl rfl (fun _ _ _ h => h) (by kernel_rfl) (by kernel_rfl) (by kernel_rfl) hS8 fun ac361 hf394 => ?_
                  refine any_skip (i := 24) hf394 rfl rfl rfl rfl (fun _ _ _ h => h) (by kernel_rfl) (by kernel_rfl) (by kernel_rfl) hS8 fun ac362 hf395 => ?_
                  refine any_val (i := 25) (v := .bool false) hf395 rfl rfl rfl rfl rfl rfl (fun _ _ _ h => h) (by kernel_rfl) (by kernel_rfl) (by kernel_rfl) (fun wd32 hS8 => (r_pickF rfl rfl)) hS8 fun ac363 hf396 => ?_
                  refine any_val (i := 26) (v := .bool false) hf396 rfl rfl rfl rfl rfl rfl (fun _ _ _ h => h) (by kernel_rfl) (by kernel_rfl) (by kernel_rfl) (fun wd32 hS8 => (r_move rfl)) hS8 fun ac364 hf397 => ?_
                  refine any_skip (i := 27) hf397 rfl rfl rfl rfl (fun _ _ _ h => h) (by kernel_rfl) (by kernel_rfl) (by kernel_rfl) hS8 fun ac365 hf398 => ?_
                  refine any_val (i := 28) (v := .bool false) hf398 rfl rfl rfl rfl rfl rfl (fun _ _ _ h => h) (by kernel_rfl) (by kernel_rfl) (by kernel_rfl) (fun wd32 hS8 => (r_pickF rfl rfl)) hS8 fun ac366 hf399 => ?_
                  refine any_val (i := 29) (v := .bool false) hf399 rfl rfl rfl rfl rfl rfl (fun _ _ _ h => h) (by kernel_rfl) (by kernel_rfl) (by kernel_rfl) (fun wd32 hS8 => (r_assign rfl)) hS8 fun ac367 hf400 => ?_
                  refine any_end (by kernel_rfl) ?_
                  clear hI43 ac337 hf370 ac338 hf371 ac339 hf372 ac340 hf373 ac341 hf374 ac342 hf375 ac343 hf376 ac344 hf377 ac345 hf378 ac346 hf379 ac347 hf380 ac348 hf381 ac349 hf382 ac350 hf383 ac351 hf384 ac352 hf385 ac353 hf386 ac354 hf387 ac355 hf388 ac356 hf389 ac357 hf390 ac358 hf391 ac359 hf392 ac360 hf393 ac361 hf394 ac362 hf395 ac363 hf396 ac364 hf397 ac365 hf398 ac366 hf399 hS8
                  refine then_normal ?_
                  refine wp_ret ?_
                  refine post1 rfl hf400 rfl ⟨?_, hI44.done (fresh_keys (ks := [b1, b2, b3, b4, b6]) rfl (fk_cons hb1 (fk_cons hb2 (fk_cons hb3 (fk_cons hb4 (fk_cons hb6 fk_nil))))))⟩
                  exfalso
                  simp only [decide_eq_true_eq, decide_eq_false_iff_not] at g64_3 c67_4 g64_5 c67_6 g64_7 c67_8
                  exact hv ⟨by omega, by omega, by omega, by omega, by omega, by omega⟩
                · have hf401 := hf365.know 85 (u := .bool false) rfl (congrArg Value.bool g85_9)
                  refine seq_one (op_skip hf401 rfl rfl rfl rfl fun ac368 hf402 => ?_)
                  refine seq_one (op_skip hf402 rfl rfl rfl rfl fun ac369 hf403 => ?_)
                  refine seq_one (op_val (v := .bool false) hf403 rfl rfl rfl rfl rfl rfl (r_pickF rfl rfl) fun ac370 hf404 => ?_)
                  refine seq_one (op_val (v := .bool false) hf404 rfl rfl rfl rfl rfl rfl (r_assign rfl) fun ac371 hf405 => ?_)
                  refine seq_end ?_
                  clear ac330 hf362 ac331 hf363 ac332 hf364 hf365 ac333 hf401 ac368 hf402 ac369 hf403 ac370 hf404
                  refine then_normal ?_
                  refine code_seq ?_
                  refine any_start (fun w => Has [(b1, #[.int .i64 w0, .int .i64 w1, .int .i64 w2], 22), (b6, #[.int .i64 0, .int .i64 0, .int .i64 0], 22)] w) follows (Has.drew (Has.cons (hI43.at 0 rfl) (Has.cons (hI43.at 4 rfl) Has.nil))) ?_
                  have hS9 : Has [(b1, #[.int .i64 w0, .int .i64 w1, .int .i64 w2], 22), (b6, #[.int .i64 0, .int .i64 0, .int .i64 0], 22)] _ := Has.drew (Has.cons (hI43.at 0 rfl) (Has.cons (hI43.at 4 rfl) Has.nil))
                  have hI45 := hI43.drew
                  refine any_val (i := 0) (v := .int .i64 2) hf405 rfl rfl rfl rfl rfl rfl (fun _ _ _ h => h) (by kernel_rfl) (by kernel_rfl) (by kernel_rfl) (fun wd32 hS9 => (r_move rfl)) hS9 fun ac372 hf406 => ?_
                  refine any_val (i := 1) (v := .bool false) hf406 rfl rfl rfl rfl rfl rfl (fun _ _ _ h => h) (by kernel_rfl) (by kernel_rfl) (by kernel_rfl) (fun wd32 hS9 => (r_eqlC rfl rfl (by decide))) hS9 fun ac373 hf407 => ?_
                  refine any_val (i := 2) (v := .bool false) hf407 rfl rfl rfl rfl rfl rfl (fun _ _ _ h => h) (by kernel_rfl) (by kernel_rfl) (by kernel_rfl) (fun wd32 hS9 => (r_move rfl)) hS9 fun ac374 hf408 => ?_
                  refine any_skip (i := 3) hf408 rfl rfl rfl rfl (fun _ _ _ h => h) (by kernel_rfl) (by kernel_rfl) (by kernel_rfl) hS9 fun ac375 hf409 => ?_
                  refine any_skip (i := 4) hf409 rfl rfl rfl rfl (fun _ _ _ h => h) (by kernel_rfl) (by kernel_rfl) (by kernel_rfl) hS9 fun ac376 hf410 => ?_
                  refine any_skip (i := 5) hf410 rfl rfl rfl rfl (fun _ _ _ h => h) (by kernel_rfl) (by kernel_rfl) (by kernel_rfl) hS9 fun ac377 hf411 => ?_
                  refine any_val (i := 6) (v := .bool false) hf411 rfl rfl rfl rfl rfl rfl (fun _ _ _ h => h) (by kernel_rfl) (by kernel_rfl) (by kernel_rfl) (fun wd32 hS9 => (r_pickF rfl rfl)) hS9 fun ac378 hf412 => ?_
                  refine any_val (i := 7) (v := .bool false) hf412 rfl rfl rfl rfl rfl rfl (fun _ _ _ h => h) (by kernel_rfl) (by kernel_rfl) (by kernel_rfl) (fun wd32 hS9 => (r_move rfl)) hS9 fun ac379 hf413 => ?_
                  refine any_skip (i := 8) hf413 rfl rfl rfl rfl (fun _ _ _ h => h) (by kernel_rfl) (by kernel_rfl) (by kernel_rfl) hS9 fun ac380 hf414 => ?_
                  refine any_skip (i := 9) hf414 rfl rfl rfl rfl (fun _ _ _ h => h) (by kernel_rfl) (by kernel_rfl) (by kernel_rfl) hS9 fun ac381 hf415 => ?_
                  refine any_skip (i := 10) hf415 rfl rfl rfl rfl (fun _ _ _ h => h) (by kernel_rfl) (by kernel_rfl) (by kernel_rfl) hS9 fun ac382 hf416 => ?_
                  refine any_skip (i := 11) hf416 rfl rfl rfl rfl (fun _ _ _ h => h) (by kernel_rfl) (by kernel_rfl) (by kernel_rfl) hS9 fun ac383 hf417 => ?_
                  refine any_val (i := 12) (v := .bool false) hf417 rfl rfl rfl rfl rfl rfl (fun _ _ _ h => h) (by kernel_rfl) (by kernel_rfl) (by kernel_rfl) (fun wd32 hS9 => (r_pickF rfl rfl)) hS9 fun ac384 hf418 => ?_
                  refine any_val (i := 13) (v := .bool false) hf418 rfl rfl rfl rfl rfl rfl (fun _ _ _ h => h) (by kernel_rfl) (by kernel_rfl) (by kernel_rfl) (fun wd32 hS9 => (r_move rfl)) hS9 fun ac385 hf419 => ?_
                  refine any_skip (i := 14) hf419 rfl rfl rfl rfl (fun _ _ _ h => h) (by kernel_rfl) (by kernel_rfl) (by kernel_rfl) hS9 fun ac386 hf420 => ?_
                  refine any_skip (i := 15) hf420 rfl rfl rfl rfl (fun _ _ _ h => h) (by kernel_rfl) (by kernel_rfl) (by kernel_rfl) hS9 fun ac387 hf421 => ?_
                  refine any_skip (i := 16) hf421 rfl rfl rfl rfl (fun _ _ _ h => h) (by kernel_rfl) (by kernel_rfl) (by kernel_rfl) hS9 fun ac388 hf422 => ?_
                  refine any_skip (i := 17) hf422 rfl rfl rfl rfl (fun _ _ _ h => h) (by kernel_rfl) (by kernel_rfl) (by kernel_rfl) hS9 fun ac389 hf423 => ?_
                  refine any_skip (i := 18) hf423 rfl rfl rfl rfl (fun _ _ _ h => h) (by kernel_rfl) (by kernel_rfl) (by kernel_rfl) hS9 fun ac390 hf424 => ?_
                  refine any_skip (i := 19) hf424 rfl rfl rfl rfl (fun _ _ _ h => h) (by kernel_rfl) (by kernel_rfl) (by kernel_rfl) hS9 fun ac391 hf425 => ?_
                  refine any_skip (i := 20) hf425 rfl rfl rfl rfl (fun _ _ _ h => h) (by kernel_rfl) (by kernel_rfl) (by kernel_rfl) hS9 fun ac392 hf426 => ?_
                  refine any_skip (i := 21) hf426 rfl rfl rfl rfl (fun _ _ _ h => h) (by kernel_rfl) (by kernel_rfl) (by kernel_rfl) hS9 fun ac393 hf427 => ?_
                  refine any_skip (i := 22) hf427 rfl rfl rfl rfl (fun _ _ _ h => h) (by kernel_rfl) (by kernel_rfl) (by kernel_rfl) hS9 fun ac394 hf428 => ?_
                  refine any_skip (i := 23) hf428 rfl rfl rfl rfl (fun _ _ _ h => h) (by kernel_rfl) (by kernel_rfl) (by kernel_rfl) hS9 fun ac395 hf429 => ?_
                  refine any_skip (i := 24) hf429 rfl rfl rfl rfl (fun _ _ _ h => h) (by kernel_rfl) (by kernel_rfl) (by kernel_rfl) hS9 fun ac396 hf430 => ?_
                  refine any_val (i := 25) (v := .bool false) hf430 rfl rfl rfl rfl rfl rfl (fun _ _ _ h => h) (by kernel_rfl) (by kernel_rfl) (by kernel_rfl) (fun wd32 hS9 => (r_pickF rfl rfl)) hS9 fun ac397 hf431 => ?_
                  refine any_val (i := 26) (v := .bool false) hf431 rfl rfl rfl rfl rfl rfl (fun _ _ _ h => h) (by kernel_rfl) (by kernel_rfl) (by kernel_rfl) (fun wd32 hS9 => (r_move rfl)) hS9 fun ac398 hf432 => ?_
                  refine any_skip (i := 27) hf432 rfl rfl rfl rfl (fun _ _ _ h => h) (by kernel_rfl) (by kernel_rfl) (by kernel_rfl) hS9 fun ac399 hf433 => ?_
                  refine any_val (i := 28) (v := .bool false) hf433 rfl rfl rfl rfl rfl rfl (fun _ _ _ h => h) (by kernel_rfl) (by kernel_rfl) (by kernel_rfl) (fun wd32 hS9 => (r_pickF rfl rfl)) hS9 fun ac400 hf434 => ?_
                  refine any_val (i := 29) (v := .bool false) hf434 rfl rfl rfl rfl rfl rfl (fun _ _ _ h => h) (by kernel_rfl) (by kernel_rfl) (by kernel_rfl) (fun wd32 hS9 => (r_assign rfl)) hS9 fun ac401 hf435 => ?_
                  refine any_end (by kernel_rfl) ?_
                  clear hI43 ac371 hf405 ac372 hf406 ac373 hf407 ac374 hf408 ac375 hf409 ac376 hf410 ac377 hf411 ac378 hf412 ac379 hf413 ac380 hf414 ac381 hf415 ac382 hf416 ac383 hf417 ac384 hf418 ac385 hf419 ac386 hf420 ac387 hf421 ac388 hf422 ac389 hf423 ac390 hf424 ac391 hf425 ac392 hf426 ac393 hf427 ac394 hf428 ac395 hf429 ac396 hf430 ac397 hf431 ac398 hf432 ac399 hf433 ac400 hf434 hS9
                  refine then_normal ?_
                  refine wp_ret ?_
                  refine post1 rfl hf435 rfl ⟨?_, hI45.done (fresh_keys (ks := [b1, b2, b3, b4, b6]) rfl (fk_cons hb1 (fk_cons hb2 (fk_cons hb3 (fk_cons hb4 (fk_cons hb6 fk_nil))))))⟩
                  exfalso
                  simp only [decide_eq_true_eq, decide_eq_false_iff_not] at g64_3 c67_4 g64_5 c67_6 g64_7 c67_8
                  exact hv ⟨by omega, by omega, by omega, by omega, by omega, by omega⟩
end Go.Proofs.Ytkfilmdnpocinaa
