/-
  Counters that are none: what each call comes to.
-/
import Derived.Test.YtohkdjaobdgenaaAwake
namespace Go.Proofs.Ytohkdjaobdgenaa
set_option linter.unusedVariables false
set_option linter.unusedSimpArgs false
set_option maxRecDepth 100000
open Go.RowKit
set_option maxHeartbeats 8000000 in
theorem none_nil  : Pur Try.prog 25 [.pointer none] (.bool true) := by
  intro w
  have hI1 := Inv.start w
  refine enter (n := 12) Try.func25 rfl rfl rfl ?_
  intro ac1 hf1
  refine code_seq ?_
  refine seq_start (l := [0]) rfl ?_
  refine seq_one (op_val (v := .bool false) hf1 rfl rfl rfl rfl rfl rfl (r_assign rfl) fun ac2 hf2 => ?_)
  refine seq_end ?_
  clear ac1 hf1
  refine then_normal ?_
  refine code_seq ?_
  refine seq_start (l := [0, 1, 2, 3, 4, 5, 6, 7, 8, 9]) rfl ?_
  refine seq_one (op_val (v := .pointer none) hf2 rfl rfl rfl rfl rfl rfl (r_move rfl) fun ac3 hf3 => ?_)
  refine seq_one (op_val (v := .bool true) hf3 rfl rfl rfl rfl rfl rfl (r_eqNil up_30 rfl rfl rfl) fun ac4 hf4 => ?_)
  refine seq_one (op_val (v := .bool true) hf4 rfl rfl rfl rfl rfl rfl (r_move rfl) fun ac5 hf5 => ?_)
  refine seq_one (op_skip hf5 rfl rfl rfl rfl fun ac6 hf6 => ?_)
  refine seq_one (op_skip hf6 rfl rfl rfl rfl fun ac7 hf7 => ?_)
  refine seq_one (op_skip hf7 rfl rfl rfl rfl fun ac8 hf8 => ?_)
  refine seq_one (op_skip hf8 rfl rfl rfl rfl fun ac9 hf9 => ?_)
  refine seq_one (op_skip hf9 rfl rfl rfl rfl fun ac10 hf10 => ?_)
  refine seq_one (op_val (v := .bool true) hf10 rfl rfl rfl rfl rfl rfl (r_pickT rfl rfl) fun ac11 hf11 => ?_)
  refine seq_one (op_val (v := .bool true) hf11 rfl rfl rfl rfl rfl rfl (r_assign rfl) fun ac12 hf12 => ?_)
  refine seq_end ?_
  clear ac2 hf2 ac3 hf3 ac4 hf4 ac5 hf5 ac6 hf6 ac7 hf7 ac8 hf8 ac9 hf9 ac10 hf10 ac11 hf11
  refine then_normal ?_
  refine wp_ret ?_
  refine post1 rfl hf12 rfl ⟨?_, hI1.done (fresh_keys (ks := []) rfl fk_nil)⟩
  rfl
set_option maxHeartbeats 8000000 in
theorem none_zero  (cb : Nat) (w : World) (h0_ : Has [(cb, #[.slice none 0 0, .int .i64 0], 58)] w) : Calls Try.prog 25 [.pointer (some ⟨cb, 0, none⟩)].toArray w fun e w' => e = .returned (.bool true) ∧ Inv w [] w' := by
  have hI1 := Inv.startS h0_ (List.pairwise_singleton _ _)
  refine enter (n := 12) Try.func25 rfl rfl rfl ?_
  intro ac1 hf1
  refine code_seq ?_
  refine seq_start (l := [0]) rfl ?_
  refine seq_one (op_val (v := .bool false) hf1 rfl rfl rfl rfl rfl rfl (r_assign rfl) fun ac2 hf2 => ?_)
  refine seq_end ?_
  clear ac1 hf1
  refine then_normal ?_
  refine code_seq ?_
  refine seq_start (l := [0, 1, 2, 3, 4, 5, 6, 7, 8, 9]) rfl ?_
  refine seq_one (op_val (v := .pointer (some ⟨cb, 0, none⟩)) hf2 rfl rfl rfl rfl rfl rfl (r_move rfl) fun ac3 hf3 => ?_)
  refine seq_one (op_val (v := .bool false) hf3 rfl rfl rfl rfl rfl rfl (r_eqNil up_30 rfl rfl rfl) fun ac4 hf4 => ?_)
  refine seq_one (op_val (v := .bool false) hf4 rfl rfl rfl rfl rfl rfl (r_move rfl) fun ac5 hf5 => ?_)
  refine seq_one (op_val (v := .pointer (some ⟨cb, 0, none⟩)) hf5 rfl rfl rfl rfl rfl rfl (r_move rfl) fun ac6 hf6 => ?_)
  refine seq_one (op_val (v := .pointer (some ⟨cb, 0, none⟩)) hf6 rfl rfl rfl rfl rfl rfl (r_nilCheck rfl) fun ac7 hf7 => ?_)
  refine seq_one (op_val (v := .pointer (some ⟨cb, 0, none⟩)) hf7 rfl rfl rfl rfl rfl rfl (r_fieldAddr fi_58_0 rfl rfl) fun ac8 hf8 => ?_)
  refine seq_one (op_val (v := .slice none 0 0) hf8 rfl rfl rfl rfl rfl rfl (r_load ag_23 rfl (hI1.at 0 rfl) rfl) fun ac9 hf9 => ?_)
  refine seq_one (op_val (v := .bool true) hf9 rfl rfl rfl rfl rfl rfl (r_eqSl us_23 rfl rfl rfl) fun ac10 hf10 => ?_)
  refine seq_one (op_val (v := .bool true) hf10 rfl rfl rfl rfl rfl rfl (r_pickF rfl rfl) fun ac11 hf11 => ?_)
  refine seq_one (op_val (v := .bool true) hf11 rfl rfl rfl rfl rfl rfl (r_assign rfl) fun ac12 hf12 => ?_)
  refine seq_end ?_
  clear ac2 hf2 ac3 hf3 ac4 hf4 ac5 hf5 ac6 hf6 ac7 hf7 ac8 hf8 ac9 hf9 ac10 hf10 ac11 hf11
  refine then_normal ?_
  refine wp_ret ?_
  exact post1 rfl hf12 rfl ⟨rfl, (hI1).unread h0_⟩
set_option maxHeartbeats 8000000 in
theorem get_nil (i : Int) : Pur Try.prog 21 [.pointer none, .int .i64 i] (.tuple #[.int .u64 0, .bool false]) := by
  intro w
  have hI1 := Inv.start w
  refine enter (n := 14) Try.func21 rfl rfl rfl ?_
  intro ac1 hf1
  refine code_seq ?_
  refine seq_start (l := [0, 1]) rfl ?_
  refine seq_one (op_val (v := .int .u64 0) hf1 rfl rfl rfl rfl rfl rfl (r_assign rfl) fun ac2 hf2 => ?_)
  refine seq_one (op_val (v := .bool false) hf2 rfl rfl rfl rfl rfl rfl (r_assign rfl) fun ac3 hf3 => ?_)
  refine seq_end ?_
  clear ac1 hf1 ac2 hf2
  refine then_normal ?_
  refine code_seq ?_
  refine seq_start (l := [0, 1]) rfl ?_
  refine seq_one (op_alloc hf3 rfl rfl rfl ze_24 hI1 fun ac4 b1 wd1 hb1 hI2 hf4 => ?_)
  have hI3 : Inv w [(b1, #[.int .u64 0], 24)] wd1 := hI2
  refine seq_one (op_store (cs' := #[.int .u64 0]) 0 hf4 rfl rfl rfl rfl rfl sz_24 hI3 rfl (ltb rfl) (by kernel_rfl) fun wd2 hI4 => ?_)
  refine seq_end ?_
  clear ac3 hI1 hf3 hI2 wd1 hI3
  refine then_normal ?_
  refine code_seq ?_
  refine seq_start (l := [0, 1, 2, 3, 4]) rfl ?_
  refine seq_one (op_val (v := .pointer none) hf4 rfl rfl rfl rfl rfl rfl (r_move rfl) fun ac5 hf5 => ?_)
  refine seq_one (op_val (v := .int .i64 i) hf5 rfl rfl rfl rfl rfl rfl (r_move rfl) fun ac6 hf6 => ?_)
  refine seq_one (op_val (v := .func (.func 30) #[] #[.pointer (some ⟨b1, 0, none⟩)]) hf6 rfl rfl rfl rfl rfl rfl (r_makeFunc rfl) fun ac7 hf7 => ?_)
  refine seq_one (op_pure hf7 rfl rfl rfl rfl ca_26 (fun w => at_nil _ _ w) hI4 fun ac8 wd3 hI5 hf8 => ?_)
  refine seq_one (op_val (v := .bool false) hf8 rfl rfl rfl rfl rfl rfl (r_assign rfl) fun ac9 hf9 => ?_)
  refine seq_end ?_
  clear ac4 hf4 ac5 hf5 ac6 hf6 ac7 wd2 hI4 hf7 ac8 hf8
  refine then_normal ?_
  refine code_seq ?_
  refine seq_start (l := [0, 1, 2, 3]) rfl ?_
  refine seq_one (op_val (v := .int .u64 0) hf9 rfl rfl rfl rfl rfl rfl (r_load ag_24 rfl (hI5.at 0 rfl) rfl) fun ac10 hf10 => ?_)
  refine seq_one (op_val (v := .bool false) hf10 rfl rfl rfl rfl rfl rfl (r_move rfl) fun ac11 hf11 => ?_)
  refine seq_one (op_val (v := .int .u64 0) hf11 rfl rfl rfl rfl rfl rfl (r_assign rfl) fun ac12 hf12 => ?_)
  refine seq_one (op_val (v := .bool false) hf12 rfl rfl rfl rfl rfl rfl (r_assign rfl) fun ac13 hf13 => ?_)
  refine seq_end ?_
  clear ac9 hf9 ac10 hf10 ac11 hf11 ac12 hf12
  refine then_normal ?_
  refine wp_ret ?_
  refine post2 rfl hf13 rfl rfl ⟨?_, hI5.done (fresh_keys (ks := [b1]) rfl (fk_cons hb1 fk_nil))⟩
  rfl
set_option maxHeartbeats 8000000 in
theorem get_zero (i : Int) (cb : Nat) (w : World) (h0_ : Has [(cb, #[.slice none 0 0, .int .i64 0], 58)] w) : Calls Try.prog 21 [.pointer (some ⟨cb, 0, none⟩), .int .i64 i].toArray w fun e w' => e = .returned (.tuple #[.int .u64 0, .bool false]) ∧ Inv w [] w' := by
  have hI1 := Inv.startS h0_ (List.pairwise_singleton _ _)
  refine enter (n := 14) Try.func21 rfl rfl rfl ?_
  intro ac1 hf1
  refine code_seq ?_
  refine seq_start (l := [0, 1]) rfl ?_
  refine seq_one (op_val (v := .int .u64 0) hf1 rfl rfl rfl rfl rfl rfl (r_assign rfl) fun ac2 hf2 => ?_)
  refine seq_one (op_val (v := .bool false) hf2 rfl rfl rfl rfl rfl rfl (r_assign rfl) fun ac3 hf3 => ?_)
  refine seq_end ?_
  clear ac1 hf1 ac2 hf2
  refine then_normal ?_
  refine code_seq ?_
  refine seq_start (l := [0, 1]) rfl ?_
  refine seq_one (op_alloc hf3 rfl rfl rfl ze_24 hI1 fun ac4 b1 wd1 hb1 hI2 hf4 => ?_)
  have hI3 : Inv w [(cb, #[.slice none 0 0, .int .i64 0], 58), (b1, #[.int .u64 0], 24)] wd1 := hI2
  refine seq_one (op_store (cs' := #[.int .u64 0]) 1 hf4 rfl rfl rfl rfl rfl sz_24 hI3 rfl (ltb rfl) (by kernel_rfl) fun wd2 hI4 => ?_)
  refine seq_end ?_
  clear ac3 hI1 hf3 hI2 wd1 hI3
  refine then_normal ?_
  refine code_seq ?_
  refine seq_start (l := [0, 1, 2, 3, 4]) rfl ?_
  refine seq_one (op_val (v := .pointer (some ⟨cb, 0, none⟩)) hf4 rfl rfl rfl rfl rfl rfl (r_move rfl) fun ac5 hf5 => ?_)
  refine seq_one (op_val (v := .int .i64 i) hf5 rfl rfl rfl rfl rfl rfl (r_move rfl) fun ac6 hf6 => ?_)
  refine seq_one (op_val (v := .func (.func 30) #[] #[.pointer (some ⟨b1, 0, none⟩)]) hf6 rfl rfl rfl rfl rfl rfl (r_makeFunc rfl) fun ac7 hf7 => ?_)
  refine seq_one (op_pureW hf7 rfl rfl rfl rfl ca_26 (at_out (S0 := [(cb, #[.slice none 0 0, .int .i64 0], 58), (b1, #[.int .u64 0], 24)]) _ hI4.has hI4.nodup (List.mem_cons_self ..) (fun _ => rfl) (by omega)) hI4 fun ac8 wd3 hI5 hf8 => ?_)
  refine seq_one (op_val (v := .bool false) hf8 rfl rfl rfl rfl rfl rfl (r_assign rfl) fun ac9 hf9 => ?_)
  refine seq_end ?_
  clear ac4 hf4 ac5 hf5 ac6 hf6 ac7 wd2 hI4 hf7 ac8 hf8
  refine then_normal ?_
  refine code_seq ?_
  refine seq_start (l := [0, 1, 2, 3]) rfl ?_
  refine seq_one (op_val (v := .int .u64 0) hf9 rfl rfl rfl rfl rfl rfl (r_load ag_24 rfl (hI5.at 1 rfl) rfl) fun ac10 hf10 => ?_)
  refine seq_one (op_val (v := .bool false) hf10 rfl rfl rfl rfl rfl rfl (r_move rfl) fun ac11 hf11 => ?_)
  refine seq_one (op_val (v := .int .u64 0) hf11 rfl rfl rfl rfl rfl rfl (r_assign rfl) fun ac12 hf12 => ?_)
  refine seq_one (op_val (v := .bool false) hf12 rfl rfl rfl rfl rfl rfl (r_assign rfl) fun ac13 hf13 => ?_)
  refine seq_end ?_
  clear ac9 hf9 ac10 hf10 ac11 hf11 ac12 hf12
  refine then_normal ?_
  refine wp_ret ?_
  exact post2 rfl hf13 rfl rfl ⟨rfl, (Inv.drop (A := [(cb, #[.slice none 0 0, .int .i64 0], 58)]) (B := [(b1, #[.int .u64 0], 24)]) hI5 (fresh_keys (ks := [b1]) rfl (fk_cons hb1 fk_nil))).unread h0_⟩
set_option maxHeartbeats 8000000 in
theorem add_nil (i am : Int) : Pur Try.prog 16 [.pointer none, .int .i64 i, .int .u64 am] (.int .i64 1) := by
  intro w
  have hI1 := Inv.start w
  refine enter (n := 14) Try.func16 rfl rfl rfl ?_
  intro ac1 hf1
  refine code_seq ?_
  refine seq_start (l := [0, 1, 2]) rfl ?_
  refine seq_one (op_box hf1 rfl rfl rfl rfl hI1 fun ac2 b1 wd1 hb1 hI2 hf2 => ?_)
  have hI3 : Inv w [(b1, #[.pointer none], 30)] wd1 := hI2
  refine seq_one (op_box hf2 rfl rfl rfl rfl hI3 fun ac3 b2 wd2 hb2 hI4 hf3 => ?_)
  have hI5 : Inv w [(b1, #[.pointer none], 30), (b2, #[.int .u64 am], 24)] wd2 := hI4
  refine seq_one (op_val (v := .int .i64 0) hf3 rfl rfl rfl rfl rfl rfl (r_assign rfl) fun ac4 hf4 => ?_)
  refine seq_end ?_
  clear ac1 hI1 hf1 hI2 ac2 wd1 hI3 hf2 hI4 ac3 hf3
  refine then_normal ?_
  refine code_seq ?_
  refine code_seq ?_
  refine seq_start (l := [0, 1]) rfl ?_
  refine seq_one (op_val (v := .pointer none) hf4 rfl rfl rfl rfl rfl rfl (r_load ag_30 rfl (hI5.at 0 rfl) rfl) fun ac5 hf5 => ?_)
  refine seq_one (op_pure hf5 rfl rfl rfl rfl ca_25 (none_nil) hI5 fun ac6 wd3 hI6 hf6 => ?_)
  refine seq_end ?_
  clear ac4 hf4 ac5 wd2 hI5 hf5
  refine then_normal ?_
  refine code_if_true hf6 rfl ?_
  refine code_seq ?_
  refine seq_start (l := [0]) rfl ?_
  refine seq_one (op_val (v := .int .i64 1) hf6 rfl rfl rfl rfl rfl rfl (r_assign rfl) fun ac7 hf7 => ?_)
  refine seq_end ?_
  clear ac6 hf6
  refine then_normal ?_
  refine wp_ret ?_
  refine then_ret ?_
  refine post1 rfl hf7 rfl ⟨?_, hI6.done (fresh_keys (ks := [b1, b2]) rfl (fk_cons hb1 (fk_cons hb2 fk_nil)))⟩
  rfl
set_option maxHeartbeats 8000000 in
theorem add_zero (i am : Int) (cb : Nat) (w : World) (h0_ : Has [(cb, #[.slice none 0 0, .int .i64 0], 58)] w) : Calls Try.prog 16 [.pointer (some ⟨cb, 0, none⟩), .int .i64 i, .int .u64 am].toArray w fun e w' => e = .returned (.int .i64 1) ∧ Inv w [] w' := by
  have hI1 := Inv.startS h0_ (List.pairwise_singleton _ _)
  refine enter (n := 14) Try.func16 rfl rfl rfl ?_
  intro ac1 hf1
  refine code_seq ?_
  refine seq_start (l := [0, 1, 2]) rfl ?_
  refine seq_one (op_box hf1 rfl rfl rfl rfl hI1 fun ac2 b1 wd1 hb1 hI2 hf2 => ?_)
  have hI3 : Inv w [(cb, #[.slice none 0 0, .int .i64 0], 58), (b1, #[.pointer (some ⟨cb, 0, none⟩)], 30)] wd1 := hI2
  refine seq_one (op_box hf2 rfl rfl rfl rfl hI3 fun ac3 b2 wd2 hb2 hI4 hf3 => ?_)
  have hI5 : Inv w [(cb, #[.slice none 0 0, .int .i64 0], 58), (b1, #[.pointer (some ⟨cb, 0, none⟩)], 30), (b2, #[.int .u64 am], 24)] wd2 := hI4
  refine seq_one (op_val (v := .int .i64 0) hf3 rfl rfl rfl rfl rfl rfl (r_assign rfl) fun ac4 hf4 => ?_)
  refine seq_end ?_
  clear ac1 hI1 hf1 hI2 ac2 wd1 hI3 hf2 hI4 ac3 hf3
  refine then_normal ?_
  refine code_seq ?_
  refine code_seq ?_
  refine seq_start (l := [0, 1]) rfl ?_
  refine seq_one (op_val (v := .pointer (some ⟨cb, 0, none⟩)) hf4 rfl rfl rfl rfl rfl rfl (r_load ag_30 rfl (hI5.at 1 rfl) rfl) fun ac5 hf5 => ?_)
  refine seq_one (op_pureW hf5 rfl rfl rfl rfl ca_25 (none_zero cb _ (Has.cons (hI5.at 0 rfl) Has.nil)) hI5 fun ac6 wd3 hI6 hf6 => ?_)
  refine seq_end ?_
  clear ac4 hf4 ac5 wd2 hI5 hf5
  refine then_normal ?_
  refine code_if_true hf6 rfl ?_
  refine code_seq ?_
  refine seq_start (l := [0]) rfl ?_
  refine seq_one (op_val (v := .int .i64 1) hf6 rfl rfl rfl rfl rfl rfl (r_assign rfl) fun ac7 hf7 => ?_)
  refine seq_end ?_
  clear ac6 hf6
  refine then_normal ?_
  refine wp_ret ?_
  refine then_ret ?_
  exact post1 rfl hf7 rfl ⟨rfl, (Inv.drop (A := [(cb, #[.slice none 0 0, .int .i64 0], 58)]) (B := [(b1, #[.pointer (some ⟨cb, 0, none⟩)], 30), (b2, #[.int .u64 am], 24)]) hI6 (fresh_keys (ks := [b1, b2]) rfl (fk_cons hb1 (fk_cons hb2 fk_nil)))).unread h0_⟩
set_option maxHeartbeats 8000000 in
theorem since_nil  : Pur Try.prog 18 [.pointer none, .slice none 0 0] (.tuple #[.slice none 0 0, .int .i64 1]) := by
  intro w
  have hI1 := Inv.start w
  refine enter (n := 53) Try.func18 rfl rfl rfl ?_
  intro ac1 hf1
  refine code_seq ?_
  refine seq_start (l := [0, 1]) rfl ?_
  refine seq_one (op_val (v := .slice none 0 0) hf1 rfl rfl rfl rfl rfl rfl (r_assign rfl) fun ac2 hf2 => ?_)
  refine seq_one (op_val (v := .int .i64 0) hf2 rfl rfl rfl rfl rfl rfl (r_assign rfl) fun ac3 hf3 => ?_)
  refine seq_end ?_
  clear ac1 hf1 ac2 hf2
  refine then_normal ?_
  refine code_seq ?_
  refine code_seq ?_
  refine seq_start (l := [0, 1]) rfl ?_
  refine seq_one (op_val (v := .pointer none) hf3 rfl rfl rfl rfl rfl rfl (r_move rfl) fun ac4 hf4 => ?_)
  refine seq_one (op_pure hf4 rfl rfl rfl rfl ca_25 (none_nil) hI1 fun ac5 wd1 hI2 hf5 => ?_)
  refine seq_end ?_
  clear ac3 hf3 ac4 hI1 hf4
  refine then_normal ?_
  refine code_if_true hf5 rfl ?_
  refine code_seq ?_
  refine seq_start (l := [0, 1]) rfl ?_
  refine seq_one (op_val (v := .slice none 0 0) hf5 rfl rfl rfl rfl rfl rfl (r_assign rfl) fun ac6 hf6 => ?_)
  refine seq_one (op_val (v := .int .i64 1) hf6 rfl rfl rfl rfl rfl rfl (r_assign rfl) fun ac7 hf7 => ?_)
  refine seq_end ?_
  clear ac5 hf5 ac6 hf6
  refine then_normal ?_
  refine wp_ret ?_
  refine then_ret ?_
  refine post2 rfl hf7 rfl rfl ⟨?_, hI2.done (fresh_keys (ks := []) rfl fk_nil)⟩
  rfl
set_option maxHeartbeats 8000000 in
theorem since_zero  (cb : Nat) (w : World) (h0_ : Has [(cb, #[.slice none 0 0, .int .i64 0], 58)] w) : Calls Try.prog 18 [.pointer (some ⟨cb, 0, none⟩), .slice none 0 0].toArray w fun e w' => e = .returned (.tuple #[.slice none 0 0, .int .i64 1]) ∧ Inv w [] w' := by
  have hI1 := Inv.startS h0_ (List.pairwise_singleton _ _)
  refine enter (n := 53) Try.func18 rfl rfl rfl ?_
  intro ac1 hf1
  refine code_seq ?_
  refine seq_start (l := [0, 1]) rfl ?_
  refine seq_one (op_val (v := .slice none 0 0) hf1 rfl rfl rfl rfl rfl rfl (r_assign rfl) fun ac2 hf2 => ?_)
  refine seq_one (op_val (v := .int .i64 0) hf2 rfl rfl rfl rfl rfl rfl (r_assign rfl) fun ac3 hf3 => ?_)
  refine seq_end ?_
  clear ac1 hf1 ac2 hf2
  refine then_normal ?_
  refine code_seq ?_
  refine code_seq ?_
  refine seq_start (l := [0, 1]) rfl ?_
  refine seq_one (op_val (v := .pointer (some ⟨cb, 0, none⟩)) hf3 rfl rfl rfl rfl rfl rfl (r_move rfl) fun ac4 hf4 => ?_)
  refine seq_one (op_pureW hf4 rfl rfl rfl rfl ca_25 (none_zero cb _ (Has.cons (hI1.at 0 rfl) Has.nil)) hI1 fun ac5 wd1 hI2 hf5 => ?_)
  refine seq_end ?_
  clear ac3 hf3 ac4 hI1 hf4
  refine then_normal ?_
  refine code_if_true hf5 rfl ?_
  refine code_seq ?_
  refine seq_start (l := [0, 1]) rfl ?_
  refine seq_one (op_val (v := .slice none 0 0) hf5 rfl rfl rfl rfl rfl rfl (r_assign rfl) fun ac6 hf6 => ?_)
  refine seq_one (op_val (v := .int .i64 1) hf6 rfl rfl rfl rfl rfl rfl (r_assign rfl) fun ac7 hf7 => ?_)
  refine seq_end ?_
  clear ac5 hf5 ac6 hf6
  refine then_normal ?_
  refine wp_ret ?_
  refine then_ret ?_
  exact post2 rfl hf7 rfl rfl ⟨rfl, (hI2).unread h0_⟩
set_option maxHeartbeats 8000000 in
theorem all_nil  : Pur Try.prog 20 [.pointer none] (.slice none 0 0) := by
  intro w
  have hI1 := Inv.start w
  refine enter (n := 10) Try.func20 rfl rfl rfl ?_
  intro ac1 hf1
  refine code_seq ?_
  refine seq_start (l := [0]) rfl ?_
  refine seq_one (op_val (v := .slice none 0 0) hf1 rfl rfl rfl rfl rfl rfl (r_assign rfl) fun ac2 hf2 => ?_)
  refine seq_end ?_
  clear ac1 hf1
  refine then_normal ?_
  refine code_seq ?_
  refine code_seq ?_
  refine seq_start (l := [0, 1]) rfl ?_
  refine seq_one (op_val (v := .pointer none) hf2 rfl rfl rfl rfl rfl rfl (r_move rfl) fun ac3 hf3 => ?_)
  refine seq_one (op_pure hf3 rfl rfl rfl rfl ca_25 (none_nil) hI1 fun ac4 wd1 hI2 hf4 => ?_)
  refine seq_end ?_
  clear ac2 hf2 ac3 hI1 hf3
  refine then_normal ?_
  refine code_if_true hf4 rfl ?_
  refine code_seq ?_
  refine seq_start (l := [0]) rfl ?_
  refine seq_one (op_val (v := .slice none 0 0) hf4 rfl rfl rfl rfl rfl rfl (r_assign rfl) fun ac5 hf5 => ?_)
  refine seq_end ?_
  clear ac4 hf4
  refine then_normal ?_
  refine wp_ret ?_
  refine then_ret ?_
  refine post1 rfl hf5 rfl ⟨?_, hI2.done (fresh_keys (ks := []) rfl fk_nil)⟩
  rfl
set_option maxHeartbeats 8000000 in
theorem all_zero  (cb : Nat) (w : World) (h0_ : Has [(cb, #[.slice none 0 0, .int .i64 0], 58)] w) : Calls Try.prog 20 [.pointer (some ⟨cb, 0, none⟩)].toArray w fun e w' => e = .returned (.slice none 0 0) ∧ Inv w [] w' := by
  have hI1 := Inv.startS h0_ (List.pairwise_singleton _ _)
  refine enter (n := 10) Try.func20 rfl rfl rfl ?_
  intro ac1 hf1
  refine code_seq ?_
  refine seq_start (l := [0]) rfl ?_
  refine seq_one (op_val (v := .slice none 0 0) hf1 rfl rfl rfl rfl rfl rfl (r_assign rfl) fun ac2 hf2 => ?_)
  refine seq_end ?_
  clear ac1 hf1
  refine then_normal ?_
  refine code_seq ?_
  refine code_seq ?_
  refine seq_start (l := [0, 1]) rfl ?_
  refine seq_one (op_val (v := .pointer (some ⟨cb, 0, none⟩)) hf2 rfl rfl rfl rfl rfl rfl (r_move rfl) fun ac3 hf3 => ?_)
  refine seq_one (op_pureW hf3 rfl rfl rfl rfl ca_25 (none_zero cb _ (Has.cons (hI1.at 0 rfl) Has.nil)) hI1 fun ac4 wd1 hI2 hf4 => ?_)
  refine seq_end ?_
  clear ac2 hf2 ac3 hI1 hf3
  refine then_normal ?_
  refine code_if_true hf4 rfl ?_
  refine code_seq ?_
  refine seq_start (l := [0]) rfl ?_
  refine seq_one (op_val (v := .slice none 0 0) hf4 rfl rfl rfl rfl rfl rfl (r_assign rfl) fun ac5 hf5 => ?_)
  refine seq_end ?_
  clear ac4 hf4
  refine then_normal ?_
  refine wp_ret ?_
  refine then_ret ?_
  exact post1 rfl hf5 rfl ⟨rfl, (hI2).unread h0_⟩
set_option maxHeartbeats 8000000 in
theorem drain_nil  : Pur Try.prog 14 [.pointer none] (.slice none 0 0) := by
  intro w
  have hI1 := Inv.start w
  refine enter (n := 14) Try.func14 rfl rfl rfl ?_
  intro ac1 hf1
  refine code_seq ?_
  refine seq_start (l := [0]) rfl ?_
  refine seq_one (op_val (v := .slice none 0 0) hf1 rfl rfl rfl rfl rfl rfl (r_assign rfl) fun ac2 hf2 => ?_)
  refine seq_end ?_
  clear ac1 hf1
  refine then_normal ?_
  refine code_seq ?_
  refine seq_start (l := [0, 1, 2]) rfl ?_
  refine seq_one (op_val (v := .pointer none) hf2 rfl rfl rfl rfl rfl rfl (r_move rfl) fun ac3 hf3 => ?_)
  refine seq_one (op_pure hf3 rfl rfl rfl rfl ca_20 (all_nil) hI1 fun ac4 wd1 hI2 hf4 => ?_)
  refine seq_one (op_val (v := .slice none 0 0) hf4 rfl rfl rfl rfl rfl rfl (r_assign rfl) fun ac5 hf5 => ?_)
  refine seq_end ?_
  clear ac2 hf2 ac3 hI1 hf3 ac4 hf4
  refine then_normal ?_
  refine code_seq ?_
  refine code_seq ?_
  refine seq_start (l := [0, 1, 2]) rfl ?_
  refine seq_one (op_val (v := .pointer none) hf5 rfl rfl rfl rfl rfl rfl (r_move rfl) fun ac6 hf6 => ?_)
  refine seq_one (op_pure hf6 rfl rfl rfl rfl ca_25 (none_nil) hI2 fun ac7 wd2 hI3 hf7 => ?_)
  refine seq_one (op_val (v := .bool false) hf7 rfl rfl rfl rfl rfl rfl ((r_not (b := true) rfl).trans rfl) fun ac8 hf8 => ?_)
  refine seq_end ?_
  clear ac5 hf5 ac6 wd1 hI2 hf6 ac7 hf7
  refine then_normal ?_
  refine code_if_false hf8 rfl ?_
  refine wp_skip ?_
  refine then_normal ?_
  refine code_seq ?_
  refine seq_start (l := [0, 1]) rfl ?_
  refine seq_one (op_val (v := .slice none 0 0) hf8 rfl rfl rfl rfl rfl rfl (r_move rfl) fun ac9 hf9 => ?_)
  refine seq_one (op_val (v := .slice none 0 0) hf9 rfl rfl rfl rfl rfl rfl (r_assign rfl) fun ac10 hf10 => ?_)
  refine seq_end ?_
  clear ac8 hf8 ac9 hf9
  refine then_normal ?_
  refine wp_ret ?_
  refine post1 rfl hf10 rfl ⟨?_, hI3.done (fresh_keys (ks := []) rfl fk_nil)⟩
  rfl
set_option maxHeartbeats 8000000 in
theorem drain_zero  (cb : Nat) (w : World) (h0_ : Has [(cb, #[.slice none 0 0, .int .i64 0], 58)] w) : Calls Try.prog 14 [.pointer (some ⟨cb, 0, none⟩)].toArray w fun e w' => e = .returned (.slice none 0 0) ∧ Inv w [] w' := by
  have hI1 := Inv.startS h0_ (List.pairwise_singleton _ _)
  refine enter (n := 14) Try.func14 rfl rfl rfl ?_
  intro ac1 hf1
  refine code_seq ?_
  refine seq_start (l := [0]) rfl ?_
  refine seq_one (op_val (v := .slice none 0 0) hf1 rfl rfl rfl rfl rfl rfl (r_assign rfl) fun ac2 hf2 => ?_)
  refine seq_end ?_
  clear ac1 hf1
  refine then_normal ?_
  refine code_seq ?_
  refine seq_start (l := [0, 1, 2]) rfl ?_
  refine seq_one (op_val (v := .pointer (some ⟨cb, 0, none⟩)) hf2 rfl rfl rfl rfl rfl rfl (r_move rfl) fun ac3 hf3 => ?_)
  refine seq_one (op_pureW hf3 rfl rfl rfl rfl ca_20 (all_zero cb _ (Has.cons (hI1.at 0 rfl) Has.nil)) hI1 fun ac4 wd1 hI2 hf4 => ?_)
  refine seq_one (op_val (v := .slice none 0 0) hf4 rfl rfl rfl rfl rfl rfl (r_assign rfl) fun ac5 hf5 => ?_)
  refine seq_end ?_
  clear ac2 hf2 ac3 hI1 hf3 ac4 hf4
  refine then_normal ?_
  refine code_seq ?_
  refine code_seq ?_
  refine seq_start (l := [0, 1, 2]) rfl ?_
  refine seq_one (op_val (v := .pointer (some ⟨cb, 0, none⟩)) hf5 rfl rfl rfl rfl rfl rfl (r_move rfl) fun ac6 hf6 => ?_)
  refine seq_one (op_pureW hf6 rfl rfl rfl rfl ca_25 (none_zero cb _ (Has.cons (hI2.at 0 rfl) Has.nil)) hI2 fun ac7 wd2 hI3 hf7 => ?_)
  refine seq_one (op_val (v := .bool false) hf7 rfl rfl rfl rfl rfl rfl ((r_not (b := true) rfl).trans rfl) fun ac8 hf8 => ?_)
  refine seq_end ?_
  clear ac5 hf5 ac6 wd1 hI2 hf6 ac7 hf7
  refine then_normal ?_
  refine code_if_false hf8 rfl ?_
  refine wp_skip ?_
  refine then_normal ?_
  refine code_seq ?_
  refine seq_start (l := [0, 1]) rfl ?_
  refine seq_one (op_val (v := .slice none 0 0) hf8 rfl rfl rfl rfl rfl rfl (r_move rfl) fun ac9 hf9 => ?_)
  refine seq_one (op_val (v := .slice none 0 0) hf9 rfl rfl rfl rfl rfl rfl (r_assign rfl) fun ac10 hf10 => ?_)
  refine seq_end ?_
  clear ac8 hf8 ac9 hf9
  refine then_normal ?_
  refine wp_ret ?_
  exact post1 rfl hf10 rfl ⟨rfl, (hI3).unread h0_⟩
end Go.Proofs.Ytohkdjaobdgenaa
