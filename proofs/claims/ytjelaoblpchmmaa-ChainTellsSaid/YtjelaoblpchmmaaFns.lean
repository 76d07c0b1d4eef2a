/-
  In, First and Len of chain: what each call comes to.
-/
import Derived.Test.YtjelaoblpchmmaaPlain
namespace Go.Proofs.Ytjelaoblpchmmaa
set_option linter.unusedVariables false
set_option linter.unusedSimpArgs false
set_option maxRecDepth 100000
open Go.RowKit
set_option maxHeartbeats 8000000 in
theorem ring_in {N K : Nat} {lb ob mb cb : Nat} (hd : Nd lb ob mb cb) (c : Ch N K) {w : World} (h0_ : Has [(lb, arr .i64 c.lk, 103), (ob, arr .i64 c.of, 3), (mb, arr .i64 c.mn, 3), (cb, #[.slice (some ⟨lb, 0, none⟩) (N + K) (N + K), .slice (some ⟨ob, 0, none⟩) N N, .slice (some ⟨mb, 0, none⟩) K K], 79)] w) {k : Nat} (hk : k < K) : Calls Try.prog 56 [.pointer (some ⟨cb, 0, none⟩), .int .i64 (k : Int)].toArray w fun e w' => e = .returned (.tuple #[.int .i64 ((N + k : Nat) : Int), .bool true]) ∧ Inv w [] w' := by
  have hI1 := Inv.startS h0_ hd.pw
  have hN := c.hN
  have hK := c.hK
  refine enter (n := 28) Try.func56 rfl rfl rfl ?_
  intro ac1 hf1
  refine code_seq ?_
  refine seq_start (l := [0, 1]) rfl ?_
  refine seq_one (op_val (v := .int .i64 0) hf1 rfl rfl rfl rfl rfl rfl (r_assign rfl) fun ac2 hf2 => ?_)
  refine seq_one (op_val (v := .bool false) hf2 rfl rfl rfl rfl rfl rfl (r_assign rfl) fun ac3 hf3 => ?_)
  refine seq_end ?_
  clear ac1 hf1 ac2 hf2
  refine then_normal ?_
  refine code_seq ?_
  refine code_seq ?_
  refine seq_start (l := [0, 1, 2, 3, 4, 5, 6, 7, 8, 9, 10, 11, 12, 13, 14]) rfl ?_
  refine seq_one (op_val (v := .pointer (some ⟨cb, 0, none⟩)) hf3 rfl rfl rfl rfl rfl rfl (r_move rfl) fun ac4 hf4 => ?_)
  refine seq_one (op_val (v := .bool false) hf4 rfl rfl rfl rfl rfl rfl (r_eqNil up_41 rfl rfl rfl) fun ac5 hf5 => ?_)
  refine seq_one (op_val (v := .bool false) hf5 rfl rfl rfl rfl rfl rfl (r_move rfl) fun ac6 hf6 => ?_)
  refine seq_one (op_val (v := .int .i64 (k : Int)) hf6 rfl rfl rfl rfl rfl rfl (r_move rfl) fun ac7 hf7 => ?_)
  refine seq_one (op_val (v := .bool (decide ((k : Int) < 0))) hf7 rfl rfl rfl rfl rfl rfl (r_lss rfl rfl) fun ac8 hf8 => ?_)
  refine seq_one (op_val (v := .bool (decide ((k : Int) < 0))) hf8 rfl rfl rfl rfl rfl rfl (r_pickF rfl rfl) fun ac9 hf9 => ?_)
  refine seq_one (op_val (v := .bool (decide ((k : Int) < 0))) hf9 rfl rfl rfl rfl rfl rfl (r_move rfl) fun ac10 hf10 => ?_)
  have hf11 := hf10.know 12 (u := .bool false) rfl (congrArg Value.bool (decide_eq_false (by omega)))
  refine seq_one (op_val (v := .int .i64 (k : Int)) hf11 rfl rfl rfl rfl rfl rfl (r_move rfl) fun ac11 hf12 => ?_)
  refine seq_one (op_val (v := .pointer (some ⟨cb, 0, none⟩)) hf12 rfl rfl rfl rfl rfl rfl (r_move rfl) fun ac12 hf13 => ?_)
  refine seq_one (op_val (v := .pointer (some ⟨cb, 0, none⟩)) hf13 rfl rfl rfl rfl rfl rfl (r_nilCheck rfl) fun ac13 hf14 => ?_)
  refine seq_one (op_val (v := .pointer (some ⟨cb, 2, none⟩)) hf14 rfl rfl rfl rfl rfl rfl (r_fieldAddr fi_79_2 rfl rfl) fun ac14 hf15 => ?_)
  refine seq_one (op_val (v := .slice (some ⟨mb, 0, none⟩) K K) hf15 rfl rfl rfl rfl rfl rfl (r_load ag_27 rfl (hI1.at 3 rfl) rfl) fun ac15 hf16 => ?_)
  refine seq_one (op_val (v := .int .i64 (K : Int)) hf16 rfl rfl rfl rfl rfl rfl (r_len sl_27 rfl) fun ac16 hf17 => ?_)
  refine seq_one (op_val (v := .bool (decide ((k : Int) ≥ (K : Int)))) hf17 rfl rfl rfl rfl rfl rfl (r_geq rfl rfl) fun ac17 hf18 => ?_)
  refine seq_one (op_val (v := .bool (decide ((k : Int) ≥ (K : Int)))) hf18 rfl rfl rfl rfl rfl rfl (r_pickF rfl rfl) fun ac18 hf19 => ?_)
  refine seq_end ?_
  clear ac3 hf3 ac4 hf4 ac5 hf5 ac6 hf6 ac7 hf7 ac8 hf8 ac9 hf9 hf10 ac10 hf11 ac11 hf12 ac12 hf13 ac13 hf14 ac14 hf15 ac15 hf16 ac16 hf17 ac17 hf18
  refine then_normal ?_
  have hf20 := hf19.know 20 (u := .bool false) rfl (congrArg Value.bool (decide_eq_false (by omega)))
  refine code_if_false hf20 rfl ?_
  refine wp_skip ?_
  refine then_normal ?_
  refine code_seq ?_
  refine seq_start (l := [0, 1, 2, 3, 4, 5, 6, 7, 8]) rfl ?_
  refine seq_one (op_val (v := .pointer (some ⟨cb, 0, none⟩)) hf20 rfl rfl rfl rfl rfl rfl (r_move rfl) fun ac19 hf21 => ?_)
  refine seq_one (op_val (v := .pointer (some ⟨cb, 0, none⟩)) hf21 rfl rfl rfl rfl rfl rfl (r_nilCheck rfl) fun ac20 hf22 => ?_)
  refine seq_one (op_val (v := .pointer (some ⟨cb, 1, none⟩)) hf22 rfl rfl rfl rfl rfl rfl (r_fieldAddr fi_79_1 rfl rfl) fun ac21 hf23 => ?_)
  refine seq_one (op_val (v := .slice (some ⟨ob, 0, none⟩) N N) hf23 rfl rfl rfl rfl rfl rfl (r_load ag_27 rfl (hI1.at 3 rfl) rfl) fun ac22 hf24 => ?_)
  refine seq_one (op_val (v := .int .i64 (N : Int)) hf24 rfl rfl rfl rfl rfl rfl (r_len sl_27 rfl) fun ac23 hf25 => ?_)
  refine seq_one (op_val (v := .int .i64 (k : Int)) hf25 rfl rfl rfl rfl rfl rfl (r_move rfl) fun ac24 hf26 => ?_)
  refine seq_one (op_val (v := .int .i64 ((N + k : Nat) : Int)) hf26 rfl rfl rfl rfl rfl rfl (r_add (c := ((N + k : Nat) : Int)) rfl rfl (wrap_i64 (by omega) (by omega))) fun ac25 hf27 => ?_)
  refine seq_one (op_val (v := .int .i64 ((N + k : Nat) : Int)) hf27 rfl rfl rfl rfl rfl rfl (r_assign rfl) fun ac26 hf28 => ?_)
  refine seq_one (op_val (v := .bool true) hf28 rfl rfl rfl rfl rfl rfl (r_assign rfl) fun ac27 hf29 => ?_)
  refine seq_end ?_
  clear hf19 ac18 hf20 ac19 hf21 ac20 hf22 ac21 hf23 ac22 hf24 ac23 hf25 ac24 hf26 ac25 hf27 ac26 hf28
  refine then_normal ?_
  refine wp_ret ?_
  exact post2 rfl hf29 rfl rfl ⟨rfl, hI1.unread h0_⟩
set_option maxHeartbeats 8000000 in
theorem ring_out {N K : Nat} {lb ob mb cb : Nat} (hd : Nd lb ob mb cb) (c : Ch N K) {w : World} (h0_ : Has [(lb, arr .i64 c.lk, 103), (ob, arr .i64 c.of, 3), (mb, arr .i64 c.mn, 3), (cb, #[.slice (some ⟨lb, 0, none⟩) (N + K) (N + K), .slice (some ⟨ob, 0, none⟩) N N, .slice (some ⟨mb, 0, none⟩) K K], 79)] w) {l : Int} (hl : ¬ (0 ≤ l ∧ l < (K : Int))) : Calls Try.prog 56 [.pointer (some ⟨cb, 0, none⟩), .int .i64 l].toArray w fun e w' => e = .returned (.tuple #[.int .i64 0, .bool false]) ∧ Inv w [] w' := by
  have hI1 := Inv.startS h0_ hd.pw
  refine enter (n := 28) Try.func56 rfl rfl rfl ?_
  intro ac1 hf1
  refine code_seq ?_
  refine seq_start (l := [0, 1]) rfl ?_
  refine seq_one (op_val (v := .int .i64 0) hf1 rfl rfl rfl rfl rfl rfl (r_assign rfl) fun ac2 hf2 => ?_)
  refine seq_one (op_val (v := .bool false) hf2 rfl rfl rfl rfl rfl rfl (r_assign rfl) fun ac3 hf3 => ?_)
  refine seq_end ?_
  clear ac1 hf1 ac2 hf2
  refine then_normal ?_
  refine code_seq ?_
  refine code_seq ?_
  refine seq_start (l := [0, 1, 2, 3, 4, 5, 6, 7, 8, 9, 10, 11, 12, 13, 14]) rfl ?_
  refine seq_one (op_val (v := .pointer (some ⟨cb, 0, none⟩)) hf3 rfl rfl rfl rfl rfl rfl (r_move rfl) fun ac4 hf4 => ?_)
  refine seq_one (op_val (v := .bool false) hf4 rfl rfl rfl rfl rfl rfl (r_eqNil up_41 rfl rfl rfl) fun ac5 hf5 => ?_)
  refine seq_one (op_val (v := .bool false) hf5 rfl rfl rfl rfl rfl rfl (r_move rfl) fun ac6 hf6 => ?_)
  refine seq_one (op_val (v := .int .i64 l) hf6 rfl rfl rfl rfl rfl rfl (r_move rfl) fun ac7 hf7 => ?_)
  refine seq_one (op_val (v := .bool (decide (l < 0))) hf7 rfl rfl rfl rfl rfl rfl (r_lss rfl rfl) fun ac8 hf8 => ?_)
  refine seq_one (op_val (v := .bool (decide (l < 0))) hf8 rfl rfl rfl rfl rfl rfl (r_pickF rfl rfl) fun ac9 hf9 => ?_)
  refine seq_one (op_val (v := .bool (decide (l < 0))) hf9 rfl rfl rfl rfl rfl rfl (r_move rfl) fun ac10 hf10 => ?_)
  rcases Bool.eq_false_or_eq_true (decide (l < 0) : Bool) with g12_1 | g12_1
  · have hf11 := hf10.know 12 (u := .bool true) rfl (congrArg Value.bool g12_1)
    refine seq_one (op_skip hf11 rfl rfl rfl rfl fun ac11 hf12 => ?_)
    refine seq_one (op_skip hf12 rfl rfl rfl rfl fun ac12 hf13 => ?_)
    refine seq_one (op_skip hf13 rfl rfl rfl rfl fun ac13 hf14 => ?_)
    refine seq_one (op_skip hf14 rfl rfl rfl rfl fun ac14 hf15 => ?_)
    refine seq_one (op_skip hf15 rfl rfl rfl rfl fun ac15 hf16 => ?_)
    refine seq_one (op_skip hf16 rfl rfl rfl rfl fun ac16 hf17 => ?_)
    refine seq_one (op_skip hf17 rfl rfl rfl rfl fun ac17 hf18 => ?_)
    refine seq_one (op_val (v := .bool true) hf18 rfl rfl rfl rfl rfl rfl (r_pickT rfl rfl) fun ac18 hf19 => ?_)
    refine seq_end ?_
    clear ac3 hf3 ac4 hf4 ac5 hf5 ac6 hf6 ac7 hf7 ac8 hf8 ac9 hf9 hf10 ac10 hf11 ac11 hf12 ac12 hf13 ac13 hf14 ac14 hf15 ac15 hf16 ac16 hf17 ac17 hf18
    refine then_normal ?_
    refine code_if_true hf19 rfl ?_
    refine code_seq ?_
    refine seq_start (l := [0, 1]) rfl ?_
    refine seq_one (op_val (v := .int .i64 0) hf19 rfl rfl rfl rfl rfl rfl (r_assign rfl) fun ac19 hf20 => ?_)
    refine seq_one (op_val (v := .bool false) hf20 rfl rfl rfl rfl rfl rfl (r_assign rfl) fun ac20 hf21 => ?_)
    refine seq_end ?_
    clear ac18 hf19 ac19 hf20
    refine then_normal ?_
    refine wp_ret ?_
    refine then_ret ?_
    exact post2 rfl hf21 rfl rfl ⟨rfl, hI1.unread h0_⟩
  · have hf22 := hf10.know 12 (u := .bool false) rfl (congrArg Value.bool g12_1)
    refine seq_one (op_val (v := .int .i64 l) hf22 rfl rfl rfl rfl rfl rfl (r_move rfl) fun ac21 hf23 => ?_)
    refine seq_one (op_val (v := .pointer (some ⟨cb, 0, none⟩)) hf23 rfl rfl rfl rfl rfl rfl (r_move rfl) fun ac22 hf24 => ?_)
    refine seq_one (op_val (v := .pointer (some ⟨cb, 0, none⟩)) hf24 rfl rfl rfl rfl rfl rfl (r_nilCheck rfl) fun ac23 hf25 => ?_)
    refine seq_one (op_val (v := .pointer (some ⟨cb, 2, none⟩)) hf25 rfl rfl rfl rfl rfl rfl (r_fieldAddr fi_79_2 rfl rfl) fun ac24 hf26 => ?_)
    refine seq_one (op_val (v := .slice (some ⟨mb, 0, none⟩) K K) hf26 rfl rfl rfl rfl rfl rfl (r_load ag_27 rfl (hI1.at 3 rfl) rfl) fun ac25 hf27 => ?_)
    refine seq_one (op_val (v := .int .i64 (K : Int)) hf27 rfl rfl rfl rfl rfl rfl (r_len sl_27 rfl) fun ac26 hf28 => ?_)
    refine seq_one (op_val (v := .bool (decide (l ≥ (K : Int)))) hf28 rfl rfl rfl rfl rfl rfl (r_geq rfl rfl) fun ac27 hf29 => ?_)
    refine seq_one (op_val (v := .bool (decide (l ≥ (K : Int)))) hf29 rfl rfl rfl rfl rfl rfl (r_pickF rfl rfl) fun ac28 hf30 => ?_)
    refine seq_end ?_
    clear ac3 hf3 ac4 hf4 ac5 hf5 ac6 hf6 ac7 hf7 ac8 hf8 ac9 hf9 hf10 ac10 hf22 ac21 hf23 ac22 hf24 ac23 hf25 ac24 hf26 ac25 hf27 ac26 hf28 ac27 hf29
    refine then_normal ?_
    have hf31 := hf30.know 20 (u := .bool true) rfl (congrArg Value.bool (decide_eq_true (by have := of_decide_eq_false g12_1; omega)))
    refine code_if_true hf31 rfl ?_
    refine code_seq ?_
    refine seq_start (l := [0, 1]) rfl ?_
    refine seq_one (op_val (v := .int .i64 0) hf31 rfl rfl rfl rfl rfl rfl (r_assign rfl) fun ac29 hf32 => ?_)
    refine seq_one (op_val (v := .bool false) hf32 rfl rfl rfl rfl rfl rfl (r_assign rfl) fun ac30 hf33 => ?_)
    refine seq_end ?_
    clear hf30 ac28 hf31 ac29 hf32
    refine then_normal ?_
    refine wp_ret ?_
    refine then_ret ?_
    exact post2 rfl hf33 rfl rfl ⟨rfl, hI1.unread h0_⟩
set_option maxHeartbeats 8000000 in
theorem node_any {N K : Nat} {lb ob mb cb : Nat} (hd : Nd lb ob mb cb) (c : Ch N K) {w : World} (h0_ : Has [(lb, arr .i64 c.lk, 103), (ob, arr .i64 c.of, 3), (mb, arr .i64 c.mn, 3), (cb, #[.slice (some ⟨lb, 0, none⟩) (N + K) (N + K), .slice (some ⟨ob, 0, none⟩) N N, .slice (some ⟨mb, 0, none⟩) K K], 79)] w) {n : Int} : Calls Try.prog 57 [.pointer (some ⟨cb, 0, none⟩), .int .i64 n].toArray w fun e w' => e = .returned (.bool (decide (0 ≤ n ∧ n < (N : Int)))) ∧ Inv w [] w' := by
  have hI1 := Inv.startS h0_ hd.pw
  refine enter (n := 20) Try.func57 rfl rfl rfl ?_
  intro ac1 hf1
  refine code_seq ?_
  refine seq_start (l := [0]) rfl ?_
  refine seq_one (op_val (v := .bool false) hf1 rfl rfl rfl rfl rfl rfl (r_assign rfl) fun ac2 hf2 => ?_)
  refine seq_end ?_
  clear ac1 hf1
  refine then_normal ?_
  refine code_seq ?_
  refine seq_start (l := [0, 1, 2, 3, 4, 5, 6, 7, 8, 9, 10, 11, 12, 13, 14, 15]) rfl ?_
  refine seq_one (op_val (v := .pointer (some ⟨cb, 0, none⟩)) hf2 rfl rfl rfl rfl rfl rfl (r_move rfl) fun ac3 hf3 => ?_)
  refine seq_one (op_val (v := .bool true) hf3 rfl rfl rfl rfl rfl rfl (r_neNil up_41 rfl rfl rfl) fun ac4 hf4 => ?_)
  refine seq_one (op_val (v := .bool true) hf4 rfl rfl rfl rfl rfl rfl (r_move rfl) fun ac5 hf5 => ?_)
  refine seq_one (op_val (v := .int .i64 n) hf5 rfl rfl rfl rfl rfl rfl (r_move rfl) fun ac6 hf6 => ?_)
  refine seq_one (op_val (v := .bool (decide (n ≥ 0))) hf6 rfl rfl rfl rfl rfl rfl (r_geq rfl rfl) fun ac7 hf7 => ?_)
  refine seq_one (op_val (v := .bool (decide (n ≥ 0))) hf7 rfl rfl rfl rfl rfl rfl (r_pickT rfl rfl) fun ac8 hf8 => ?_)
  refine seq_one (op_val (v := .bool (decide (n ≥ 0))) hf8 rfl rfl rfl rfl rfl rfl (r_move rfl) fun ac9 hf9 => ?_)
  rcases Bool.eq_false_or_eq_true (decide (n ≥ 0) : Bool) with g11_1 | g11_1
  · have hf10 := hf9.know 11 (u := .bool true) rfl (congrArg Value.bool g11_1)
    refine seq_one (op_val (v := .int .i64 n) hf10 rfl rfl rfl rfl rfl rfl (r_move rfl) fun ac10 hf11 => ?_)
    refine seq_one (op_val (v := .pointer (some ⟨cb, 0, none⟩)) hf11 rfl rfl rfl rfl rfl rfl (r_move rfl) fun ac11 hf12 => ?_)
    refine seq_one (op_val (v := .pointer (some ⟨cb, 0, none⟩)) hf12 rfl rfl rfl rfl rfl rfl (r_nilCheck rfl) fun ac12 hf13 => ?_)
    refine seq_one (op_val (v := .pointer (some ⟨cb, 1, none⟩)) hf13 rfl rfl rfl rfl rfl rfl (r_fieldAddr fi_79_1 rfl rfl) fun ac13 hf14 => ?_)
    refine seq_one (op_val (v := .slice (some ⟨ob, 0, none⟩) N N) hf14 rfl rfl rfl rfl rfl rfl (r_load ag_27 rfl (hI1.at 3 rfl) rfl) fun ac14 hf15 => ?_)
    refine seq_one (op_val (v := .int .i64 (N : Int)) hf15 rfl rfl rfl rfl rfl rfl (r_len sl_27 rfl) fun ac15 hf16 => ?_)
    refine seq_one (op_val (v := .bool (decide (n < (N : Int)))) hf16 rfl rfl rfl rfl rfl rfl (r_lss rfl rfl) fun ac16 hf17 => ?_)
    refine seq_one (op_val (v := .bool (decide (n < (N : Int)))) hf17 rfl rfl rfl rfl rfl rfl (r_pickT rfl rfl) fun ac17 hf18 => ?_)
    refine seq_one (op_val (v := .bool (decide (n < (N : Int)))) hf18 rfl rfl rfl rfl rfl rfl (r_assign rfl) fun ac18 hf19 => ?_)
    refine seq_end ?_
    clear ac2 hf2 ac3 hf3 ac4 hf4 ac5 hf5 ac6 hf6 ac7 hf7 ac8 hf8 hf9 ac9 hf10 ac10 hf11 ac11 hf12 ac12 hf13 ac13 hf14 ac14 hf15 ac15 hf16 ac16 hf17 ac17 hf18
    refine then_normal ?_
    refine wp_ret ?_
    exact post1 rfl hf19 rfl ⟨(by rw [show decide (0 ≤ n ∧ n < (N : Int)) = decide (n < (N : Int)) from decide_eq_decide.2 ⟨fun h => h.2, fun h => ⟨by have := of_decide_eq_true g11_1; omega, h⟩⟩]), hI1.unread h0_⟩
  · have hf20 := hf9.know 11 (u := .bool false) rfl (congrArg Value.bool g11_1)
    refine seq_one (op_skip hf20 rfl rfl rfl rfl fun ac19 hf21 => ?_)
    refine seq_one (op_skip hf21 rfl rfl rfl rfl fun ac20 hf22 => ?_)
    refine seq_one (op_skip hf22 rfl rfl rfl rfl fun ac21 hf23 => ?_)
    refine seq_one (op_skip hf23 rfl rfl rfl rfl fun ac22 hf24 => ?_)
    refine seq_one (op_skip hf24 rfl rfl rfl rfl fun ac23 hf25 => ?_)
    refine seq_one (op_skip hf25 rfl rfl rfl rfl fun ac24 hf26 => ?_)
    refine seq_one (op_skip hf26 rfl rfl rfl rfl fun ac25 hf27 => ?_)
    refine seq_one (op_val (v := .bool false) hf27 rfl rfl rfl rfl rfl rfl (r_pickF rfl rfl) fun ac26 hf28 => ?_)
    refine seq_one (op_val (v := .bool false) hf28 rfl rfl rfl rfl rfl rfl (r_assign rfl) fun ac27 hf29 => ?_)
    refine seq_end ?_
    clear ac2 hf2 ac3 hf3 ac4 hf4 ac5 hf5 ac6 hf6 ac7 hf7 ac8 hf8 hf9 ac9 hf20 ac19 hf21 ac20 hf22 ac21 hf23 ac22 hf24 ac23 hf25 ac24 hf26 ac25 hf27 ac26 hf28
    refine then_normal ?_
    refine wp_ret ?_
    exact post1 rfl hf29 rfl ⟨(by rw [decide_eq_false (p := 0 ≤ n ∧ n < (N : Int)) (by have := of_decide_eq_false g11_1; omega)]), hI1.unread h0_⟩
set_option maxHeartbeats 8000000 in
theorem in_in {N K : Nat} {lb ob mb cb : Nat} (hd : Nd lb ob mb cb) (c : Ch N K) {w : World} (h0_ : Has [(lb, arr .i64 c.lk, 103), (ob, arr .i64 c.of, 3), (mb, arr .i64 c.mn, 3), (cb, #[.slice (some ⟨lb, 0, none⟩) (N + K) (N + K), .slice (some ⟨ob, 0, none⟩) N N, .slice (some ⟨mb, 0, none⟩) K K], 79)] w) {n : Nat} (hn : n < N) : Calls Try.prog 29 [.pointer (some ⟨cb, 0, none⟩), .int .i64 (n : Int)].toArray w fun e w' => e = .returned (.tuple #[.int .i64 (c.atV (n : Int)), .bool (c.inn (n : Int))]) ∧ Inv w [] w' := by
  have hI1 := Inv.startS h0_ hd.pw
  refine enter (n := 28) Try.func29 rfl rfl rfl ?_
  intro ac1 hf1
  refine code_seq ?_
  refine seq_start (l := [0, 1]) rfl ?_
  refine seq_one (op_val (v := .int .i64 0) hf1 rfl rfl rfl rfl rfl rfl (r_assign rfl) fun ac2 hf2 => ?_)
  refine seq_one (op_val (v := .bool false) hf2 rfl rfl rfl rfl rfl rfl (r_assign rfl) fun ac3 hf3 => ?_)
  refine seq_end ?_
  clear ac1 hf1 ac2 hf2
  refine then_normal ?_
  refine code_seq ?_
  refine code_seq ?_
  refine seq_start (l := [0, 1, 2, 3, 4, 5, 6, 7, 8, 9, 10, 11, 12, 13]) rfl ?_
  refine seq_one (op_val (v := .pointer (some ⟨cb, 0, none⟩)) hf3 rfl rfl rfl rfl rfl rfl (r_move rfl) fun ac4 hf4 => ?_)
  refine seq_one (op_val (v := .int .i64 (n : Int)) hf4 rfl rfl rfl rfl rfl rfl (r_move rfl) fun ac5 hf5 => ?_)
  refine seq_one (op_pureW hf5 rfl rfl rfl rfl ca_57 (node_any (hI1.nd 0 rfl rfl rfl rfl) c (Has.cons (hI1.at 0 rfl) (Has.cons (hI1.at 1 rfl) (Has.cons (hI1.at 2 rfl) (Has.cons (hI1.at 3 rfl) Has.nil))))) hI1 fun ac6 wd1 hI2 hf6 => ?_)
  refine seq_one (op_val (v := .bool (!(decide (0 ≤ (n : Int) ∧ (n : Int) < (N : Int))))) hf6 rfl rfl rfl rfl rfl rfl (r_not rfl) fun ac7 hf7 => ?_)
  refine seq_one (op_val (v := .bool (!(decide (0 ≤ (n : Int) ∧ (n : Int) < (N : Int))))) hf7 rfl rfl rfl rfl rfl rfl (r_move rfl) fun ac8 hf8 => ?_)
  have hf9 := hf8.know 10 (u := .bool false) rfl (congrArg Value.bool (by rw [decide_eq_true (p := 0 ≤ (n : Int) ∧ (n : Int) < (N : Int)) (by omega)]; rfl))
  refine seq_one (op_val (v := .pointer (some ⟨cb, 0, none⟩)) hf9 rfl rfl rfl rfl rfl rfl (r_move rfl) fun ac9 hf10 => ?_)
  refine seq_one (op_val (v := .pointer (some ⟨cb, 0, none⟩)) hf10 rfl rfl rfl rfl rfl rfl (r_nilCheck rfl) fun ac10 hf11 => ?_)
  refine seq_one (op_val (v := .pointer (some ⟨cb, 1, none⟩)) hf11 rfl rfl rfl rfl rfl rfl (r_fieldAddr fi_79_1 rfl rfl) fun ac11 hf12 => ?_)
  refine seq_one (op_val (v := .slice (some ⟨ob, 0, none⟩) N N) hf12 rfl rfl rfl rfl rfl rfl (r_load ag_27 rfl (hI2.at 3 rfl) rfl) fun ac12 hf13 => ?_)
  refine seq_one (op_val (v := .int .i64 (n : Int)) hf13 rfl rfl rfl rfl rfl rfl (r_move rfl) fun ac13 hf14 => ?_)
  refine seq_one (op_val (v := .pointer (some ⟨ob, n, none⟩)) hf14 rfl rfl rfl rfl rfl rfl (r_indexAddrS (i := n) sl_27 rfl rfl rfl hn (by rw [Nat.mul_one, Nat.zero_add])) fun ac14 hf15 => ?_)
  refine seq_one (op_val (v := .int .i64 (c.of.getD n 0)) hf15 rfl rfl rfl rfl rfl rfl (r_load ag_3 rfl (hI2.at 1 rfl) (arr_get (Nat.lt_of_lt_of_eq hn (Eq.symm c.rep.l2)))) fun ac15 hf16 => ?_)
  refine seq_one (op_val (v := .bool ((c.of.getD n 0) == 0)) hf16 rfl rfl rfl rfl rfl rfl (r_eql rfl rfl) fun ac16 hf17 => ?_)
  refine seq_one (op_val (v := .bool ((c.of.getD n 0) == 0)) hf17 rfl rfl rfl rfl rfl rfl (r_pickF rfl rfl) fun ac17 hf18 => ?_)
  refine seq_end ?_
  clear ac3 hf3 ac4 hf4 ac5 hI1 hf5 ac6 hf6 ac7 hf7 hf8 ac8 hf9 ac9 hf10 ac10 hf11 ac11 hf12 ac12 hf13 ac13 hf14 ac14 hf15 ac15 hf16 ac16 hf17
  refine then_normal ?_
  refine code_if hf18 rfl (fun c19_1 => ?_) (fun c19_1 => ?_)
  · have hf19 := hf18.know 19 (u := .bool true) rfl (congrArg Value.bool c19_1)
    refine code_seq ?_
    refine seq_start (l := [0, 1]) rfl ?_
    refine seq_one (op_val (v := .int .i64 0) hf19 rfl rfl rfl rfl rfl rfl (r_assign rfl) fun ac18 hf20 => ?_)
    refine seq_one (op_val (v := .bool false) hf20 rfl rfl rfl rfl rfl rfl (r_assign rfl) fun ac19 hf21 => ?_)
    refine seq_end ?_
    clear hf18 ac17 hf19 ac18 hf20
    refine then_normal ?_
    refine wp_ret ?_
    refine then_ret ?_
    exact post2 rfl hf21 rfl rfl ⟨(by rw [Ch.inn_n hn, bne_eq_false_iff_eq.2 (beq_iff_eq.1 c19_1), Ch.atV_0 hn (beq_iff_eq.1 c19_1)]), hI2.unread h0_⟩
  · have hf22 := hf18.know 19 (u := .bool false) rfl (congrArg Value.bool c19_1)
    refine wp_skip ?_
    refine then_normal ?_
    refine code_seq ?_
    refine seq_start (l := [0, 1, 2, 3, 4, 5, 6, 7, 8, 9]) rfl ?_
    refine seq_one (op_val (v := .pointer (some ⟨cb, 0, none⟩)) hf22 rfl rfl rfl rfl rfl rfl (r_move rfl) fun ac20 hf23 => ?_)
    refine seq_one (op_val (v := .pointer (some ⟨cb, 0, none⟩)) hf23 rfl rfl rfl rfl rfl rfl (r_nilCheck rfl) fun ac21 hf24 => ?_)
    refine seq_one (op_val (v := .pointer (some ⟨cb, 1, none⟩)) hf24 rfl rfl rfl rfl rfl rfl (r_fieldAddr fi_79_1 rfl rfl) fun ac22 hf25 => ?_)
    refine seq_one (op_val (v := .slice (some ⟨ob, 0, none⟩) N N) hf25 rfl rfl rfl rfl rfl rfl (r_load ag_27 rfl (hI2.at 3 rfl) rfl) fun ac23 hf26 => ?_)
    refine seq_one (op_val (v := .int .i64 (n : Int)) hf26 rfl rfl rfl rfl rfl rfl (r_move rfl) fun ac24 hf27 => ?_)
    refine seq_one (op_val (v := .pointer (some ⟨ob, n, none⟩)) hf27 rfl rfl rfl rfl rfl rfl (r_indexAddrS (i := n) sl_27 rfl rfl rfl hn (by rw [Nat.mul_one, Nat.zero_add])) fun ac25 hf28 => ?_)
    refine seq_one (op_val (v := .int .i64 (c.of.getD n 0)) hf28 rfl rfl rfl rfl rfl rfl (r_load ag_3 rfl (hI2.at 1 rfl) (arr_get (Nat.lt_of_lt_of_eq hn (Eq.symm c.rep.l2)))) fun ac26 hf29 => ?_)
    refine seq_one (op_val (v := .int .i64 (c.of.getD n 0 - 1)) hf29 rfl rfl rfl rfl rfl rfl (r_sub (c := (c.of.getD n 0 - 1)) rfl rfl (wrap_i64 (by have := Ch.of_b c hn; omega) (by have := Ch.of_b c hn; omega))) fun ac27 hf30 => ?_)
    refine seq_one (op_val (v := .int .i64 (c.of.getD n 0 - 1)) hf30 rfl rfl rfl rfl rfl rfl (r_assign rfl) fun ac28 hf31 => ?_)
    refine seq_one (op_val (v := .bool true) hf31 rfl rfl rfl rfl rfl rfl (r_assign rfl) fun ac29 hf32 => ?_)
    refine seq_end ?_
    clear hf18 ac17 hf22 ac20 hf23 ac21 hf24 ac22 hf25 ac23 hf26 ac24 hf27 ac25 hf28 ac26 hf29 ac27 hf30 ac28 hf31
    refine then_normal ?_
    refine wp_ret ?_
    exact post2 rfl hf32 rfl rfl ⟨(by rw [Ch.inn_n hn, Ch.atV_n hn (beq_eq_false_iff_ne.1 c19_1), bne_iff_ne.2 (beq_eq_false_iff_ne.1 c19_1)]), hI2.unread h0_⟩
set_option maxHeartbeats 8000000 in
theorem in_out {N K : Nat} {lb ob mb cb : Nat} (hd : Nd lb ob mb cb) (c : Ch N K) {w : World} (h0_ : Has [(lb, arr .i64 c.lk, 103), (ob, arr .i64 c.of, 3), (mb, arr .i64 c.mn, 3), (cb, #[.slice (some ⟨lb, 0, none⟩) (N + K) (N + K), .slice (some ⟨ob, 0, none⟩) N N, .slice (some ⟨mb, 0, none⟩) K K], 79)] w) {n : Int} (hn : ¬ (0 ≤ n ∧ n < (N : Int))) : Calls Try.prog 29 [.pointer (some ⟨cb, 0, none⟩), .int .i64 n].toArray w fun e w' => e = .returned (.tuple #[.int .i64 (c.atV n), .bool (c.inn n)]) ∧ Inv w [] w' := by
  have hI1 := Inv.startS h0_ hd.pw
  refine enter (n := 28) Try.func29 rfl rfl rfl ?_
  intro ac1 hf1
  refine code_seq ?_
  refine seq_start (l := [0, 1]) rfl ?_
  refine seq_one (op_val (v := .int .i64 0) hf1 rfl rfl rfl rfl rfl rfl (r_assign rfl) fun ac2 hf2 => ?_)
  refine seq_one (op_val (v := .bool false) hf2 rfl rfl rfl rfl rfl rfl (r_assign rfl) fun ac3 hf3 => ?_)
  refine seq_end ?_
  clear ac1 hf1 ac2 hf2
  refine then_normal ?_
  refine code_seq ?_
  refine code_seq ?_
  refine seq_start (l := [0, 1, 2, 3, 4, 5, 6, 7, 8, 9, 10, 11, 12, 13]) rfl ?_
  refine seq_one (op_val (v := .pointer (some ⟨cb, 0, none⟩)) hf3 rfl rfl rfl rfl rfl rfl (r_move rfl) fun ac4 hf4 => ?_)
  refine seq_one (op_val (v := .int .i64 n) hf4 rfl rfl rfl rfl rfl rfl (r_move rfl) fun ac5 hf5 => ?_)
  refine seq_one (op_pureW hf5 rfl rfl rfl rfl ca_57 (node_any (hI1.nd 0 rfl rfl rfl rfl) c (Has.cons (hI1.at 0 rfl) (Has.cons (hI1.at 1 rfl) (Has.cons (hI1.at 2 rfl) (Has.cons (hI1.at 3 rfl) Has.nil))))) hI1 fun ac6 wd1 hI2 hf6 => ?_)
  refine seq_one (op_val (v := .bool (!(decide (0 ≤ n ∧ n < (N : Int))))) hf6 rfl rfl rfl rfl rfl rfl (r_not rfl) fun ac7 hf7 => ?_)
  refine seq_one (op_val (v := .bool (!(decide (0 ≤ n ∧ n < (N : Int))))) hf7 rfl rfl rfl rfl rfl rfl (r_move rfl) fun ac8 hf8 => ?_)
  have hf9 := hf8.know 10 (u := .bool true) rfl (congrArg Value.bool (by rw [decide_eq_false hn]; rfl))
  refine seq_one (op_skip hf9 rfl rfl rfl rfl fun ac9 hf10 => ?_)
  refine seq_one (op_skip hf10 rfl rfl rfl rfl fun ac10 hf11 => ?_)
  refine seq_one (op_skip hf11 rfl rfl rfl rfl fun ac11 hf12 => ?_)
  refine seq_one (op_skip hf12 rfl rfl rfl rfl fun ac12 hf13 => ?_)
  refine seq_one (op_skip hf13 rfl rfl rfl rfl fun ac13 hf14 => ?_)
  refine seq_one (op_skip hf14 rfl rfl rfl rfl fun ac14 hf15 => ?_)
  refine seq_one (op_skip hf15 rfl rfl rfl rfl fun ac15 hf16 => ?_)
  refine seq_one (op_skip hf16 rfl rfl rfl rfl fun ac16 hf17 => ?_)
  refine seq_one (op_val (v := .bool true) hf17 rfl rfl rfl rfl rfl rfl (r_pickT rfl rfl) fun ac17 hf18 => ?_)
  refine seq_end ?_
  clear ac3 hf3 ac4 hf4 ac5 hI1 hf5 ac6 hf6 ac7 hf7 hf8 ac8 hf9 ac9 hf10 ac10 hf11 ac11 hf12 ac12 hf13 ac13 hf14 ac14 hf15 ac15 hf16 ac16 hf17
  refine then_normal ?_
  refine code_if_true hf18 rfl ?_
  refine code_seq ?_
  refine seq_start (l := [0, 1]) rfl ?_
  refine seq_one (op_val (v := .int .i64 0) hf18 rfl rfl rfl rfl rfl rfl (r_assign rfl) fun ac18 hf19 => ?_)
  refine seq_one (op_val (v := .bool false) hf19 rfl rfl rfl rfl rfl rfl (r_assign rfl) fun ac19 hf20 => ?_)
  refine seq_end ?_
  clear ac17 hf18 ac18 hf19
  refine then_normal ?_
  refine wp_ret ?_
  refine then_ret ?_
  exact post2 rfl hf20 rfl rfl ⟨(by rw [Ch.inn_o hn, Ch.atV_o hn]), hI2.unread h0_⟩
theorem in_any {N K : Nat} {lb ob mb cb : Nat} (hd : Nd lb ob mb cb) (c : Ch N K) {w : World} (h0_ : Has [(lb, arr .i64 c.lk, 103), (ob, arr .i64 c.of, 3), (mb, arr .i64 c.mn, 3), (cb, #[.slice (some ⟨lb, 0, none⟩) (N + K) (N + K), .slice (some ⟨ob, 0, none⟩) N N, .slice (some ⟨mb, 0, none⟩) K K], 79)] w) (n : Int) : Calls Try.prog 29 [.pointer (some ⟨cb, 0, none⟩), .int .i64 n].toArray w fun e w' => e = .returned (.tuple #[.int .i64 (c.atV n), .bool (c.inn n)]) ∧ Inv w [] w' := by
  by_cases hn : 0 ≤ n ∧ n < (N : Int)
  · obtain ⟨x, rfl⟩ := Int.eq_ofNat_of_zero_le hn.1
    exact in_in hd c h0_ (by omega)
  · exact in_out hd c h0_ hn
set_option maxHeartbeats 8000000 in
theorem first_in {N K : Nat} {lb ob mb cb : Nat} (hd : Nd lb ob mb cb) (c : Ch N K) {w : World} (h0_ : Has [(lb, arr .i64 c.lk, 103), (ob, arr .i64 c.of, 3), (mb, arr .i64 c.mn, 3), (cb, #[.slice (some ⟨lb, 0, none⟩) (N + K) (N + K), .slice (some ⟨ob, 0, none⟩) N N, .slice (some ⟨mb, 0, none⟩) K K], 79)] w) {k : Nat} (hk : k < K) : Calls Try.prog 40 [.pointer (some ⟨cb, 0, none⟩), .int .i64 (k : Int)].toArray w fun e w' => e = .returned (.tuple #[.int .i64 (c.fst (k : Int)), .bool (c.some_ (k : Int))]) ∧ Inv w [] w' := by
  have hI1 := Inv.startS h0_ hd.pw
  refine enter (n := 34) Try.func40 rfl rfl rfl ?_
  intro ac1 hf1
  refine code_seq ?_
  refine seq_start (l := [0, 1]) rfl ?_
  refine seq_one (op_val (v := .int .i64 0) hf1 rfl rfl rfl rfl rfl rfl (r_assign rfl) fun ac2 hf2 => ?_)
  refine seq_one (op_val (v := .bool false) hf2 rfl rfl rfl rfl rfl rfl (r_assign rfl) fun ac3 hf3 => ?_)
  refine seq_end ?_
  clear ac1 hf1 ac2 hf2
  refine then_normal ?_
  refine code_seq ?_
  refine seq_start (l := [0, 1, 2, 3, 4, 5, 6, 7]) rfl ?_
  refine seq_one (op_val (v := .pointer (some ⟨cb, 0, none⟩)) hf3 rfl rfl rfl rfl rfl rfl (r_move rfl) fun ac4 hf4 => ?_)
  refine seq_one (op_val (v := .int .i64 (k : Int)) hf4 rfl rfl rfl rfl rfl rfl (r_move rfl) fun ac5 hf5 => ?_)
  refine seq_one (op_pureW hf5 rfl rfl rfl rfl ca_56 (ring_in (hI1.nd 0 rfl rfl rfl rfl) c (Has.cons (hI1.at 0 rfl) (Has.cons (hI1.at 1 rfl) (Has.cons (hI1.at 2 rfl) (Has.cons (hI1.at 3 rfl) Has.nil)))) hk) hI1 fun ac6 wd1 hI2 hf6 => ?_)
  refine seq_one (op_val (v := .tuple #[.int .i64 ((N + k : Nat) : Int), .bool true]) hf6 rfl rfl rfl rfl rfl rfl (r_move rfl) fun ac7 hf7 => ?_)
  refine seq_one (op_val (v := .int .i64 ((N + k : Nat) : Int)) hf7 rfl rfl rfl rfl rfl rfl (r_extract rfl rfl) fun ac8 hf8 => ?_)
  refine seq_one (op_val (v := .bool true) hf8 rfl rfl rfl rfl rfl rfl (r_extract rfl rfl) fun ac9 hf9 => ?_)
  refine seq_one (op_val (v := .int .i64 ((N + k : Nat) : Int)) hf9 rfl rfl rfl rfl rfl rfl (r_assign rfl) fun ac10 hf10 => ?_)
  refine seq_one (op_val (v := .bool true) hf10 rfl rfl rfl rfl rfl rfl (r_assign rfl) fun ac11 hf11 => ?_)
  refine seq_end ?_
  clear ac3 hf3 ac4 hf4 ac5 hI1 hf5 ac6 hf6 ac7 hf7 ac8 hf8 ac9 hf9 ac10 hf10
  refine then_normal ?_
  refine code_seq ?_
  refine code_seq ?_
  refine seq_start (l := [0, 1, 2, 3, 4, 5, 6, 7, 8, 9, 10, 11]) rfl ?_
  refine seq_one (op_val (v := .bool true) hf11 rfl rfl rfl rfl rfl rfl (r_move rfl) fun ac12 hf12 => ?_)
  refine seq_one (op_val (v := .bool false) hf12 rfl rfl rfl rfl rfl rfl ((r_not (b := true) rfl).trans rfl) fun ac13 hf13 => ?_)
  refine seq_one (op_val (v := .bool false) hf13 rfl rfl rfl rfl rfl rfl (r_move rfl) fun ac14 hf14 => ?_)
  refine seq_one (op_val (v := .pointer (some ⟨cb, 0, none⟩)) hf14 rfl rfl rfl rfl rfl rfl (r_move rfl) fun ac15 hf15 => ?_)
  refine seq_one (op_val (v := .pointer (some ⟨cb, 0, none⟩)) hf15 rfl rfl rfl rfl rfl rfl (r_nilCheck rfl) fun ac16 hf16 => ?_)
  refine seq_one (op_val (v := .pointer (some ⟨cb, 2, none⟩)) hf16 rfl rfl rfl rfl rfl rfl (r_fieldAddr fi_79_2 rfl rfl) fun ac17 hf17 => ?_)
  refine seq_one (op_val (v := .slice (some ⟨mb, 0, none⟩) K K) hf17 rfl rfl rfl rfl rfl rfl (r_load ag_27 rfl (hI2.at 3 rfl) rfl) fun ac18 hf18 => ?_)
  refine seq_one (op_val (v := .int .i64 (k : Int)) hf18 rfl rfl rfl rfl rfl rfl (r_move rfl) fun ac19 hf19 => ?_)
  refine seq_one (op_val (v := .pointer (some ⟨mb, k, none⟩)) hf19 rfl rfl rfl rfl rfl rfl (r_indexAddrS (i := k) sl_27 rfl rfl rfl hk (by rw [Nat.mul_one, Nat.zero_add])) fun ac20 hf20 => ?_)
  refine seq_one (op_val (v := .int .i64 (c.mn.getD k 0)) hf20 rfl rfl rfl rfl rfl rfl (r_load ag_3 rfl (hI2.at 2 rfl) (arr_get (Nat.lt_of_lt_of_eq hk (Eq.symm c.rep.l3)))) fun ac21 hf21 => ?_)
  refine seq_one (op_val (v := .bool ((c.mn.getD k 0) == 0)) hf21 rfl rfl rfl rfl rfl rfl (r_eql rfl rfl) fun ac22 hf22 => ?_)
  refine seq_one (op_val (v := .bool ((c.mn.getD k 0) == 0)) hf22 rfl rfl rfl rfl rfl rfl (r_pickF rfl rfl) fun ac23 hf23 => ?_)
  refine seq_end ?_
  clear ac11 hf11 ac12 hf12 ac13 hf13 ac14 hf14 ac15 hf15 ac16 hf16 ac17 hf17 ac18 hf18 ac19 hf19 ac20 hf20 ac21 hf21 ac22 hf22
  refine then_normal ?_
  refine code_if hf23 rfl (fun c25_1 => ?_) (fun c25_1 => ?_)
  · have hf24 := hf23.know 25 (u := .bool true) rfl (congrArg Value.bool c25_1)
    refine code_seq ?_
    refine seq_start (l := [0, 1]) rfl ?_
    refine seq_one (op_val (v := .int .i64 0) hf24 rfl rfl rfl rfl rfl rfl (r_assign rfl) fun ac24 hf25 => ?_)
    refine seq_one (op_val (v := .bool false) hf25 rfl rfl rfl rfl rfl rfl (r_assign rfl) fun ac25 hf26 => ?_)
    refine seq_end ?_
    clear hf23 ac23 hf24 ac24 hf25
    refine then_normal ?_
    refine wp_ret ?_
    refine then_ret ?_
    exact post2 rfl hf26 rfl rfl ⟨(by rw [Ch.fst_0 hk (beq_iff_eq.1 c25_1), Ch.some_0 hk (beq_iff_eq.1 c25_1)]), hI2.unread h0_⟩
  · have hf27 := hf23.know 25 (u := .bool false) rfl (congrArg Value.bool c25_1)
    refine wp_skip ?_
    refine then_normal ?_
    refine code_seq ?_
    refine seq_start (l := [0, 1, 2, 3, 4, 5, 6, 7, 8, 9]) rfl ?_
    refine seq_one (op_val (v := .pointer (some ⟨cb, 0, none⟩)) hf27 rfl rfl rfl rfl rfl rfl (r_move rfl) fun ac26 hf28 => ?_)
    refine seq_one (op_val (v := .pointer (some ⟨cb, 0, none⟩)) hf28 rfl rfl rfl rfl rfl rfl (r_nilCheck rfl) fun ac27 hf29 => ?_)
    refine seq_one (op_val (v := .pointer (some ⟨cb, 0, none⟩)) hf29 rfl rfl rfl rfl rfl rfl (r_fieldAddr fi_79_0 rfl rfl) fun ac28 hf30 => ?_)
    refine seq_one (op_val (v := .slice (some ⟨lb, 0, none⟩) (N + K) (N + K)) hf30 rfl rfl rfl rfl rfl rfl (r_load ag_77 rfl (hI2.at 3 rfl) rfl) fun ac29 hf31 => ?_)
    refine seq_one (op_val (v := .int .i64 ((N + k : Nat) : Int)) hf31 rfl rfl rfl rfl rfl rfl (r_move rfl) fun ac30 hf32 => ?_)
    refine seq_one (op_val (v := .pointer (some ⟨lb, 2 * (N + k), none⟩)) hf32 rfl rfl rfl rfl rfl rfl (r_indexAddrS (i := (N + k)) sl_77 rfl rfl rfl (by omega) (by rw [Nat.zero_add, Nat.mul_comm])) fun ac31 hf33 => ?_)
    refine seq_one (op_val (v := .pointer (some ⟨lb, 2 * (N + k) + 1, none⟩)) hf33 rfl rfl rfl rfl rfl rfl (r_indexAddr (i := 1) ar_103 rfl rfl rfl (by decide) rfl) fun ac32 hf34 => ?_)
    refine seq_one (op_val (v := .int .i64 (c.lk.getD (2 * (N + k) + 1) 0)) hf34 rfl rfl rfl rfl rfl rfl (r_load ag_3 rfl (hI2.at 0 rfl) (arr_get (Nat.lt_of_lt_of_eq (by have := (show (N + k) < (N + K) from (by omega)); omega) (Eq.symm c.rep.l1)))) fun ac33 hf35 => ?_)
    refine seq_one (op_val (v := .int .i64 (c.lk.getD (2 * (N + k) + 1) 0)) hf35 rfl rfl rfl rfl rfl rfl (r_assign rfl) fun ac34 hf36 => ?_)
    refine seq_one (op_val (v := .bool true) hf36 rfl rfl rfl rfl rfl rfl (r_assign rfl) fun ac35 hf37 => ?_)
    refine seq_end ?_
    clear hf23 ac23 hf27 ac26 hf28 ac27 hf29 ac28 hf30 ac29 hf31 ac30 hf32 ac31 hf33 ac32 hf34 ac33 hf35 ac34 hf36
    refine then_normal ?_
    refine wp_ret ?_
    exact post2 rfl hf37 rfl rfl ⟨(by rw [Ch.some_n hk (beq_eq_false_iff_ne.1 c25_1), ← Ch.fst_n hk (beq_eq_false_iff_ne.1 c25_1)]), hI2.unread h0_⟩
set_option maxHeartbeats 8000000 in
theorem first_out {N K : Nat} {lb ob mb cb : Nat} (hd : Nd lb ob mb cb) (c : Ch N K) {w : World} (h0_ : Has [(lb, arr .i64 c.lk, 103), (ob, arr .i64 c.of, 3), (mb, arr .i64 c.mn, 3), (cb, #[.slice (some ⟨lb, 0, none⟩) (N + K) (N + K), .slice (some ⟨ob, 0, none⟩) N N, .slice (some ⟨mb, 0, none⟩) K K], 79)] w) {l : Int} (hl : ¬ (0 ≤ l ∧ l < (K : Int))) : Calls Try.prog 40 [.pointer (some ⟨cb, 0, none⟩), .int .i64 l].toArray w fun e w' => e = .returned (.tuple #[.int .i64 (c.fst l), .bool (c.some_ l)]) ∧ Inv w [] w' := by
  have hI1 := Inv.startS h0_ hd.pw
  refine enter (n := 34) Try.func40 rfl rfl rfl ?_
  intro ac1 hf1
  refine code_seq ?_
  refine seq_start (l := [0, 1]) rfl ?_
  refine seq_one (op_val (v := .int .i64 0) hf1 rfl rfl rfl rfl rfl rfl (r_assign rfl) fun ac2 hf2 => ?_)
  refine seq_one (op_val (v := .bool false) hf2 rfl rfl rfl rfl rfl rfl (r_assign rfl) fun ac3 hf3 => ?_)
  refine seq_end ?_
  clear ac1 hf1 ac2 hf2
  refine then_normal ?_
  refine code_seq ?_
  refine seq_start (l := [0, 1, 2, 3, 4, 5, 6, 7]) rfl ?_
  refine seq_one (op_val (v := .pointer (some ⟨cb, 0, none⟩)) hf3 rfl rfl rfl rfl rfl rfl (r_move rfl) fun ac4 hf4 => ?_)
  refine seq_one (op_val (v := .int .i64 l) hf4 rfl rfl rfl rfl rfl rfl (r_move rfl) fun ac5 hf5 => ?_)
  refine seq_one (op_pureW hf5 rfl rfl rfl rfl ca_56 (ring_out (hI1.nd 0 rfl rfl rfl rfl) c (Has.cons (hI1.at 0 rfl) (Has.cons (hI1.at 1 rfl) (Has.cons (hI1.at 2 rfl) (Has.cons (hI1.at 3 rfl) Has.nil)))) hl) hI1 fun ac6 wd1 hI2 hf6 => ?_)
  refine seq_one (op_val (v := .tuple #[.int .i64 0, .bool false]) hf6 rfl rfl rfl rfl rfl rfl (r_move rfl) fun ac7 hf7 => ?_)
  refine seq_one (op_val (v := .int .i64 0) hf7 rfl rfl rfl rfl rfl rfl (r_extract rfl rfl) fun ac8 hf8 => ?_)
  refine seq_one (op_val (v := .bool false) hf8 rfl rfl rfl rfl rfl rfl (r_extract rfl rfl) fun ac9 hf9 => ?_)
  refine seq_one (op_val (v := .int .i64 0) hf9 rfl rfl rfl rfl rfl rfl (r_assign rfl) fun ac10 hf10 => ?_)
  refine seq_one (op_val (v := .bool false) hf10 rfl rfl rfl rfl rfl rfl (r_assign rfl) fun ac11 hf11 => ?_)
  refine seq_end ?_
  clear ac3 hf3 ac4 hf4 ac5 hI1 hf5 ac6 hf6 ac7 hf7 ac8 hf8 ac9 hf9 ac10 hf10
  refine then_normal ?_
  refine code_seq ?_
  refine code_seq ?_
  refine seq_start (l := [0, 1, 2, 3, 4, 5, 6, 7, 8, 9, 10, 11]) rfl ?_
  refine seq_one (op_val (v := .bool false) hf11 rfl rfl rfl rfl rfl rfl (r_move rfl) fun ac12 hf12 => ?_)
  refine seq_one (op_val (v := .bool true) hf12 rfl rfl rfl rfl rfl rfl ((r_not (b := false) rfl).trans rfl) fun ac13 hf13 => ?_)
  refine seq_one (op_val (v := .bool true) hf13 rfl rfl rfl rfl rfl rfl (r_move rfl) fun ac14 hf14 => ?_)
  refine seq_one (op_skip hf14 rfl rfl rfl rfl fun ac15 hf15 => ?_)
  refine seq_one (op_skip hf15 rfl rfl rfl rfl fun ac16 hf16 => ?_)
  refine seq_one (op_skip hf16 rfl rfl rfl rfl fun ac17 hf17 => ?_)
  refine seq_one (op_skip hf17 rfl rfl rfl rfl fun ac18 hf18 => ?_)
  refine seq_one (op_skip hf18 rfl rfl rfl rfl fun ac19 hf19 => ?_)
  refine seq_one (op_skip hf19 rfl rfl rfl rfl fun ac20 hf20 => ?_)
  refine seq_one (op_skip hf20 rfl rfl rfl rfl fun ac21 hf21 => ?_)
  refine seq_one (op_skip hf21 rfl rfl rfl rfl fun ac22 hf22 => ?_)
  refine seq_one (op_val (v := .bool true) hf22 rfl rfl rfl rfl rfl rfl (r_pickT rfl rfl) fun ac23 hf23 => ?_)
  refine seq_end ?_
  clear ac11 hf11 ac12 hf12 ac13 hf13 ac14 hf14 ac15 hf15 ac16 hf16 ac17 hf17 ac18 hf18 ac19 hf19 ac20 hf20 ac21 hf21 ac22 hf22
  refine then_normal ?_
  refine code_if_true hf23 rfl ?_
  refine code_seq ?_
  refine seq_start (l := [0, 1]) rfl ?_
  refine seq_one (op_val (v := .int .i64 0) hf23 rfl rfl rfl rfl rfl rfl (r_assign rfl) fun ac24 hf24 => ?_)
  refine seq_one (op_val (v := .bool false) hf24 rfl rfl rfl rfl rfl rfl (r_assign rfl) fun ac25 hf25 => ?_)
  refine seq_end ?_
  clear ac23 hf23 ac24 hf24
  refine then_normal ?_
  refine wp_ret ?_
  refine then_ret ?_
  exact post2 rfl hf25 rfl rfl ⟨(by rw [Ch.fst_o hl, Ch.some_o hl]), hI2.unread h0_⟩
theorem first_any {N K : Nat} {lb ob mb cb : Nat} (hd : Nd lb ob mb cb) (c : Ch N K) {w : World} (h0_ : Has [(lb, arr .i64 c.lk, 103), (ob, arr .i64 c.of, 3), (mb, arr .i64 c.mn, 3), (cb, #[.slice (some ⟨lb, 0, none⟩) (N + K) (N + K), .slice (some ⟨ob, 0, none⟩) N N, .slice (some ⟨mb, 0, none⟩) K K], 79)] w) (l : Int) : Calls Try.prog 40 [.pointer (some ⟨cb, 0, none⟩), .int .i64 l].toArray w fun e w' => e = .returned (.tuple #[.int .i64 (c.fst l), .bool (c.some_ l)]) ∧ Inv w [] w' := by
  by_cases hl : 0 ≤ l ∧ l < (K : Int)
  · obtain ⟨x, rfl⟩ := Int.eq_ofNat_of_zero_le hl.1
    exact first_in hd c h0_ (by omega)
  · exact first_out hd c h0_ hl
set_option maxHeartbeats 8000000 in
theorem len_in {N K : Nat} {lb ob mb cb : Nat} (hd : Nd lb ob mb cb) (c : Ch N K) {w : World} (h0_ : Has [(lb, arr .i64 c.lk, 103), (ob, arr .i64 c.of, 3), (mb, arr .i64 c.mn, 3), (cb, #[.slice (some ⟨lb, 0, none⟩) (N + K) (N + K), .slice (some ⟨ob, 0, none⟩) N N, .slice (some ⟨mb, 0, none⟩) K K], 79)] w) {k : Nat} (hk : k < K) : Calls Try.prog 41 [.pointer (some ⟨cb, 0, none⟩), .int .i64 (k : Int)].toArray w fun e w' => e = .returned (.int .i64 ((c.lst (k : Int)).length : Int)) ∧ Inv w [] w' := by
  have hI1 := Inv.startS h0_ hd.pw
  refine enter (n := 22) Try.func41 rfl rfl rfl ?_
  intro ac1 hf1
  refine code_seq ?_
  refine seq_start (l := [0]) rfl ?_
  refine seq_one (op_val (v := .int .i64 0) hf1 rfl rfl rfl rfl rfl rfl (r_assign rfl) fun ac2 hf2 => ?_)
  refine seq_end ?_
  clear ac1 hf1
  refine then_normal ?_
  refine code_seq ?_
  refine code_seq ?_
  refine seq_start (l := [0, 1, 2, 3, 4, 5, 6, 7]) rfl ?_
  refine seq_one (op_val (v := .pointer (some ⟨cb, 0, none⟩)) hf2 rfl rfl rfl rfl rfl rfl (r_move rfl) fun ac3 hf3 => ?_)
  refine seq_one (op_val (v := .int .i64 (k : Int)) hf3 rfl rfl rfl rfl rfl rfl (r_move rfl) fun ac4 hf4 => ?_)
  refine seq_one (op_pureW hf4 rfl rfl rfl rfl ca_56 (ring_in (hI1.nd 0 rfl rfl rfl rfl) c (Has.cons (hI1.at 0 rfl) (Has.cons (hI1.at 1 rfl) (Has.cons (hI1.at 2 rfl) (Has.cons (hI1.at 3 rfl) Has.nil)))) hk) hI1 fun ac5 wd1 hI2 hf5 => ?_)
  refine seq_one (op_val (v := .tuple #[.int .i64 ((N + k : Nat) : Int), .bool true]) hf5 rfl rfl rfl rfl rfl rfl (r_move rfl) fun ac6 hf6 => ?_)
  refine seq_one (op_val (v := .int .i64 ((N + k : Nat) : Int)) hf6 rfl rfl rfl rfl rfl rfl (r_extract rfl rfl) fun ac7 hf7 => ?_)
  refine seq_one (op_val (v := .bool true) hf7 rfl rfl rfl rfl rfl rfl (r_extract rfl rfl) fun ac8 hf8 => ?_)
  refine seq_one (op_val (v := .int .i64 ((N + k : Nat) : Int)) hf8 rfl rfl rfl rfl rfl rfl (r_assign rfl) fun ac9 hf9 => ?_)
  refine seq_one (op_val (v := .bool true) hf9 rfl rfl rfl rfl rfl rfl (r_assign rfl) fun ac10 hf10 => ?_)
  refine seq_end ?_
  clear ac2 hf2 ac3 hf3 ac4 hI1 hf4 ac5 hf5 ac6 hf6 ac7 hf7 ac8 hf8 ac9 hf9
  refine then_normal ?_
  refine code_seq ?_
  refine seq_start (l := [0, 1]) rfl ?_
  refine seq_one (op_val (v := .bool true) hf10 rfl rfl rfl rfl rfl rfl (r_move rfl) fun ac11 hf11 => ?_)
  refine seq_one (op_val (v := .bool false) hf11 rfl rfl rfl rfl rfl rfl ((r_not (b := true) rfl).trans rfl) fun ac12 hf12 => ?_)
  refine seq_end ?_
  clear ac10 hf10 ac11 hf11
  refine then_normal ?_
  refine code_if_false hf12 rfl ?_
  refine wp_skip ?_
  refine then_normal ?_
  refine code_seq ?_
  refine seq_start (l := [0, 1, 2, 3, 4, 5, 6, 7]) rfl ?_
  refine seq_one (op_val (v := .pointer (some ⟨cb, 0, none⟩)) hf12 rfl rfl rfl rfl rfl rfl (r_move rfl) fun ac13 hf13 => ?_)
  refine seq_one (op_val (v := .pointer (some ⟨cb, 0, none⟩)) hf13 rfl rfl rfl rfl rfl rfl (r_nilCheck rfl) fun ac14 hf14 => ?_)
  refine seq_one (op_val (v := .pointer (some ⟨cb, 2, none⟩)) hf14 rfl rfl rfl rfl rfl rfl (r_fieldAddr fi_79_2 rfl rfl) fun ac15 hf15 => ?_)
  refine seq_one (op_val (v := .slice (some ⟨mb, 0, none⟩) K K) hf15 rfl rfl rfl rfl rfl rfl (r_load ag_27 rfl (hI2.at 3 rfl) rfl) fun ac16 hf16 => ?_)
  refine seq_one (op_val (v := .int .i64 (k : Int)) hf16 rfl rfl rfl rfl rfl rfl (r_move rfl) fun ac17 hf17 => ?_)
  refine seq_one (op_val (v := .pointer (some ⟨mb, k, none⟩)) hf17 rfl rfl rfl rfl rfl rfl (r_indexAddrS (i := k) sl_27 rfl rfl rfl hk (by rw [Nat.mul_one, Nat.zero_add])) fun ac18 hf18 => ?_)
  refine seq_one (op_val (v := .int .i64 (c.mn.getD k 0)) hf18 rfl rfl rfl rfl rfl rfl (r_load ag_3 rfl (hI2.at 2 rfl) (arr_get (Nat.lt_of_lt_of_eq hk (Eq.symm c.rep.l3)))) fun ac19 hf19 => ?_)
  refine seq_one (op_val (v := .int .i64 (c.mn.getD k 0)) hf19 rfl rfl rfl rfl rfl rfl (r_assign rfl) fun ac20 hf20 => ?_)
  refine seq_end ?_
  clear ac12 hf12 ac13 hf13 ac14 hf14 ac15 hf15 ac16 hf16 ac17 hf17 ac18 hf18 ac19 hf19
  refine then_normal ?_
  refine wp_ret ?_
  exact post1 rfl hf20 rfl ⟨(by rw [Ch.lst_len hk]), hI2.unread h0_⟩
set_option maxHeartbeats 8000000 in
theorem len_out {N K : Nat} {lb ob mb cb : Nat} (hd : Nd lb ob mb cb) (c : Ch N K) {w : World} (h0_ : Has [(lb, arr .i64 c.lk, 103), (ob, arr .i64 c.of, 3), (mb, arr .i64 c.mn, 3), (cb, #[.slice (some ⟨lb, 0, none⟩) (N + K) (N + K), .slice (some ⟨ob, 0, none⟩) N N, .slice (some ⟨mb, 0, none⟩) K K], 79)] w) {l : Int} (hl : ¬ (0 ≤ l ∧ l < (K : Int))) : Calls Try.prog 41 [.pointer (some ⟨cb, 0, none⟩), .int .i64 l].toArray w fun e w' => e = .returned (.int .i64 ((c.lst l).length : Int)) ∧ Inv w [] w' := by
  have hI1 := Inv.startS h0_ hd.pw
  refine enter (n := 22) Try.func41 rfl rfl rfl ?_
  intro ac1 hf1
  refine code_seq ?_
  refine seq_start (l := [0]) rfl ?_
  refine seq_one (op_val (v := .int .i64 0) hf1 rfl rfl rfl rfl rfl rfl (r_assign rfl) fun ac2 hf2 => ?_)
  refine seq_end ?_
  clear ac1 hf1
  refine then_normal ?_
  refine code_seq ?_
  refine code_seq ?_
  refine seq_start (l := [0, 1, 2, 3, 4, 5, 6, 7]) rfl ?_
  refine seq_one (op_val (v := .pointer (some ⟨cb, 0, none⟩)) hf2 rfl rfl rfl rfl rfl rfl (r_move rfl) fun ac3 hf3 => ?_)
  refine seq_one (op_val (v := .int .i64 l) hf3 rfl rfl rfl rfl rfl rfl (r_move rfl) fun ac4 hf4 => ?_)
  refine seq_one (op_pureW hf4 rfl rfl rfl rfl ca_56 (ring_out (hI1.nd 0 rfl rfl rfl rfl) c (Has.cons (hI1.at 0 rfl) (Has.cons (hI1.at 1 rfl) (Has.cons (hI1.at 2 rfl) (Has.cons (hI1.at 3 rfl) Has.nil)))) hl) hI1 fun ac5 wd1 hI2 hf5 => ?_)
  refine seq_one (op_val (v := .tuple #[.int .i64 0, .bool false]) hf5 rfl rfl rfl rfl rfl rfl (r_move rfl) fun ac6 hf6 => ?_)
  refine seq_one (op_val (v := .int .i64 0) hf6 rfl rfl rfl rfl rfl rfl (r_extract rfl rfl) fun ac7 hf7 => ?_)
  refine seq_one (op_val (v := .bool false) hf7 rfl rfl rfl rfl rfl rfl (r_extract rfl rfl) fun ac8 hf8 => ?_)
  refine seq_one (op_val (v := .int .i64 0) hf8 rfl rfl rfl rfl rfl rfl (r_assign rfl) fun ac9 hf9 => ?_)
  refine seq_one (op_val (v := .bool false) hf9 rfl rfl rfl rfl rfl rfl (r_assign rfl) fun ac10 hf10 => ?_)
  refine seq_end ?_
  clear ac2 hf2 ac3 hf3 ac4 hI1 hf4 ac5 hf5 ac6 hf6 ac7 hf7 ac8 hf8 ac9 hf9
  refine then_normal ?_
  refine code_seq ?_
  refine seq_start (l := [0, 1]) rfl ?_
  refine seq_one (op_val (v := .bool false) hf10 rfl rfl rfl rfl rfl rfl (r_move rfl) fun ac11 hf11 => ?_)
  refine seq_one (op_val (v := .bool true) hf11 rfl rfl rfl rfl rfl rfl ((r_not (b := false) rfl).trans rfl) fun ac12 hf12 => ?_)
  refine seq_end ?_
  clear ac10 hf10 ac11 hf11
  refine then_normal ?_
  refine code_if_true hf12 rfl ?_
  refine code_seq ?_
  refine seq_start (l := [0]) rfl ?_
  refine seq_one (op_val (v := .int .i64 0) hf12 rfl rfl rfl rfl rfl rfl (r_assign rfl) fun ac13 hf13 => ?_)
  refine seq_end ?_
  clear ac12 hf12
  refine then_normal ?_
  refine wp_ret ?_
  refine then_ret ?_
  exact post1 rfl hf13 rfl ⟨(by rw [Ch.lst_out hl]; rfl), hI2.unread h0_⟩
theorem len_any {N K : Nat} {lb ob mb cb : Nat} (hd : Nd lb ob mb cb) (c : Ch N K) {w : World} (h0_ : Has [(lb, arr .i64 c.lk, 103), (ob, arr .i64 c.of, 3), (mb, arr .i64 c.mn, 3), (cb, #[.slice (some ⟨lb, 0, none⟩) (N + K) (N + K), .slice (some ⟨ob, 0, none⟩) N N, .slice (some ⟨mb, 0, none⟩) K K], 79)] w) (l : Int) : Calls Try.prog 41 [.pointer (some ⟨cb, 0, none⟩), .int .i64 l].toArray w fun e w' => e = .returned (.int .i64 ((c.lst l).length : Int)) ∧ Inv w [] w' := by
  by_cases hl : 0 ≤ l ∧ l < (K : Int)
  · obtain ⟨x, rfl⟩ := Int.eq_ofNat_of_zero_le hl.1
    exact len_in hd c h0_ (by omega)
  · exact len_out hd c h0_ hl
end Go.Proofs.Ytjelaoblpchmmaa
