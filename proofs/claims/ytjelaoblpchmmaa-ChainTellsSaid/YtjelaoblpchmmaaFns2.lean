/-
  Push, Drop and Pop of chain: what each call comes to.
-/
import Derived.Test.YtjelaoblpchmmaaFns
namespace Go.Proofs.Ytjelaoblpchmmaa
set_option linter.unusedVariables false
set_option linter.unusedSimpArgs false
set_option maxRecDepth 100000
open Go.RowKit
set_option maxHeartbeats 8000000 in
theorem join_walk {N K : Nat} {lb ob mb cb : Nat} (hd : Nd lb ob mb cb) {lk of mn : List Int} (hl : lk.length = 2 * (N + K)) (ho : of.length = N) (hm : mn.length = K) {a b : Nat} {x y : Int} (hx : x = (a : Int)) (hy : y = (b : Int)) (ha : a < N + K) (hb : b < N + K) {w : World} (h0_ : Has [(lb, arr .i64 lk, 103), (ob, arr .i64 of, 3), (mb, arr .i64 mn, 3), (cb, #[.slice (some ⟨lb, 0, none⟩) (N + K) (N + K), .slice (some ⟨ob, 0, none⟩) N N, .slice (some ⟨mb, 0, none⟩) K K], 79)] w) : Calls Try.prog 58 [.pointer (some ⟨cb, 0, none⟩), .int .i64 x, .int .i64 y].toArray w fun e w' => e = .returned (.tuple #[]) ∧ Inv w [(lb, arr .i64 (jn lk a b), 103), (ob, arr .i64 of, 3), (mb, arr .i64 mn, 3), (cb, #[.slice (some ⟨lb, 0, none⟩) (N + K) (N + K), .slice (some ⟨ob, 0, none⟩) N N, .slice (some ⟨mb, 0, none⟩) K K], 79)] w' := by
  have hI1 := Inv.startS h0_ hd.pw
  subst hx
  subst hy
  refine enter (n := 22) Try.func58 rfl rfl rfl ?_
  intro ac1 hf1
  refine code_seq ?_
  refine seq_start (l := [0, 1, 2, 3, 4, 5, 6, 7, 8]) rfl ?_
  refine seq_one (op_val (v := .pointer (some ⟨cb, 0, none⟩)) hf1 rfl rfl rfl rfl rfl rfl (r_move rfl) fun ac2 hf2 => ?_)
  refine seq_one (op_val (v := .pointer (some ⟨cb, 0, none⟩)) hf2 rfl rfl rfl rfl rfl rfl (r_nilCheck rfl) fun ac3 hf3 => ?_)
  refine seq_one (op_val (v := .pointer (some ⟨cb, 0, none⟩)) hf3 rfl rfl rfl rfl rfl rfl (r_fieldAddr fi_79_0 rfl rfl) fun ac4 hf4 => ?_)
  refine seq_one (op_val (v := .slice (some ⟨lb, 0, none⟩) (N + K) (N + K)) hf4 rfl rfl rfl rfl rfl rfl (r_load ag_77 rfl (hI1.at 3 rfl) rfl) fun ac5 hf5 => ?_)
  refine seq_one (op_val (v := .int .i64 (a : Int)) hf5 rfl rfl rfl rfl rfl rfl (r_move rfl) fun ac6 hf6 => ?_)
  refine seq_one (op_val (v := .int .i64 (b : Int)) hf6 rfl rfl rfl rfl rfl rfl (r_move rfl) fun ac7 hf7 => ?_)
  refine seq_one (op_val (v := .pointer (some ⟨lb, 2 * a, none⟩)) hf7 rfl rfl rfl rfl rfl rfl (r_indexAddrS (i := a) sl_77 rfl rfl rfl ha (by rw [Nat.zero_add, Nat.mul_comm])) fun ac8 hf8 => ?_)
  refine seq_one (op_val (v := .pointer (some ⟨lb, 2 * a + 1, none⟩)) hf8 rfl rfl rfl rfl rfl rfl (r_indexAddr (i := 1) ar_103 rfl rfl rfl (by decide) rfl) fun ac9 hf9 => ?_)
  refine seq_one (op_store (cs' := arr .i64 (lk.set (2 * a + 1) (b : Int))) 0 hf9 rfl rfl rfl rfl rfl sz_3 hI1 rfl (Nat.lt_of_lt_of_eq (by have := (show a < (N + K) from ha); omega) (Eq.symm (arr_size hl))) arr_set fun wd1 hI2 => ?_)
  have hI3 : Inv w [(lb, arr .i64 (lk.set (2 * a + 1) (b : Int)), 103), (ob, arr .i64 of, 3), (mb, arr .i64 mn, 3), (cb, #[.slice (some ⟨lb, 0, none⟩) (N + K) (N + K), .slice (some ⟨ob, 0, none⟩) N N, .slice (some ⟨mb, 0, none⟩) K K], 79)] wd1 := hI2
  refine seq_end ?_
  clear ac1 hf1 ac2 hf2 ac3 hf3 ac4 hf4 ac5 hf5 ac6 hf6 ac7 hf7 ac8 hf8 hI1 hI2
  refine then_normal ?_
  refine seq_start (l := [0, 1, 2, 3, 4, 5, 6, 7, 8]) rfl ?_
  refine seq_one (op_val (v := .pointer (some ⟨cb, 0, none⟩)) hf9 rfl rfl rfl rfl rfl rfl (r_move rfl) fun ac10 hf10 => ?_)
  refine seq_one (op_val (v := .pointer (some ⟨cb, 0, none⟩)) hf10 rfl rfl rfl rfl rfl rfl (r_nilCheck rfl) fun ac11 hf11 => ?_)
  refine seq_one (op_val (v := .pointer (some ⟨cb, 0, none⟩)) hf11 rfl rfl rfl rfl rfl rfl (r_fieldAddr fi_79_0 rfl rfl) fun ac12 hf12 => ?_)
  refine seq_one (op_val (v := .slice (some ⟨lb, 0, none⟩) (N + K) (N + K)) hf12 rfl rfl rfl rfl rfl rfl (r_load ag_77 rfl (hI3.at 3 rfl) rfl) fun ac13 hf13 => ?_)
  refine seq_one (op_val (v := .int .i64 (b : Int)) hf13 rfl rfl rfl rfl rfl rfl (r_move rfl) fun ac14 hf14 => ?_)
  refine seq_one (op_val (v := .int .i64 (a : Int)) hf14 rfl rfl rfl rfl rfl rfl (r_move rfl) fun ac15 hf15 => ?_)
  refine seq_one (op_val (v := .pointer (some ⟨lb, 2 * b, none⟩)) hf15 rfl rfl rfl rfl rfl rfl (r_indexAddrS (i := b) sl_77 rfl rfl rfl hb (by rw [Nat.zero_add, Nat.mul_comm])) fun ac16 hf16 => ?_)
  refine seq_one (op_val (v := .pointer (some ⟨lb, 2 * b, none⟩)) hf16 rfl rfl rfl rfl rfl rfl (r_indexAddr (i := 0) ar_103 rfl rfl rfl (by decide) rfl) fun ac17 hf17 => ?_)
  refine seq_one (op_store (cs' := arr .i64 ((lk.set (2 * a + 1) (b : Int)).set (2 * b) (a : Int))) 0 hf17 rfl rfl rfl rfl rfl sz_3 hI3 rfl (Nat.lt_of_lt_of_eq (by have := (show b < (N + K) from hb); omega) (Eq.symm (arr_size (List.length_set.trans hl)))) arr_set fun wd2 hI4 => ?_)
  have hI5 : Inv w [(lb, arr .i64 ((lk.set (2 * a + 1) (b : Int)).set (2 * b) (a : Int)), 103), (ob, arr .i64 of, 3), (mb, arr .i64 mn, 3), (cb, #[.slice (some ⟨lb, 0, none⟩) (N + K) (N + K), .slice (some ⟨ob, 0, none⟩) N N, .slice (some ⟨mb, 0, none⟩) K K], 79)] wd2 := hI4
  refine seq_end ?_
  clear ac9 hf9 ac10 hf10 ac11 hf11 ac12 hf12 ac13 hf13 ac14 hf14 ac15 hf15 ac16 hf16 wd1 hI3 hI4
  exact post0 rfl hf17 ⟨rfl, hI5⟩
set_option maxHeartbeats 8000000 in
theorem push_in {N K : Nat} {lb ob mb cb : Nat} (hd : Nd lb ob mb cb) (c : Ch N K) {w : World} (h0_ : Has [(lb, arr .i64 c.lk, 103), (ob, arr .i64 c.of, 3), (mb, arr .i64 c.mn, 3), (cb, #[.slice (some ⟨lb, 0, none⟩) (N + K) (N + K), .slice (some ⟨ob, 0, none⟩) N N, .slice (some ⟨mb, 0, none⟩) K K], 79)] w) {k n : Nat} (hk : k < K) (hn : n < N) (h0 : c.of.getD n 0 = 0) : Calls Try.prog 30 [.pointer (some ⟨cb, 0, none⟩), .int .i64 (k : Int), .int .i64 (n : Int)].toArray w fun e w' => e = .returned (.int .i64 0) ∧ Inv w [(lb, arr .i64 (c.push (k : Int) (n : Int)).lk, 103), (ob, arr .i64 (c.push (k : Int) (n : Int)).of, 3), (mb, arr .i64 (c.push (k : Int) (n : Int)).mn, 3), (cb, #[.slice (some ⟨lb, 0, none⟩) (N + K) (N + K), .slice (some ⟨ob, 0, none⟩) N N, .slice (some ⟨mb, 0, none⟩) K K], 79)] w' := by
  have hI1 := Inv.startS h0_ hd.pw
  have hN := c.hN
  have hK := c.hK
  obtain ⟨_, z, _, hz, hzl, _⟩ := c.rep.ring_last hk
  have hz' : c.lk.getD (2 * (N + k)) 0 = ((pv c.lk (N + k)).toNat : Int) := by rw [show c.lk.getD (2 * (N + k)) 0 = pv c.lk (N + k) from rfl, hz]; rfl
  have hzl' : (pv c.lk (N + k)).toNat < N + K := by rw [hz, Int.toNat_natCast]; exact hzl
  refine enter (n := 76) Try.func30 rfl rfl rfl ?_
  intro ac1 hf1
  refine code_seq ?_
  refine seq_start (l := [0]) rfl ?_
  refine seq_one (op_val (v := .int .i64 0) hf1 rfl rfl rfl rfl rfl rfl (r_assign rfl) fun ac2 hf2 => ?_)
  refine seq_end ?_
  clear ac1 hf1
  refine then_normal ?_
  refine code_seq ?_
  refine code_seq ?_
  refine seq_start (l := [0, 1, 2, 3, 4, 5, 6, 7, 8]) rfl ?_
  refine seq_one (op_val (v := .pointer (some ⟨cb, 0, none⟩)) hf2 rfl rfl rfl rfl rfl rfl (r_move rfl) fun ac3 hf3 => ?_)
  refine seq_one (op_val (v := .bool false) hf3 rfl rfl rfl rfl rfl rfl (r_eqNil up_41 rfl rfl rfl) fun ac4 hf4 => ?_)
  refine seq_one (op_val (v := .bool false) hf4 rfl rfl rfl rfl rfl rfl (r_move rfl) fun ac5 hf5 => ?_)
  refine seq_one (op_val (v := .pointer (some ⟨cb, 0, none⟩)) hf5 rfl rfl rfl rfl rfl rfl (r_move rfl) fun ac6 hf6 => ?_)
  refine seq_one (op_val (v := .pointer (some ⟨cb, 0, none⟩)) hf6 rfl rfl rfl rfl rfl rfl (r_nilCheck rfl) fun ac7 hf7 => ?_)
  refine seq_one (op_val (v := .pointer (some ⟨cb, 0, none⟩)) hf7 rfl rfl rfl rfl rfl rfl (r_fieldAddr fi_79_0 rfl rfl) fun ac8 hf8 => ?_)
  refine seq_one (op_val (v := .slice (some ⟨lb, 0, none⟩) (N + K) (N + K)) hf8 rfl rfl rfl rfl rfl rfl (r_load ag_77 rfl (hI1.at 3 rfl) rfl) fun ac9 hf9 => ?_)
  refine seq_one (op_val (v := .bool false) hf9 rfl rfl rfl rfl rfl rfl (r_eqSl us_77 rfl rfl rfl) fun ac10 hf10 => ?_)
  refine seq_one (op_val (v := .bool false) hf10 rfl rfl rfl rfl rfl rfl (r_pickF rfl rfl) fun ac11 hf11 => ?_)
  refine seq_end ?_
  clear ac2 hf2 ac3 hf3 ac4 hf4 ac5 hf5 ac6 hf6 ac7 hf7 ac8 hf8 ac9 hf9 ac10 hf10
  refine then_normal ?_
  refine code_if_false hf11 rfl ?_
  refine wp_skip ?_
  refine then_normal ?_
  refine code_seq ?_
  refine seq_start (l := [0, 1, 2, 3, 4, 5, 6, 7]) rfl ?_
  refine seq_one (op_val (v := .pointer (some ⟨cb, 0, none⟩)) hf11 rfl rfl rfl rfl rfl rfl (r_move rfl) fun ac12 hf12 => ?_)
  refine seq_one (op_val (v := .int .i64 (k : Int)) hf12 rfl rfl rfl rfl rfl rfl (r_move rfl) fun ac13 hf13 => ?_)
  refine seq_one (op_pureW hf13 rfl rfl rfl rfl ca_56 (ring_in (hI1.nd 0 rfl rfl rfl rfl) c (Has.cons (hI1.at 0 rfl) (Has.cons (hI1.at 1 rfl) (Has.cons (hI1.at 2 rfl) (Has.cons (hI1.at 3 rfl) Has.nil)))) hk) hI1 fun ac14 wd1 hI2 hf14 => ?_)
  refine seq_one (op_val (v := .tuple #[.int .i64 ((N + k : Nat) : Int), .bool true]) hf14 rfl rfl rfl rfl rfl rfl (r_move rfl) fun ac15 hf15 => ?_)
  refine seq_one (op_val (v := .int .i64 ((N + k : Nat) : Int)) hf15 rfl rfl rfl rfl rfl rfl (r_extract rfl rfl) fun ac16 hf16 => ?_)
  refine seq_one (op_val (v := .bool true) hf16 rfl rfl rfl rfl rfl rfl (r_extract rfl rfl) fun ac17 hf17 => ?_)
  refine seq_one (op_val (v := .int .i64 ((N + k : Nat) : Int)) hf17 rfl rfl rfl rfl rfl rfl (r_assign rfl) fun ac18 hf18 => ?_)
  refine seq_one (op_val (v := .bool true) hf18 rfl rfl rfl rfl rfl rfl (r_assign rfl) fun ac19 hf19 => ?_)
  refine seq_end ?_
  clear ac11 hf11 ac12 hf12 ac13 hI1 hf13 ac14 hf14 ac15 hf15 ac16 hf16 ac17 hf17 ac18 hf18
  refine then_normal ?_
  refine code_seq ?_
  refine wp_block ?_
  refine code_seq ?_
  refine seq_start (l := [0, 1, 2, 3, 4, 5, 6, 7, 8]) rfl ?_
  refine seq_one (op_val (v := .bool true) hf19 rfl rfl rfl rfl rfl rfl (r_move rfl) fun ac20 hf20 => ?_)
  refine seq_one (op_val (v := .bool false) hf20 rfl rfl rfl rfl rfl rfl ((r_not (b := true) rfl).trans rfl) fun ac21 hf21 => ?_)
  refine seq_one (op_val (v := .bool false) hf21 rfl rfl rfl rfl rfl rfl (r_move rfl) fun ac22 hf22 => ?_)
  refine seq_one (op_val (v := .pointer (some ⟨cb, 0, none⟩)) hf22 rfl rfl rfl rfl rfl rfl (r_move rfl) fun ac23 hf23 => ?_)
  refine seq_one (op_val (v := .int .i64 (n : Int)) hf23 rfl rfl rfl rfl rfl rfl (r_move rfl) fun ac24 hf24 => ?_)
  refine seq_one (op_pureW hf24 rfl rfl rfl rfl ca_57 (node_any (hI2.nd 0 rfl rfl rfl rfl) c (Has.cons (hI2.at 0 rfl) (Has.cons (hI2.at 1 rfl) (Has.cons (hI2.at 2 rfl) (Has.cons (hI2.at 3 rfl) Has.nil))))) hI2 fun ac25 wd2 hI3 hf25 => ?_)
  refine seq_one (op_val (v := .bool (!(decide (0 ≤ (n : Int) ∧ (n : Int) < (N : Int))))) hf25 rfl rfl rfl rfl rfl rfl (r_not rfl) fun ac26 hf26 => ?_)
  refine seq_one (op_val (v := .bool (!(decide (0 ≤ (n : Int) ∧ (n : Int) < (N : Int))))) hf26 rfl rfl rfl rfl rfl rfl (r_pickF rfl rfl) fun ac27 hf27 => ?_)
  refine seq_one (op_val (v := .bool (!(decide (0 ≤ (n : Int) ∧ (n : Int) < (N : Int))))) hf27 rfl rfl rfl rfl rfl rfl (r_assign rfl) fun ac28 hf28 => ?_)
  refine seq_end ?_
  clear ac19 hf19 ac20 hf20 ac21 hf21 ac22 hf22 ac23 hf23 ac24 wd1 hI2 hf24 ac25 hf25 ac26 hf26 ac27 hf27
  refine then_normal ?_
  have hf29 := hf28.know 25 (u := .bool false) rfl (congrArg Value.bool (by rw [decide_eq_true (p := 0 ≤ (n : Int) ∧ (n : Int) < (N : Int)) (by omega)]; rfl))
  refine code_if_false hf29 rfl ?_
  refine code_seq ?_
  refine seq_start (l := [0, 1, 2, 3, 4, 5, 6, 7, 8]) rfl ?_
  refine seq_one (op_val (v := .pointer (some ⟨cb, 0, none⟩)) hf29 rfl rfl rfl rfl rfl rfl (r_move rfl) fun ac29 hf30 => ?_)
  refine seq_one (op_val (v := .pointer (some ⟨cb, 0, none⟩)) hf30 rfl rfl rfl rfl rfl rfl (r_nilCheck rfl) fun ac30 hf31 => ?_)
  refine seq_one (op_val (v := .pointer (some ⟨cb, 1, none⟩)) hf31 rfl rfl rfl rfl rfl rfl (r_fieldAddr fi_79_1 rfl rfl) fun ac31 hf32 => ?_)
  refine seq_one (op_val (v := .slice (some ⟨ob, 0, none⟩) N N) hf32 rfl rfl rfl rfl rfl rfl (r_load ag_27 rfl (hI3.at 3 rfl) rfl) fun ac32 hf33 => ?_)
  refine seq_one (op_val (v := .int .i64 (n : Int)) hf33 rfl rfl rfl rfl rfl rfl (r_move rfl) fun ac33 hf34 => ?_)
  refine seq_one (op_val (v := .pointer (some ⟨ob, n, none⟩)) hf34 rfl rfl rfl rfl rfl rfl (r_indexAddrS (i := n) sl_27 rfl rfl rfl hn (by rw [Nat.mul_one, Nat.zero_add])) fun ac34 hf35 => ?_)
  refine seq_one (op_val (v := .int .i64 (c.of.getD n 0)) hf35 rfl rfl rfl rfl rfl rfl (r_load ag_3 rfl (hI3.at 1 rfl) (arr_get (Nat.lt_of_lt_of_eq hn (Eq.symm c.rep.l2)))) fun ac35 hf36 => ?_)
  refine seq_one (op_val (v := .bool (decide ((c.of.getD n 0) > 0))) hf36 rfl rfl rfl rfl rfl rfl (r_gtr rfl rfl) fun ac36 hf37 => ?_)
  refine seq_one (op_val (v := .bool (decide ((c.of.getD n 0) > 0))) hf37 rfl rfl rfl rfl rfl rfl (r_assign rfl) fun ac37 hf38 => ?_)
  refine seq_end ?_
  clear hf28 ac28 hf29 ac29 hf30 ac30 hf31 ac31 hf32 ac32 hf33 ac33 hf34 ac34 hf35 ac35 hf36 ac36 hf37
  refine then_normal ?_
  have hf39 := hf38.know 34 (u := .bool false) rfl (congrArg Value.bool (decide_eq_false (by omega)))
  refine code_if_false hf39 rfl ?_
  refine wp_skip ?_
  refine block_normal ?_
  refine then_normal ?_
  refine code_seq ?_
  refine seq_start (l := [0, 1, 2, 3, 4, 5, 6, 7, 8]) rfl ?_
  refine seq_one (op_val (v := .pointer (some ⟨cb, 0, none⟩)) hf39 rfl rfl rfl rfl rfl rfl (r_move rfl) fun ac38 hf40 => ?_)
  refine seq_one (op_val (v := .pointer (some ⟨cb, 0, none⟩)) hf40 rfl rfl rfl rfl rfl rfl (r_nilCheck rfl) fun ac39 hf41 => ?_)
  refine seq_one (op_val (v := .pointer (some ⟨cb, 0, none⟩)) hf41 rfl rfl rfl rfl rfl rfl (r_fieldAddr fi_79_0 rfl rfl) fun ac40 hf42 => ?_)
  refine seq_one (op_val (v := .slice (some ⟨lb, 0, none⟩) (N + K) (N + K)) hf42 rfl rfl rfl rfl rfl rfl (r_load ag_77 rfl (hI3.at 3 rfl) rfl) fun ac41 hf43 => ?_)
  refine seq_one (op_val (v := .int .i64 ((N + k : Nat) : Int)) hf43 rfl rfl rfl rfl rfl rfl (r_move rfl) fun ac42 hf44 => ?_)
  refine seq_one (op_val (v := .pointer (some ⟨lb, 2 * (N + k), none⟩)) hf44 rfl rfl rfl rfl rfl rfl (r_indexAddrS (i := (N + k)) sl_77 rfl rfl rfl (by omega) (by rw [Nat.zero_add, Nat.mul_comm])) fun ac43 hf45 => ?_)
  refine seq_one (op_val (v := .pointer (some ⟨lb, 2 * (N + k), none⟩)) hf45 rfl rfl rfl rfl rfl rfl (r_indexAddr (i := 0) ar_103 rfl rfl rfl (by decide) rfl) fun ac44 hf46 => ?_)
  refine seq_one (op_val (v := .int .i64 (c.lk.getD (2 * (N + k)) 0)) hf46 rfl rfl rfl rfl rfl rfl (r_load ag_3 rfl (hI3.at 0 rfl) (arr_get (Nat.lt_of_lt_of_eq (by have := (show (N + k) < (N + K) from (by omega)); omega) (Eq.symm c.rep.l1)))) fun ac45 hf47 => ?_)
  refine seq_one (op_val (v := .int .i64 (c.lk.getD (2 * (N + k)) 0)) hf47 rfl rfl rfl rfl rfl rfl (r_assign rfl) fun ac46 hf48 => ?_)
  refine seq_end ?_
  clear hf38 ac37 hf39 ac38 hf40 ac39 hf41 ac40 hf42 ac41 hf43 ac42 hf44 ac43 hf45 ac44 hf46 ac45 hf47
  refine then_normal ?_
  refine code_seq ?_
  refine seq_start (l := [0, 1, 2, 3]) rfl ?_
  refine seq_one (op_val (v := .pointer (some ⟨cb, 0, none⟩)) hf48 rfl rfl rfl rfl rfl rfl (r_move rfl) fun ac47 hf49 => ?_)
  refine seq_one (op_val (v := .int .i64 (c.lk.getD (2 * (N + k)) 0)) hf49 rfl rfl rfl rfl rfl rfl (r_move rfl) fun ac48 hf50 => ?_)
  refine seq_one (op_val (v := .int .i64 (n : Int)) hf50 rfl rfl rfl rfl rfl rfl (r_move rfl) fun ac49 hf51 => ?_)
  refine seq_one (op_call (R := fun v w' => v = .tuple #[] ∧ Inv _ [(lb, arr .i64 (jn c.lk ((pv c.lk (N + k)).toNat) n), 103), (ob, arr .i64 c.of, 3), (mb, arr .i64 c.mn, 3), (cb, #[.slice (some ⟨lb, 0, none⟩) (N + K) (N + K), .slice (some ⟨ob, 0, none⟩) N N, .slice (some ⟨mb, 0, none⟩) K K], 79)] w') hf51 rfl rfl rfl rfl ca_58 ((join_walk (a := (pv c.lk (N + k)).toNat) (b := n) (hI3.nd 0 rfl rfl rfl rfl) c.rep.l1 c.rep.l2 c.rep.l3 hz' rfl hzl' (by omega) (Has.cons (hI3.at 0 rfl) (Has.cons (hI3.at 1 rfl) (Has.cons (hI3.at 2 rfl) (Has.cons (hI3.at 3 rfl) Has.nil))))).mono fun _ _ h => ⟨_, h.1, rfl, h.2⟩) fun ac50 v wd3 hR1 hf52 => ?_)
  obtain ⟨rfl, hR1⟩ := hR1
  have hI4 : Inv w [(lb, arr .i64 (jn c.lk ((pv c.lk (N + k)).toNat) n), 103), (ob, arr .i64 c.of, 3), (mb, arr .i64 c.mn, 3), (cb, #[.slice (some ⟨lb, 0, none⟩) (N + K) (N + K), .slice (some ⟨ob, 0, none⟩) N N, .slice (some ⟨mb, 0, none⟩) K K], 79)] _ := Inv.callS (A := []) (S := [(lb, arr .i64 c.lk, 103), (ob, arr .i64 c.of, 3), (mb, arr .i64 c.mn, 3), (cb, #[.slice (some ⟨lb, 0, none⟩) (N + K) (N + K), .slice (some ⟨ob, 0, none⟩) N N, .slice (some ⟨mb, 0, none⟩) K K], 79)]) (S' := [(lb, arr .i64 (jn c.lk ((pv c.lk (N + k)).toNat) n), 103), (ob, arr .i64 c.of, 3), (mb, arr .i64 c.mn, 3), (cb, #[.slice (some ⟨lb, 0, none⟩) (N + K) (N + K), .slice (some ⟨ob, 0, none⟩) N N, .slice (some ⟨mb, 0, none⟩) K K], 79)]) (L := []) (N := []) hI3 hR1 rfl (fun _ h => by cases h)
  refine seq_end ?_
  clear ac46 hf48 ac47 hf49 ac48 hf50 ac49 wd2 hf51 hI3 hR1
  refine then_normal ?_
  refine code_seq ?_
  refine seq_start (l := [0, 1, 2, 3]) rfl ?_
  refine seq_one (op_val (v := .pointer (some ⟨cb, 0, none⟩)) hf52 rfl rfl rfl rfl rfl rfl (r_move rfl) fun ac51 hf53 => ?_)
  refine seq_one (op_val (v := .int .i64 (n : Int)) hf53 rfl rfl rfl rfl rfl rfl (r_move rfl) fun ac52 hf54 => ?_)
  refine seq_one (op_val (v := .int .i64 ((N + k : Nat) : Int)) hf54 rfl rfl rfl rfl rfl rfl (r_move rfl) fun ac53 hf55 => ?_)
  refine seq_one (op_call (R := fun v w' => v = .tuple #[] ∧ Inv _ [(lb, arr .i64 (jn (jn c.lk ((pv c.lk (N + k)).toNat) n) n (N + k)), 103), (ob, arr .i64 c.of, 3), (mb, arr .i64 c.mn, 3), (cb, #[.slice (some ⟨lb, 0, none⟩) (N + K) (N + K), .slice (some ⟨ob, 0, none⟩) N N, .slice (some ⟨mb, 0, none⟩) K K], 79)] w') hf55 rfl rfl rfl rfl ca_58 ((join_walk (a := n) (b := (N + k)) (hI4.nd 0 rfl rfl rfl rfl) (jn_len.trans c.rep.l1) c.rep.l2 c.rep.l3 rfl rfl (by omega) (by omega) (Has.cons (hI4.at 0 rfl) (Has.cons (hI4.at 1 rfl) (Has.cons (hI4.at 2 rfl) (Has.cons (hI4.at 3 rfl) Has.nil))))).mono fun _ _ h => ⟨_, h.1, rfl, h.2⟩) fun ac54 v wd4 hR2 hf56 => ?_)
  obtain ⟨rfl, hR2⟩ := hR2
  have hI5 : Inv w [(lb, arr .i64 (jn (jn c.lk ((pv c.lk (N + k)).toNat) n) n (N + k)), 103), (ob, arr .i64 c.of, 3), (mb, arr .i64 c.mn, 3), (cb, #[.slice (some ⟨lb, 0, none⟩) (N + K) (N + K), .slice (some ⟨ob, 0, none⟩) N N, .slice (some ⟨mb, 0, none⟩) K K], 79)] _ := Inv.callS (A := []) (S := [(lb, arr .i64 (jn c.lk ((pv c.lk (N + k)).toNat) n), 103), (ob, arr .i64 c.of, 3), (mb, arr .i64 c.mn, 3), (cb, #[.slice (some ⟨lb, 0, none⟩) (N + K) (N + K), .slice (some ⟨ob, 0, none⟩) N N, .slice (some ⟨mb, 0, none⟩) K K], 79)]) (S' := [(lb, arr .i64 (jn (jn c.lk ((pv c.lk (N + k)).toNat) n) n (N + k)), 103), (ob, arr .i64 c.of, 3), (mb, arr .i64 c.mn, 3), (cb, #[.slice (some ⟨lb, 0, none⟩) (N + K) (N + K), .slice (some ⟨ob, 0, none⟩) N N, .slice (some ⟨mb, 0, none⟩) K K], 79)]) (L := []) (N := []) hI4 hR2 rfl (fun _ h => by cases h)
  refine seq_end ?_
  clear ac50 hf52 ac51 hf53 ac52 hf54 ac53 wd3 hf55 hI4 hR2
  refine then_normal ?_
  refine code_seq ?_
  refine seq_start (l := [0, 1, 2, 3, 4, 5, 6, 7, 8]) rfl ?_
  refine seq_one (op_val (v := .pointer (some ⟨cb, 0, none⟩)) hf56 rfl rfl rfl rfl rfl rfl (r_move rfl) fun ac55 hf57 => ?_)
  refine seq_one (op_val (v := .pointer (some ⟨cb, 0, none⟩)) hf57 rfl rfl rfl rfl rfl rfl (r_nilCheck rfl) fun ac56 hf58 => ?_)
  refine seq_one (op_val (v := .pointer (some ⟨cb, 1, none⟩)) hf58 rfl rfl rfl rfl rfl rfl (r_fieldAddr fi_79_1 rfl rfl) fun ac57 hf59 => ?_)
  refine seq_one (op_val (v := .slice (some ⟨ob, 0, none⟩) N N) hf59 rfl rfl rfl rfl rfl rfl (r_load ag_27 rfl (hI5.at 3 rfl) rfl) fun ac58 hf60 => ?_)
  refine seq_one (op_val (v := .int .i64 (n : Int)) hf60 rfl rfl rfl rfl rfl rfl (r_move rfl) fun ac59 hf61 => ?_)
  refine seq_one (op_val (v := .int .i64 (k : Int)) hf61 rfl rfl rfl rfl rfl rfl (r_move rfl) fun ac60 hf62 => ?_)
  refine seq_one (op_val (v := .int .i64 ((k : Int) + 1)) hf62 rfl rfl rfl rfl rfl rfl (r_add (c := ((k : Int) + 1)) rfl rfl (wrap_i64 (by omega) (by omega))) fun ac61 hf63 => ?_)
  refine seq_one (op_val (v := .pointer (some ⟨ob, n, none⟩)) hf63 rfl rfl rfl rfl rfl rfl (r_indexAddrS (i := n) sl_27 rfl rfl rfl hn (by rw [Nat.mul_one, Nat.zero_add])) fun ac62 hf64 => ?_)
  refine seq_one (op_store (cs' := arr .i64 (c.of.set n ((k : Int) + 1))) 1 hf64 rfl rfl rfl rfl rfl sz_3 hI5 rfl (Nat.lt_of_lt_of_eq hn (Eq.symm (arr_size c.rep.l2))) arr_set fun wd5 hI6 => ?_)
  have hI7 : Inv w [(lb, arr .i64 (jn (jn c.lk ((pv c.lk (N + k)).toNat) n) n (N + k)), 103), (ob, arr .i64 (c.of.set n ((k : Int) + 1)), 3), (mb, arr .i64 c.mn, 3), (cb, #[.slice (some ⟨lb, 0, none⟩) (N + K) (N + K), .slice (some ⟨ob, 0, none⟩) N N, .slice (some ⟨mb, 0, none⟩) K K], 79)] wd5 := hI6
  refine seq_end ?_
  clear ac54 hf56 ac55 hf57 ac56 hf58 ac57 hf59 ac58 hf60 ac59 hf61 ac60 hf62 ac61 hf63 wd4 hI5 hI6
  refine then_normal ?_
  refine code_seq ?_
  refine seq_start (l := [0, 1, 2, 3, 4, 5, 6, 7, 8, 9]) rfl ?_
  refine seq_one (op_val (v := .pointer (some ⟨cb, 0, none⟩)) hf64 rfl rfl rfl rfl rfl rfl (r_move rfl) fun ac63 hf65 => ?_)
  refine seq_one (op_val (v := .pointer (some ⟨cb, 0, none⟩)) hf65 rfl rfl rfl rfl rfl rfl (r_nilCheck rfl) fun ac64 hf66 => ?_)
  refine seq_one (op_val (v := .pointer (some ⟨cb, 2, none⟩)) hf66 rfl rfl rfl rfl rfl rfl (r_fieldAddr fi_79_2 rfl rfl) fun ac65 hf67 => ?_)
  refine seq_one (op_val (v := .slice (some ⟨mb, 0, none⟩) K K) hf67 rfl rfl rfl rfl rfl rfl (r_load ag_27 rfl (hI7.at 3 rfl) rfl) fun ac66 hf68 => ?_)
  refine seq_one (op_val (v := .int .i64 (k : Int)) hf68 rfl rfl rfl rfl rfl rfl (r_move rfl) fun ac67 hf69 => ?_)
  refine seq_one (op_val (v := .pointer (some ⟨mb, k, none⟩)) hf69 rfl rfl rfl rfl rfl rfl (r_indexAddrS (i := k) sl_27 rfl rfl rfl hk (by rw [Nat.mul_one, Nat.zero_add])) fun ac68 hf70 => ?_)
  refine seq_one (op_val (v := .int .i64 (c.mn.getD k 0)) hf70 rfl rfl rfl rfl rfl rfl (r_load ag_3 rfl (hI7.at 2 rfl) (arr_get (Nat.lt_of_lt_of_eq hk (Eq.symm c.rep.l3)))) fun ac69 hf71 => ?_)
  refine seq_one (op_val (v := .int .i64 (c.mn.getD k 0 + 1)) hf71 rfl rfl rfl rfl rfl rfl (r_add (c := (c.mn.getD k 0 + 1)) rfl rfl (wrap_i64 (by have := Ch.mn_b c hk; omega) (by have := Ch.mn_b c hk; omega))) fun ac70 hf72 => ?_)
  refine seq_one (op_val (v := .pointer (some ⟨mb, k, none⟩)) hf72 rfl rfl rfl rfl rfl rfl (r_indexAddrS (i := k) sl_27 rfl rfl rfl hk (by rw [Nat.mul_one, Nat.zero_add])) fun ac71 hf73 => ?_)
  refine seq_one (op_store (cs' := arr .i64 (c.mn.set k (c.mn.getD k 0 + 1))) 2 hf73 rfl rfl rfl rfl rfl sz_3 hI7 rfl (Nat.lt_of_lt_of_eq hk (Eq.symm (arr_size c.rep.l3))) arr_set fun wd6 hI8 => ?_)
  have hI9 : Inv w [(lb, arr .i64 (jn (jn c.lk ((pv c.lk (N + k)).toNat) n) n (N + k)), 103), (ob, arr .i64 (c.of.set n ((k : Int) + 1)), 3), (mb, arr .i64 (c.mn.set k (c.mn.getD k 0 + 1)), 3), (cb, #[.slice (some ⟨lb, 0, none⟩) (N + K) (N + K), .slice (some ⟨ob, 0, none⟩) N N, .slice (some ⟨mb, 0, none⟩) K K], 79)] wd6 := hI8
  refine seq_end ?_
  clear ac62 hf64 ac63 hf65 ac64 hf66 ac65 hf67 ac66 hf68 ac67 hf69 ac68 hf70 ac69 hf71 ac70 hf72 wd5 hI7 hI8
  refine then_normal ?_
  refine code_seq ?_
  refine seq_start (l := [0]) rfl ?_
  refine seq_one (op_val (v := .int .i64 0) hf73 rfl rfl rfl rfl rfl rfl (r_assign rfl) fun ac72 hf74 => ?_)
  refine seq_end ?_
  clear ac71 hf73
  refine then_normal ?_
  refine wp_ret ?_
  exact post1 rfl hf74 rfl ⟨rfl, by rw [Ch.push_eq c hk hn h0]; exact hI9⟩
set_option maxHeartbeats 8000000 in
theorem push_same {N K : Nat} {lb ob mb cb : Nat} (hd : Nd lb ob mb cb) (c : Ch N K) {w : World} (h0_ : Has [(lb, arr .i64 c.lk, 103), (ob, arr .i64 c.of, 3), (mb, arr .i64 c.mn, 3), (cb, #[.slice (some ⟨lb, 0, none⟩) (N + K) (N + K), .slice (some ⟨ob, 0, none⟩) N N, .slice (some ⟨mb, 0, none⟩) K K], 79)] w) {k n : Nat} (hk : k < K) (hn : n < N) (h0 : c.of.getD n 0 ≠ 0) : Calls Try.prog 30 [.pointer (some ⟨cb, 0, none⟩), .int .i64 (k : Int), .int .i64 (n : Int)].toArray w fun e w' => e = .returned (.int .i64 50) ∧ Inv w [] w' := by
  have hI1 := Inv.startS h0_ hd.pw
  refine enter (n := 76) Try.func30 rfl rfl rfl ?_
  intro ac1 hf1
  refine code_seq ?_
  refine seq_start (l := [0]) rfl ?_
  refine seq_one (op_val (v := .int .i64 0) hf1 rfl rfl rfl rfl rfl rfl (r_assign rfl) fun ac2 hf2 => ?_)
  refine seq_end ?_
  clear ac1 hf1
  refine then_normal ?_
  refine code_seq ?_
  refine code_seq ?_
  refine seq_start (l := [0, 1, 2, 3, 4, 5, 6, 7, 8]) rfl ?_
  refine seq_one (op_val (v := .pointer (some ⟨cb, 0, none⟩)) hf2 rfl rfl rfl rfl rfl rfl (r_move rfl) fun ac3 hf3 => ?_)
  refine seq_one (op_val (v := .bool false) hf3 rfl rfl rfl rfl rfl rfl (r_eqNil up_41 rfl rfl rfl) fun ac4 hf4 => ?_)
  refine seq_one (op_val (v := .bool false) hf4 rfl rfl rfl rfl rfl rfl (r_move rfl) fun ac5 hf5 => ?_)
  refine seq_one (op_val (v := .pointer (some ⟨cb, 0, none⟩)) hf5 rfl rfl rfl rfl rfl rfl (r_move rfl) fun ac6 hf6 => ?_)
  refine seq_one (op_val (v := .pointer (some ⟨cb, 0, none⟩)) hf6 rfl rfl rfl rfl rfl rfl (r_nilCheck rfl) fun ac7 hf7 => ?_)
  refine seq_one (op_val (v := .pointer (some ⟨cb, 0, none⟩)) hf7 rfl rfl rfl rfl rfl rfl (r_fieldAddr fi_79_0 rfl rfl) fun ac8 hf8 => ?_)
  refine seq_one (op_val (v := .slice (some ⟨lb, 0, none⟩) (N + K) (N + K)) hf8 rfl rfl rfl rfl rfl rfl (r_load ag_77 rfl (hI1.at 3 rfl) rfl) fun ac9 hf9 => ?_)
  refine seq_one (op_val (v := .bool false) hf9 rfl rfl rfl rfl rfl rfl (r_eqSl us_77 rfl rfl rfl) fun ac10 hf10 => ?_)
  refine seq_one (op_val (v := .bool false) hf10 rfl rfl rfl rfl rfl rfl (r_pickF rfl rfl) fun ac11 hf11 => ?_)
  refine seq_end ?_
  clear ac2 hf2 ac3 hf3 ac4 hf4 ac5 hf5 ac6 hf6 ac7 hf7 ac8 hf8 ac9 hf9 ac10 hf10
  refine then_normal ?_
  refine code_if_false hf11 rfl ?_
  refine wp_skip ?_
  refine then_normal ?_
  refine code_seq ?_
  refine seq_start (l := [0, 1, 2, 3, 4, 5, 6, 7]) rfl ?_
  refine seq_one (op_val (v := .pointer (some ⟨cb, 0, none⟩)) hf11 rfl rfl rfl rfl rfl rfl (r_move rfl) fun ac12 hf12 => ?_)
  refine seq_one (op_val (v := .int .i64 (k : Int)) hf12 rfl rfl rfl rfl rfl rfl (r_move rfl) fun ac13 hf13 => ?_)
  refine seq_one (op_pureW hf13 rfl rfl rfl rfl ca_56 (ring_in (hI1.nd 0 rfl rfl rfl rfl) c (Has.cons (hI1.at 0 rfl) (Has.cons (hI1.at 1 rfl) (Has.cons (hI1.at 2 rfl) (Has.cons (hI1.at 3 rfl) Has.nil)))) hk) hI1 fun ac14 wd1 hI2 hf14 => ?_)
  refine seq_one (op_val (v := .tuple #[.int .i64 ((N + k : Nat) : Int), .bool true]) hf14 rfl rfl rfl rfl rfl rfl (r_move rfl) fun ac15 hf15 => ?_)
  refine seq_one (op_val (v := .int .i64 ((N + k : Nat) : Int)) hf15 rfl rfl rfl rfl rfl rfl (r_extract rfl rfl) fun ac16 hf16 => ?_)
  refine seq_one (op_val (v := .bool true) hf16 rfl rfl rfl rfl rfl rfl (r_extract rfl rfl) fun ac17 hf17 => ?_)
  refine seq_one (op_val (v := .int .i64 ((N + k : Nat) : Int)) hf17 rfl rfl rfl rfl rfl rfl (r_assign rfl) fun ac18 hf18 => ?_)
  refine seq_one (op_val (v := .bool true) hf18 rfl rfl rfl rfl rfl rfl (r_assign rfl) fun ac19 hf19 => ?_)
  refine seq_end ?_
  clear ac11 hf11 ac12 hf12 ac13 hI1 hf13 ac14 hf14 ac15 hf15 ac16 hf16 ac17 hf17 ac18 hf18
  refine then_normal ?_
  refine code_seq ?_
  refine wp_block ?_
  refine code_seq ?_
  refine seq_start (l := [0, 1, 2, 3, 4, 5, 6, 7, 8]) rfl ?_
  refine seq_one (op_val (v := .bool true) hf19 rfl rfl rfl rfl rfl rfl (r_move rfl) fun ac20 hf20 => ?_)
  refine seq_one (op_val (v := .bool false) hf20 rfl rfl rfl rfl rfl rfl ((r_not (b := true) rfl).trans rfl) fun ac21 hf21 => ?_)
  refine seq_one (op_val (v := .bool false) hf21 rfl rfl rfl rfl rfl rfl (r_move rfl) fun ac22 hf22 => ?_)
  refine seq_one (op_val (v := .pointer (some ⟨cb, 0, none⟩)) hf22 rfl rfl rfl rfl rfl rfl (r_move rfl) fun ac23 hf23 => ?_)
  refine seq_one (op_val (v := .int .i64 (n : Int)) hf23 rfl rfl rfl rfl rfl rfl (r_move rfl) fun ac24 hf24 => ?_)
  refine seq_one (op_pureW hf24 rfl rfl rfl rfl ca_57 (node_any (hI2.nd 0 rfl rfl rfl rfl) c (Has.cons (hI2.at 0 rfl) (Has.cons (hI2.at 1 rfl) (Has.cons (hI2.at 2 rfl) (Has.cons (hI2.at 3 rfl) Has.nil))))) hI2 fun ac25 wd2 hI3 hf25 => ?_)
  refine seq_one (op_val (v := .bool (!(decide (0 ≤ (n : Int) ∧ (n : Int) < (N : Int))))) hf25 rfl rfl rfl rfl rfl rfl (r_not rfl) fun ac26 hf26 => ?_)
  refine seq_one (op_val (v := .bool (!(decide (0 ≤ (n : Int) ∧ (n : Int) < (N : Int))))) hf26 rfl rfl rfl rfl rfl rfl (r_pickF rfl rfl) fun ac27 hf27 => ?_)
  refine seq_one (op_val (v := .bool (!(decide (0 ≤ (n : Int) ∧ (n : Int) < (N : Int))))) hf27 rfl rfl rfl rfl rfl rfl (r_assign rfl) fun ac28 hf28 => ?_)
  refine seq_end ?_
  clear ac19 hf19 ac20 hf20 ac21 hf21 ac22 hf22 ac23 hf23 ac24 wd1 hI2 hf24 ac25 hf25 ac26 hf26 ac27 hf27
  refine then_normal ?_
  have hf29 := hf28.know 25 (u := .bool false) rfl (congrArg Value.bool (by rw [decide_eq_true (p := 0 ≤ (n : Int) ∧ (n : Int) < (N : Int)) (by omega)]; rfl))
  refine code_if_false hf29 rfl ?_
  refine code_seq ?_
  refine seq_start (l := [0, 1, 2, 3, 4, 5, 6, 7, 8]) rfl ?_
  refine seq_one (op_val (v := .pointer (some ⟨cb, 0, none⟩)) hf29 rfl rfl rfl rfl rfl rfl (r_move rfl) fun ac29 hf30 => ?_)
  refine seq_one (op_val (v := .pointer (some ⟨cb, 0, none⟩)) hf30 rfl rfl rfl rfl rfl rfl (r_nilCheck rfl) fun ac30 hf31 => ?_)
  refine seq_one (op_val (v := .pointer (some ⟨cb, 1, none⟩)) hf31 rfl rfl rfl rfl rfl rfl (r_fieldAddr fi_79_1 rfl rfl) fun ac31 hf32 => ?_)
  refine seq_one (op_val (v := .slice (some ⟨ob, 0, none⟩) N N) hf32 rfl rfl rfl rfl rfl rfl (r_load ag_27 rfl (hI3.at 3 rfl) rfl) fun ac32 hf33 => ?_)
  refine seq_one (op_val (v := .int .i64 (n : Int)) hf33 rfl rfl rfl rfl rfl rfl (r_move rfl) fun ac33 hf34 => ?_)
  refine seq_one (op_val (v := .pointer (some ⟨ob, n, none⟩)) hf34 rfl rfl rfl rfl rfl rfl (r_indexAddrS (i := n) sl_27 rfl rfl rfl hn (by rw [Nat.mul_one, Nat.zero_add])) fun ac34 hf35 => ?_)
  refine seq_one (op_val (v := .int .i64 (c.of.getD n 0)) hf35 rfl rfl rfl rfl rfl rfl (r_load ag_3 rfl (hI3.at 1 rfl) (arr_get (Nat.lt_of_lt_of_eq hn (Eq.symm c.rep.l2)))) fun ac35 hf36 => ?_)
  refine seq_one (op_val (v := .bool (decide ((c.of.getD n 0) > 0))) hf36 rfl rfl rfl rfl rfl rfl (r_gtr rfl rfl) fun ac36 hf37 => ?_)
  refine seq_one (op_val (v := .bool (decide ((c.of.getD n 0) > 0))) hf37 rfl rfl rfl rfl rfl rfl (r_assign rfl) fun ac37 hf38 => ?_)
  refine seq_end ?_
  clear hf28 ac28 hf29 ac29 hf30 ac30 hf31 ac31 hf32 ac32 hf33 ac33 hf34 ac34 hf35 ac35 hf36 ac36 hf37
  refine then_normal ?_
  have hf39 := hf38.know 34 (u := .bool true) rfl (congrArg Value.bool (decide_eq_true (by have := Ch.of_b c hn; omega)))
  refine code_if_true hf39 rfl ?_
  refine code_seq ?_
  refine seq_start (l := [0]) rfl ?_
  refine seq_one (op_val (v := .int .i64 50) hf39 rfl rfl rfl rfl rfl rfl (r_assign rfl) fun ac38 hf40 => ?_)
  refine seq_end ?_
  clear hf38 ac37 hf39
  refine then_normal ?_
  refine wp_ret ?_
  refine block_ret ?_
  refine then_ret ?_
  exact post1 rfl hf40 rfl ⟨rfl, hI3.unread h0_⟩
set_option maxHeartbeats 8000000 in
theorem push_node {N K : Nat} {lb ob mb cb : Nat} (hd : Nd lb ob mb cb) (c : Ch N K) {w : World} (h0_ : Has [(lb, arr .i64 c.lk, 103), (ob, arr .i64 c.of, 3), (mb, arr .i64 c.mn, 3), (cb, #[.slice (some ⟨lb, 0, none⟩) (N + K) (N + K), .slice (some ⟨ob, 0, none⟩) N N, .slice (some ⟨mb, 0, none⟩) K K], 79)] w) {k : Nat} {n : Int} (hk : k < K) (hn : ¬ (0 ≤ n ∧ n < (N : Int))) : Calls Try.prog 30 [.pointer (some ⟨cb, 0, none⟩), .int .i64 (k : Int), .int .i64 n].toArray w fun e w' => e = .returned (.int .i64 2) ∧ Inv w [] w' := by
  have hI1 := Inv.startS h0_ hd.pw
  refine enter (n := 76) Try.func30 rfl rfl rfl ?_
  intro ac1 hf1
  refine code_seq ?_
  refine seq_start (l := [0]) rfl ?_
  refine seq_one (op_val (v := .int .i64 0) hf1 rfl rfl rfl rfl rfl rfl (r_assign rfl) fun ac2 hf2 => ?_)
  refine seq_end ?_
  clear ac1 hf1
  refine then_normal ?_
  refine code_seq ?_
  refine code_seq ?_
  refine seq_start (l := [0, 1, 2, 3, 4, 5, 6, 7, 8]) rfl ?_
  refine seq_one (op_val (v := .pointer (some ⟨cb, 0, none⟩)) hf2 rfl rfl rfl rfl rfl rfl (r_move rfl) fun ac3 hf3 => ?_)
  refine seq_one (op_val (v := .bool false) hf3 rfl rfl rfl rfl rfl rfl (r_eqNil up_41 rfl rfl rfl) fun ac4 hf4 => ?_)
  refine seq_one (op_val (v := .bool false) hf4 rfl rfl rfl rfl rfl rfl (r_move rfl) fun ac5 hf5 => ?_)
  refine seq_one (op_val (v := .pointer (some ⟨cb, 0, none⟩)) hf5 rfl rfl rfl rfl rfl rfl (r_move rfl) fun ac6 hf6 => ?_)
  refine seq_one (op_val (v := .pointer (some ⟨cb, 0, none⟩)) hf6 rfl rfl rfl rfl rfl rfl (r_nilCheck rfl) fun ac7 hf7 => ?_)
  refine seq_one (op_val (v := .pointer (some ⟨cb, 0, none⟩)) hf7 rfl rfl rfl rfl rfl rfl (r_fieldAddr fi_79_0 rfl rfl) fun ac8 hf8 => ?_)
  refine seq_one (op_val (v := .slice (some ⟨lb, 0, none⟩) (N + K) (N + K)) hf8 rfl rfl rfl rfl rfl rfl (r_load ag_77 rfl (hI1.at 3 rfl) rfl) fun ac9 hf9 => ?_)
  refine seq_one (op_val (v := .bool false) hf9 rfl rfl rfl rfl rfl rfl (r_eqSl us_77 rfl rfl rfl) fun ac10 hf10 => ?_)
  refine seq_one (op_val (v := .bool false) hf10 rfl rfl rfl rfl rfl rfl (r_pickF rfl rfl) fun ac11 hf11 => ?_)
  refine seq_end ?_
  clear ac2 hf2 ac3 hf3 ac4 hf4 ac5 hf5 ac6 hf6 ac7 hf7 ac8 hf8 ac9 hf9 ac10 hf10
  refine then_normal ?_
  refine code_if_false hf11 rfl ?_
  refine wp_skip ?_
  refine then_normal ?_
  refine code_seq ?_
  refine seq_start (l := [0, 1, 2, 3, 4, 5, 6, 7]) rfl ?_
  refine seq_one (op_val (v := .pointer (some ⟨cb, 0, none⟩)) hf11 rfl rfl rfl rfl rfl rfl (r_move rfl) fun ac12 hf12 => ?_)
  refine seq_one (op_val (v := .int .i64 (k : Int)) hf12 rfl rfl rfl rfl rfl rfl (r_move rfl) fun ac13 hf13 => ?_)
  refine seq_one (op_pureW hf13 rfl rfl rfl rfl ca_56 (ring_in (hI1.nd 0 rfl rfl rfl rfl) c (Has.cons (hI1.at 0 rfl) (Has.cons (hI1.at 1 rfl) (Has.cons (hI1.at 2 rfl) (Has.cons (hI1.at 3 rfl) Has.nil)))) hk) hI1 fun ac14 wd1 hI2 hf14 => ?_)
  refine seq_one (op_val (v := .tuple #[.int .i64 ((N + k : Nat) : Int), .bool true]) hf14 rfl rfl rfl rfl rfl rfl (r_move rfl) fun ac15 hf15 => ?_)
  refine seq_one (op_val (v := .int .i64 ((N + k : Nat) : Int)) hf15 rfl rfl rfl rfl rfl rfl (r_extract rfl rfl) fun ac16 hf16 => ?_)
  refine seq_one (op_val (v := .bool true) hf16 rfl rfl rfl rfl rfl rfl (r_extract rfl rfl) fun ac17 hf17 => ?_)
  refine seq_one (op_val (v := .int .i64 ((N + k : Nat) : Int)) hf17 rfl rfl rfl rfl rfl rfl (r_assign rfl) fun ac18 hf18 => ?_)
  refine seq_one (op_val (v := .bool true) hf18 rfl rfl rfl rfl rfl rfl (r_assign rfl) fun ac19 hf19 => ?_)
  refine seq_end ?_
  clear ac11 hf11 ac12 hf12 ac13 hI1 hf13 ac14 hf14 ac15 hf15 ac16 hf16 ac17 hf17 ac18 hf18
  refine then_normal ?_
  refine code_seq ?_
  refine wp_block ?_
  refine code_seq ?_
  refine seq_start (l := [0, 1, 2, 3, 4, 5, 6, 7, 8]) rfl ?_
  refine seq_one (op_val (v := .bool true) hf19 rfl rfl rfl rfl rfl rfl (r_move rfl) fun ac20 hf20 => ?_)
  refine seq_one (op_val (v := .bool false) hf20 rfl rfl rfl rfl rfl rfl ((r_not (b := true) rfl).trans rfl) fun ac21 hf21 => ?_)
  refine seq_one (op_val (v := .bool false) hf21 rfl rfl rfl rfl rfl rfl (r_move rfl) fun ac22 hf22 => ?_)
  refine seq_one (op_val (v := .pointer (some ⟨cb, 0, none⟩)) hf22 rfl rfl rfl rfl rfl rfl (r_move rfl) fun ac23 hf23 => ?_)
  refine seq_one (op_val (v := .int .i64 n) hf23 rfl rfl rfl rfl rfl rfl (r_move rfl) fun ac24 hf24 => ?_)
  refine seq_one (op_pureW hf24 rfl rfl rfl rfl ca_57 (node_any (hI2.nd 0 rfl rfl rfl rfl) c (Has.cons (hI2.at 0 rfl) (Has.cons (hI2.at 1 rfl) (Has.cons (hI2.at 2 rfl) (Has.cons (hI2.at 3 rfl) Has.nil))))) hI2 fun ac25 wd2 hI3 hf25 => ?_)
  refine seq_one (op_val (v := .bool (!(decide (0 ≤ n ∧ n < (N : Int))))) hf25 rfl rfl rfl rfl rfl rfl (r_not rfl) fun ac26 hf26 => ?_)
  refine seq_one (op_val (v := .bool (!(decide (0 ≤ n ∧ n < (N : Int))))) hf26 rfl rfl rfl rfl rfl rfl (r_pickF rfl rfl) fun ac27 hf27 => ?_)
  refine seq_one (op_val (v := .bool (!(decide (0 ≤ n ∧ n < (N : Int))))) hf27 rfl rfl rfl rfl rfl rfl (r_assign rfl) fun ac28 hf28 => ?_)
  refine seq_end ?_
  clear ac19 hf19 ac20 hf20 ac21 hf21 ac22 hf22 ac23 hf23 ac24 wd1 hI2 hf24 ac25 hf25 ac26 hf26 ac27 hf27
  refine then_normal ?_
  have hf29 := hf28.know 25 (u := .bool true) rfl (congrArg Value.bool (by rw [decide_eq_false hn]; rfl))
  refine code_if_true hf29 rfl ?_
  refine code_seq ?_
  refine seq_start (l := [0]) rfl ?_
  refine seq_one (op_val (v := .int .i64 2) hf29 rfl rfl rfl rfl rfl rfl (r_assign rfl) fun ac29 hf30 => ?_)
  refine seq_end ?_
  clear hf28 ac28 hf29
  refine then_normal ?_
  refine wp_ret ?_
  refine block_ret ?_
  refine then_ret ?_
  exact post1 rfl hf30 rfl ⟨rfl, hI3.unread h0_⟩
set_option maxHeartbeats 8000000 in
theorem push_list {N K : Nat} {lb ob mb cb : Nat} (hd : Nd lb ob mb cb) (c : Ch N K) {w : World} (h0_ : Has [(lb, arr .i64 c.lk, 103), (ob, arr .i64 c.of, 3), (mb, arr .i64 c.mn, 3), (cb, #[.slice (some ⟨lb, 0, none⟩) (N + K) (N + K), .slice (some ⟨ob, 0, none⟩) N N, .slice (some ⟨mb, 0, none⟩) K K], 79)] w) {l n : Int} (hl : ¬ (0 ≤ l ∧ l < (K : Int))) : Calls Try.prog 30 [.pointer (some ⟨cb, 0, none⟩), .int .i64 l, .int .i64 n].toArray w fun e w' => e = .returned (.int .i64 2) ∧ Inv w [] w' := by
  have hI1 := Inv.startS h0_ hd.pw
  refine enter (n := 76) Try.func30 rfl rfl rfl ?_
  intro ac1 hf1
  refine code_seq ?_
  refine seq_start (l := [0]) rfl ?_
  refine seq_one (op_val (v := .int .i64 0) hf1 rfl rfl rfl rfl rfl rfl (r_assign rfl) fun ac2 hf2 => ?_)
  refine seq_end ?_
  clear ac1 hf1
  refine then_normal ?_
  refine code_seq ?_
  refine code_seq ?_
  refine seq_start (l := [0, 1, 2, 3, 4, 5, 6, 7, 8]) rfl ?_
  refine seq_one (op_val (v := .pointer (some ⟨cb, 0, none⟩)) hf2 rfl rfl rfl rfl rfl rfl (r_move rfl) fun ac3 hf3 => ?_)
  refine seq_one (op_val (v := .bool false) hf3 rfl rfl rfl rfl rfl rfl (r_eqNil up_41 rfl rfl rfl) fun ac4 hf4 => ?_)
  refine seq_one (op_val (v := .bool false) hf4 rfl rfl rfl rfl rfl rfl (r_move rfl) fun ac5 hf5 => ?_)
  refine seq_one (op_val (v := .pointer (some ⟨cb, 0, none⟩)) hf5 rfl rfl rfl rfl rfl rfl (r_move rfl) fun ac6 hf6 => ?_)
  refine seq_one (op_val (v := .pointer (some ⟨cb, 0, none⟩)) hf6 rfl rfl rfl rfl rfl rfl (r_nilCheck rfl) fun ac7 hf7 => ?_)
  refine seq_one (op_val (v := .pointer (some ⟨cb, 0, none⟩)) hf7 rfl rfl rfl rfl rfl rfl (r_fieldAddr fi_79_0 rfl rfl) fun ac8 hf8 => ?_)
  refine seq_one (op_val (v := .slice (some ⟨lb, 0, none⟩) (N + K) (N + K)) hf8 rfl rfl rfl rfl rfl rfl (r_load ag_77 rfl (hI1.at 3 rfl) rfl) fun ac9 hf9 => ?_)
  refine seq_one (op_val (v := .bool false) hf9 rfl rfl rfl rfl rfl rfl (r_eqSl us_77 rfl rfl rfl) fun ac10 hf10 => ?_)
  refine seq_one (op_val (v := .bool false) hf10 rfl rfl rfl rfl rfl rfl (r_pickF rfl rfl) fun ac11 hf11 => ?_)
  refine seq_end ?_
  clear ac2 hf2 ac3 hf3 ac4 hf4 ac5 hf5 ac6 hf6 ac7 hf7 ac8 hf8 ac9 hf9 ac10 hf10
  refine then_normal ?_
  refine code_if_false hf11 rfl ?_
  refine wp_skip ?_
  refine then_normal ?_
  refine code_seq ?_
  refine seq_start (l := [0, 1, 2, 3, 4, 5, 6, 7]) rfl ?_
  refine seq_one (op_val (v := .pointer (some ⟨cb, 0, none⟩)) hf11 rfl rfl rfl rfl rfl rfl (r_move rfl) fun ac12 hf12 => ?_)
  refine seq_one (op_val (v := .int .i64 l) hf12 rfl rfl rfl rfl rfl rfl (r_move rfl) fun ac13 hf13 => ?_)
  refine seq_one (op_pureW hf13 rfl rfl rfl rfl ca_56 (ring_out (hI1.nd 0 rfl rfl rfl rfl) c (Has.cons (hI1.at 0 rfl) (Has.cons (hI1.at 1 rfl) (Has.cons (hI1.at 2 rfl) (Has.cons (hI1.at 3 rfl) Has.nil)))) hl) hI1 fun ac14 wd1 hI2 hf14 => ?_)
  refine seq_one (op_val (v := .tuple #[.int .i64 0, .bool false]) hf14 rfl rfl rfl rfl rfl rfl (r_move rfl) fun ac15 hf15 => ?_)
  refine seq_one (op_val (v := .int .i64 0) hf15 rfl rfl rfl rfl rfl rfl (r_extract rfl rfl) fun ac16 hf16 => ?_)
  refine seq_one (op_val (v := .bool false) hf16 rfl rfl rfl rfl rfl rfl (r_extract rfl rfl) fun ac17 hf17 => ?_)
  refine seq_one (op_val (v := .int .i64 0) hf17 rfl rfl rfl rfl rfl rfl (r_assign rfl) fun ac18 hf18 => ?_)
  refine seq_one (op_val (v := .bool false) hf18 rfl rfl rfl rfl rfl rfl (r_assign rfl) fun ac19 hf19 => ?_)
  refine seq_end ?_
  clear ac11 hf11 ac12 hf12 ac13 hI1 hf13 ac14 hf14 ac15 hf15 ac16 hf16 ac17 hf17 ac18 hf18
  refine then_normal ?_
  refine code_seq ?_
  refine wp_block ?_
  refine code_seq ?_
  refine seq_start (l := [0, 1, 2, 3, 4, 5, 6, 7, 8]) rfl ?_
  refine seq_one (op_val (v := .bool false) hf19 rfl rfl rfl rfl rfl rfl (r_move rfl) fun ac20 hf20 => ?_)
  refine seq_one (op_val (v := .bool true) hf20 rfl rfl rfl rfl rfl rfl ((r_not (b := false) rfl).trans rfl) fun ac21 hf21 => ?_)
  refine seq_one (op_val (v := .bool true) hf21 rfl rfl rfl rfl rfl rfl (r_move rfl) fun ac22 hf22 => ?_)
  refine seq_one (op_skip hf22 rfl rfl rfl rfl fun ac23 hf23 => ?_)
  refine seq_one (op_skip hf23 rfl rfl rfl rfl fun ac24 hf24 => ?_)
  refine seq_one (op_skip hf24 rfl rfl rfl rfl fun ac25 hf25 => ?_)
  refine seq_one (op_skip hf25 rfl rfl rfl rfl fun ac26 hf26 => ?_)
  refine seq_one (op_val (v := .bool true) hf26 rfl rfl rfl rfl rfl rfl (r_pickT rfl rfl) fun ac27 hf27 => ?_)
  refine seq_one (op_val (v := .bool true) hf27 rfl rfl rfl rfl rfl rfl (r_assign rfl) fun ac28 hf28 => ?_)
  refine seq_end ?_
  clear ac19 hf19 ac20 hf20 ac21 hf21 ac22 hf22 ac23 hf23 ac24 hf24 ac25 hf25 ac26 hf26 ac27 hf27
  refine then_normal ?_
  refine code_if_true hf28 rfl ?_
  refine code_seq ?_
  refine seq_start (l := [0]) rfl ?_
  refine seq_one (op_val (v := .int .i64 2) hf28 rfl rfl rfl rfl rfl rfl (r_assign rfl) fun ac29 hf29 => ?_)
  refine seq_end ?_
  clear ac28 hf28
  refine then_normal ?_
  refine wp_ret ?_
  refine block_ret ?_
  refine then_ret ?_
  exact post1 rfl hf29 rfl ⟨rfl, hI2.unread h0_⟩
theorem push_any {N K : Nat} {lb ob mb cb : Nat} (hd : Nd lb ob mb cb) (c : Ch N K) {w : World} (h0_ : Has [(lb, arr .i64 c.lk, 103), (ob, arr .i64 c.of, 3), (mb, arr .i64 c.mn, 3), (cb, #[.slice (some ⟨lb, 0, none⟩) (N + K) (N + K), .slice (some ⟨ob, 0, none⟩) N N, .slice (some ⟨mb, 0, none⟩) K K], 79)] w) (l n : Int) : Calls Try.prog 30 [.pointer (some ⟨cb, 0, none⟩), .int .i64 l, .int .i64 n].toArray w fun e w' => e = .returned (.int .i64 (c.pushE l n)) ∧ Inv w [(lb, arr .i64 (c.push l n).lk, 103), (ob, arr .i64 (c.push l n).of, 3), (mb, arr .i64 (c.push l n).mn, 3), (cb, #[.slice (some ⟨lb, 0, none⟩) (N + K) (N + K), .slice (some ⟨ob, 0, none⟩) N N, .slice (some ⟨mb, 0, none⟩) K K], 79)] w' := by
  have rd : ∀ {w'}, Inv w [] w' → Inv w [(lb, arr .i64 c.lk, 103), (ob, arr .i64 c.of, 3), (mb, arr .i64 c.mn, 3), (cb, #[.slice (some ⟨lb, 0, none⟩) (N + K) (N + K), .slice (some ⟨ob, 0, none⟩) N N, .slice (some ⟨mb, 0, none⟩) K K], 79)] w' := fun h => (Inv.startS h0_ hd.pw).call0 h
  by_cases hl : 0 ≤ l ∧ l < (K : Int)
  · obtain ⟨k, rfl⟩ := Int.eq_ofNat_of_zero_le hl.1
    by_cases hn : 0 ≤ n ∧ n < (N : Int)
    · obtain ⟨x, rfl⟩ := Int.eq_ofNat_of_zero_le hn.1
      by_cases h0 : c.of.getD x 0 = 0
      · refine (push_in hd c h0_ (by omega) (by omega) h0).mono fun e w' h => ⟨?_, h.2⟩
        rw [Ch.pushE_0 ⟨hl, hn, by rw [Ch.inn_n (by omega), h0]; rfl⟩]; exact h.1
      · refine (push_same hd c h0_ (by omega) (by omega) h0).mono fun e w' h => ⟨?_, ?_⟩
        · rw [Ch.pushE_50 hl hn (by rw [Ch.inn_n (by omega)]; exact bne_iff_ne.2 h0)]; exact h.1
        · rw [Ch.push_no (fun g => by have := g.2.2; rw [Ch.inn_n (by omega)] at this; exact h0 (bne_eq_false_iff_eq.1 this))]; exact rd h.2
    · refine (push_node hd c h0_ (by omega) hn).mono fun e w' h => ⟨?_, ?_⟩
      · rw [Ch.pushE_2 (fun g => hn g.2)]; exact h.1
      · rw [Ch.push_no (fun g => hn g.2.1)]; exact rd h.2
  · refine (push_list hd c h0_ hl).mono fun e w' h => ⟨?_, ?_⟩
    · rw [Ch.pushE_2 (fun g => hl g.1)]; exact h.1
    · rw [Ch.push_no (fun g => hl g.1)]; exact rd h.2
set_option maxHeartbeats 8000000 in
theorem drop_in {N K : Nat} {lb ob mb cb : Nat} (hd : Nd lb ob mb cb) (c : Ch N K) {w : World} (h0_ : Has [(lb, arr .i64 c.lk, 103), (ob, arr .i64 c.of, 3), (mb, arr .i64 c.mn, 3), (cb, #[.slice (some ⟨lb, 0, none⟩) (N + K) (N + K), .slice (some ⟨ob, 0, none⟩) N N, .slice (some ⟨mb, 0, none⟩) K K], 79)] w) {n : Nat} (hn : n < N) (h0 : c.of.getD n 0 ≠ 0) : Calls Try.prog 32 [.pointer (some ⟨cb, 0, none⟩), .int .i64 (n : Int)].toArray w fun e w' => e = .returned (.bool true) ∧ Inv w [(lb, arr .i64 (c.drop (n : Int)).lk, 103), (ob, arr .i64 (c.drop (n : Int)).of, 3), (mb, arr .i64 (c.drop (n : Int)).mn, 3), (cb, #[.slice (some ⟨lb, 0, none⟩) (N + K) (N + K), .slice (some ⟨ob, 0, none⟩) N N, .slice (some ⟨mb, 0, none⟩) K K], 79)] w' := by
  have hI1 := Inv.startS h0_ hd.pw
  have hN := c.hN
  have hK := c.hK
  have hi : c.inn (n : Int) = true := by rw [Ch.inn_n hn]; exact bne_iff_ne.2 h0
  obtain ⟨hk, hx⟩ := Ch.drop_k hi
  rw [Int.toNat_natCast] at hx
  have hat : c.atV (n : Int) = ((c.atV (n : Int)).toNat : Int) := by have := (Ch.mem_in (Ch.in_mem hi)).2.2.1; omega
  obtain ⟨_, _, _, _, p, q, _, _, _, hp, hq, hpl, hql, _, _⟩ := c.rep.mid hk hx
  have hp' : c.lk.getD (2 * n) 0 = ((pv c.lk n).toNat : Int) := by rw [show c.lk.getD (2 * n) 0 = pv c.lk n from rfl, hp]; rfl
  have hq' : c.lk.getD (2 * n + 1) 0 = ((nx c.lk n).toNat : Int) := by rw [show c.lk.getD (2 * n + 1) 0 = nx c.lk n from rfl, hq]; rfl
  have hpl' : (pv c.lk n).toNat < N + K := by rw [hp, Int.toNat_natCast]; exact hpl
  have hql' : (nx c.lk n).toNat < N + K := by rw [hq, Int.toNat_natCast]; exact hql
  refine enter (n := 57) Try.func32 rfl rfl rfl ?_
  intro ac1 hf1
  refine code_seq ?_
  refine seq_start (l := [0]) rfl ?_
  refine seq_one (op_val (v := .bool false) hf1 rfl rfl rfl rfl rfl rfl (r_assign rfl) fun ac2 hf2 => ?_)
  refine seq_end ?_
  clear ac1 hf1
  refine then_normal ?_
  refine code_seq ?_
  refine seq_start (l := [0, 1, 2, 3, 4, 5, 6, 7]) rfl ?_
  refine seq_one (op_val (v := .pointer (some ⟨cb, 0, none⟩)) hf2 rfl rfl rfl rfl rfl rfl (r_move rfl) fun ac3 hf3 => ?_)
  refine seq_one (op_val (v := .int .i64 (n : Int)) hf3 rfl rfl rfl rfl rfl rfl (r_move rfl) fun ac4 hf4 => ?_)
  refine seq_one (op_pureW hf4 rfl rfl rfl rfl ca_29 (in_any (hI1.nd 0 rfl rfl rfl rfl) c (Has.cons (hI1.at 0 rfl) (Has.cons (hI1.at 1 rfl) (Has.cons (hI1.at 2 rfl) (Has.cons (hI1.at 3 rfl) Has.nil)))) (n : Int)) hI1 fun ac5 wd1 hI2 hf5 => ?_)
  refine seq_one (op_val (v := .tuple #[.int .i64 (c.atV (n : Int)), .bool (c.inn (n : Int))]) hf5 rfl rfl rfl rfl rfl rfl (r_move rfl) fun ac6 hf6 => ?_)
  refine seq_one (op_val (v := .int .i64 (c.atV (n : Int))) hf6 rfl rfl rfl rfl rfl rfl (r_extract rfl rfl) fun ac7 hf7 => ?_)
  refine seq_one (op_val (v := .bool (c.inn (n : Int))) hf7 rfl rfl rfl rfl rfl rfl (r_extract rfl rfl) fun ac8 hf8 => ?_)
  refine seq_one (op_val (v := .int .i64 (c.atV (n : Int))) hf8 rfl rfl rfl rfl rfl rfl (r_assign rfl) fun ac9 hf9 => ?_)
  refine seq_one (op_val (v := .bool (c.inn (n : Int))) hf9 rfl rfl rfl rfl rfl rfl (r_assign rfl) fun ac10 hf10 => ?_)
  refine seq_end ?_
  clear ac2 hf2 ac3 hf3 ac4 hI1 hf4 ac5 hf5 ac6 hf6 ac7 hf7 ac8 hf8 ac9 hf9
  refine then_normal ?_
  refine code_seq ?_
  refine code_seq ?_
  refine seq_start (l := [0, 1]) rfl ?_
  refine seq_one (op_val (v := .bool (c.inn (n : Int))) hf10 rfl rfl rfl rfl rfl rfl (r_move rfl) fun ac11 hf11 => ?_)
  refine seq_one (op_val (v := .bool (!(c.inn (n : Int)))) hf11 rfl rfl rfl rfl rfl rfl (r_not rfl) fun ac12 hf12 => ?_)
  refine seq_end ?_
  clear ac10 hf10 ac11 hf11
  refine then_normal ?_
  have hf13 := hf12.know 14 (u := .bool false) rfl (congrArg Value.bool (by rw [Ch.inn_n hn, bne_iff_ne.2 h0]; rfl))
  refine code_if_false hf13 rfl ?_
  refine wp_skip ?_
  refine then_normal ?_
  refine code_seq ?_
  refine any_start (fun w => Has [(cb, #[.slice (some ⟨lb, 0, none⟩) (N + K) (N + K), .slice (some ⟨ob, 0, none⟩) N N, .slice (some ⟨mb, 0, none⟩) K K], 79)] w) follows (Has.drew (Has.cons (hI2.at 3 rfl) Has.nil)) ?_
  have hS1 : Has [(cb, #[.slice (some ⟨lb, 0, none⟩) (N + K) (N + K), .slice (some ⟨ob, 0, none⟩) N N, .slice (some ⟨mb, 0, none⟩) K K], 79)] _ := Has.drew (Has.cons (hI2.at 3 rfl) Has.nil)
  have hI3 := hI2.drew
  refine any_val (i := 0) (v := .pointer (some ⟨cb, 0, none⟩)) hf13 rfl rfl rfl rfl rfl rfl (fun _ _ _ h => h) (by kernel_rfl) (by kernel_rfl) (by kernel_rfl) (fun wd1 hS1 => (r_move rfl)) hS1 fun ac13 hf14 => ?_
  refine any_val (i := 1) (v := .pointer (some ⟨cb, 0, none⟩)) hf14 rfl rfl rfl rfl rfl rfl (fun _ _ _ h => h) (by kernel_rfl) (by kernel_rfl) (by kernel_rfl) (fun wd1 hS1 => (r_move rfl)) hS1 fun ac14 hf15 => ?_
  refine any_val (i := 2) (v := .pointer (some ⟨cb, 0, none⟩)) hf15 rfl rfl rfl rfl rfl rfl (fun _ _ _ h => h) (by kernel_rfl) (by kernel_rfl) (by kernel_rfl) (fun wd1 hS1 => (r_nilCheck rfl)) hS1 fun ac15 hf16 => ?_
  refine any_val (i := 3) (v := .pointer (some ⟨cb, 0, none⟩)) hf16 rfl rfl rfl rfl rfl rfl (fun _ _ _ h => h) (by kernel_rfl) (by kernel_rfl) (by kernel_rfl) (fun wd1 hS1 => (r_fieldAddr fi_79_0 rfl rfl)) hS1 fun ac16 hf17 => ?_
  refine any_val (i := 4) (v := .slice (some ⟨lb, 0, none⟩) (N + K) (N + K)) hf17 rfl rfl rfl rfl rfl rfl (fun _ _ _ h => h) (by kernel_rfl) (by kernel_rfl) (by kernel_rfl) (fun wd1 hS1 => (r_load ag_77 rfl (hS1.at 0 rfl) rfl)) hS1 fun ac17 hf18 => ?_
  refine any_val (i := 5) (v := .int .i64 (n : Int)) hf18 rfl rfl rfl rfl rfl rfl (fun _ _ _ h => h) (by kernel_rfl) (by kernel_rfl) (by kernel_rfl) (fun wd1 hS1 => (r_move rfl)) hS1 fun ac18 hf19 => ?_
  refine any_val (i := 6) (v := .pointer (some ⟨lb, 2 * n, none⟩)) hf19 rfl rfl rfl rfl rfl rfl (fun _ _ _ h => h) (by kernel_rfl) (by kernel_rfl) (by kernel_rfl) (fun wd1 hS1 => (r_indexAddrS (i := n) sl_77 rfl rfl rfl (by omega) (by rw [Nat.zero_add, Nat.mul_comm]))) hS1 fun ac19 hf20 => ?_
  refine any_val (i := 7) (v := .pointer (some ⟨lb, 2 * n, none⟩)) hf20 rfl rfl rfl rfl rfl rfl (fun _ _ _ h => h) (by kernel_rfl) (by kernel_rfl) (by kernel_rfl) (fun wd1 hS1 => (r_indexAddr (i := 0) ar_103 rfl rfl rfl (by decide) rfl)) hS1 fun ac20 hf21 => ?_
  refine any_val (i := 9) (v := .pointer (some ⟨cb, 0, none⟩)) hf21 rfl rfl rfl rfl rfl rfl (fun _ _ _ h => h) (by kernel_rfl) (by kernel_rfl) (by kernel_rfl) (fun wd1 hS1 => (r_move rfl)) hS1 fun ac21 hf22 => ?_
  refine any_val (i := 10) (v := .pointer (some ⟨cb, 0, none⟩)) hf22 rfl rfl rfl rfl rfl rfl (fun _ _ _ h => h) (by kernel_rfl) (by kernel_rfl) (by kernel_rfl) (fun wd1 hS1 => (r_nilCheck rfl)) hS1 fun ac22 hf23 => ?_
  refine any_val (i := 11) (v := .pointer (some ⟨cb, 0, none⟩)) hf23 rfl rfl rfl rfl rfl rfl (fun _ _ _ h => h) (by kernel_rfl) (by kernel_rfl) (by kernel_rfl) (fun wd1 hS1 => (r_fieldAddr fi_79_0 rfl rfl)) hS1 fun ac23 hf24 => ?_
  refine any_val (i := 12) (v := .slice (some ⟨lb, 0, none⟩) (N + K) (N + K)) hf24 rfl rfl rfl rfl rfl rfl (fun _ _ _ h => h) (by kernel_rfl) (by kernel_rfl) (by kernel_rfl) (fun wd1 hS1 => (r_load ag_77 rfl (hS1.at 0 rfl) rfl)) hS1 fun ac24 hf25 => ?_
  refine any_val (i := 13) (v := .int .i64 (n : Int)) hf25 rfl rfl rfl rfl rfl rfl (fun _ _ _ h => h) (by kernel_rfl) (by kernel_rfl) (by kernel_rfl) (fun wd1 hS1 => (r_move rfl)) hS1 fun ac25 hf26 => ?_
  refine any_val (i := 14) (v := .pointer (some ⟨lb, 2 * n, none⟩)) hf26 rfl rfl rfl rfl rfl rfl (fun _ _ _ h => h) (by kernel_rfl) (by kernel_rfl) (by kernel_rfl) (fun wd1 hS1 => (r_indexAddrS (i := n) sl_77 rfl rfl rfl (by omega) (by rw [Nat.zero_add, Nat.mul_comm]))) hS1 fun ac26 hf27 => ?_
  refine any_val (i := 15) (v := .pointer (some ⟨lb, 2 * n + 1, none⟩)) hf27 rfl rfl rfl rfl rfl rfl (fun _ _ _ h => h) (by kernel_rfl) (by kernel_rfl) (by kernel_rfl) (fun wd1 hS1 => (r_indexAddr (i := 1) ar_103 rfl rfl rfl (by decide) rfl)) hS1 fun ac27 hf28 => ?_
  refine any_two (i := 8) (j := 16) (by kernel_rfl) ?_ ?_
  ·
    refine op_val (v := .int .i64 (c.lk.getD (2 * n) 0)) hf28 rfl rfl rfl rfl rfl rfl (r_load ag_3 rfl (hI3.at 0 rfl) (arr_get (Nat.lt_of_lt_of_eq (by have := (show n < (N + K) from (by omega)); omega) (Eq.symm c.rep.l1)))) fun ac28 hf29 => ⟨?_, ?_⟩
    · exact (Has.cons (hI3.at 3 rfl) Has.nil)
    have hS2 : Has [(cb, #[.slice (some ⟨lb, 0, none⟩) (N + K) (N + K), .slice (some ⟨ob, 0, none⟩) N N, .slice (some ⟨mb, 0, none⟩) K K], 79)] _ := (Has.cons (hI3.at 3 rfl) Has.nil)
    refine any_one (i := 16) (by kernel_rfl) ?_
    refine op_val (v := .int .i64 (c.lk.getD (2 * n + 1) 0)) hf29 rfl rfl rfl rfl rfl rfl (r_load ag_3 rfl (hI3.at 0 rfl) (arr_get (Nat.lt_of_lt_of_eq (by have := (show n < (N + K) from (by omega)); omega) (Eq.symm c.rep.l1)))) fun ac29 hf30 => ⟨?_, ?_⟩
    · exact (Has.cons (hI3.at 3 rfl) Has.nil)
    have hS3 : Has [(cb, #[.slice (some ⟨lb, 0, none⟩) (N + K) (N + K), .slice (some ⟨ob, 0, none⟩) N N, .slice (some ⟨mb, 0, none⟩) K K], 79)] _ := (Has.cons (hI3.at 3 rfl) Has.nil)
    refine any_one (i := 17) (by kernel_rfl) ?_
    refine (op_call (R := fun v w' => v = .tuple #[] ∧ Inv _ [(lb, arr .i64 (jn c.lk ((pv c.lk n).toNat) ((nx c.lk n).toNat)), 103), (ob, arr .i64 c.of, 3), (mb, arr .i64 c.mn, 3), (cb, #[.slice (some ⟨lb, 0, none⟩) (N + K) (N + K), .slice (some ⟨ob, 0, none⟩) N N, .slice (some ⟨mb, 0, none⟩) K K], 79)] w') hf30 rfl rfl rfl rfl ca_58 ((join_walk (a := (pv c.lk n).toNat) (b := (nx c.lk n).toNat) (hI3.nd 0 rfl rfl rfl rfl) c.rep.l1 c.rep.l2 c.rep.l3 hp' hq' hpl' hql' (Has.cons (hI3.at 0 rfl) (Has.cons (hI3.at 1 rfl) (Has.cons (hI3.at 2 rfl) (Has.cons (hI3.at 3 rfl) Has.nil))))).mono fun _ _ h => ⟨_, h.1, rfl, h.2⟩) fun ac30 v wd2 hR1 hf31 => ?_)
    obtain ⟨rfl, hR1⟩ := hR1
    have hI4 : Inv w [(lb, arr .i64 (jn c.lk ((pv c.lk n).toNat) ((nx c.lk n).toNat)), 103), (ob, arr .i64 c.of, 3), (mb, arr .i64 c.mn, 3), (cb, #[.slice (some ⟨lb, 0, none⟩) (N + K) (N + K), .slice (some ⟨ob, 0, none⟩) N N, .slice (some ⟨mb, 0, none⟩) K K], 79)] _ := Inv.callS (A := []) (S := [(lb, arr .i64 c.lk, 103), (ob, arr .i64 c.of, 3), (mb, arr .i64 c.mn, 3), (cb, #[.slice (some ⟨lb, 0, none⟩) (N + K) (N + K), .slice (some ⟨ob, 0, none⟩) N N, .slice (some ⟨mb, 0, none⟩) K K], 79)]) (S' := [(lb, arr .i64 (jn c.lk ((pv c.lk n).toNat) ((nx c.lk n).toNat)), 103), (ob, arr .i64 c.of, 3), (mb, arr .i64 c.mn, 3), (cb, #[.slice (some ⟨lb, 0, none⟩) (N + K) (N + K), .slice (some ⟨ob, 0, none⟩) N N, .slice (some ⟨mb, 0, none⟩) K K], 79)]) (L := []) (N := []) hI3 hR1 rfl (fun _ h => by cases h)
    refine ⟨?_, ?_⟩
    · exact (Has.cons (hI4.at 3 rfl) Has.nil)
    have hS4 : Has [(cb, #[.slice (some ⟨lb, 0, none⟩) (N + K) (N + K), .slice (some ⟨ob, 0, none⟩) N N, .slice (some ⟨mb, 0, none⟩) K K], 79)] _ := (Has.cons (hI4.at 3 rfl) Has.nil)
    refine any_end (by kernel_rfl) ?_
    clear hf12 hI2 ac12 hf13 ac13 hf14 ac14 hf15 ac15 hf16 ac16 hf17 ac17 hf18 ac18 hf19 ac19 hf20 ac20 hf21 ac21 hf22 ac22 hf23 ac23 hf24 ac24 hf25 ac25 hf26 ac26 hf27 ac27 hf28 hS1 ac28 hf29 hS2 ac29 wd1 hf30 hI3 hR1 hS3 hS4
    refine then_normal ?_
    refine code_seq ?_
    refine seq_start (l := [0, 1, 2, 3, 4, 5, 6, 7, 8, 9]) rfl ?_
    refine seq_one (op_val (v := .pointer (some ⟨cb, 0, none⟩)) hf31 rfl rfl rfl rfl rfl rfl (r_move rfl) fun ac31 hf32 => ?_)
    refine seq_one (op_val (v := .pointer (some ⟨cb, 0, none⟩)) hf32 rfl rfl rfl rfl rfl rfl (r_nilCheck rfl) fun ac32 hf33 => ?_)
    refine seq_one (op_val (v := .pointer (some ⟨cb, 0, none⟩)) hf33 rfl rfl rfl rfl rfl rfl (r_fieldAddr fi_79_0 rfl rfl) fun ac33 hf34 => ?_)
    refine seq_one (op_val (v := .slice (some ⟨lb, 0, none⟩) (N + K) (N + K)) hf34 rfl rfl rfl rfl rfl rfl (r_load ag_77 rfl (hI4.at 3 rfl) rfl) fun ac34 hf35 => ?_)
    refine seq_one (op_val (v := .int .i64 (n : Int)) hf35 rfl rfl rfl rfl rfl rfl (r_move rfl) fun ac35 hf36 => ?_)
    refine seq_one (op_val (v := .int .i64 (n : Int)) hf36 rfl rfl rfl rfl rfl rfl (r_move rfl) fun ac36 hf37 => ?_)
    refine seq_one (op_val (v := .int .i64 (n : Int)) hf37 rfl rfl rfl rfl rfl rfl (r_move rfl) fun ac37 hf38 => ?_)
    refine seq_one (op_val (v := .agg #[.int .i64 (n : Int), .int .i64 (n : Int)]) hf38 rfl rfl rfl rfl rfl rfl (r_build (v := .agg #[.int .i64 (n : Int), .int .i64 (n : Int)]) rfl (fun _ => by kernel_rfl)) fun ac38 hf39 => ?_)
    refine seq_one (op_val (v := .pointer (some ⟨lb, 2 * n, none⟩)) hf39 rfl rfl rfl rfl rfl rfl (r_indexAddrS (i := n) sl_77 rfl rfl rfl (by omega) (by rw [Nat.zero_add, Nat.mul_comm])) fun ac39 hf40 => ?_)
    refine seq_one (op_storeN (cells := #[.int .i64 (n : Int), .int .i64 (n : Int)]) (cs' := arr .i64 (((jn c.lk ((pv c.lk n).toNat) ((nx c.lk n).toNat)).set (2 * n) (n : Int)).set (2 * n + 1) (n : Int))) 0 hf40 rfl rfl rfl rfl rfl sz_103 rfl rfl hI4 rfl (Nat.le_of_lt_succ (Nat.succ_lt_succ (Nat.lt_of_lt_of_eq (by have := (show n < (N + K) from (by omega)); omega) (Eq.symm (arr_size (jn_len.trans c.rep.l1)))))) spl2 fun wd3 hI5 => ?_)
    have hI6 : Inv w [(lb, arr .i64 (((jn c.lk ((pv c.lk n).toNat) ((nx c.lk n).toNat)).set (2 * n) (n : Int)).set (2 * n + 1) (n : Int)), 103), (ob, arr .i64 c.of, 3), (mb, arr .i64 c.mn, 3), (cb, #[.slice (some ⟨lb, 0, none⟩) (N + K) (N + K), .slice (some ⟨ob, 0, none⟩) N N, .slice (some ⟨mb, 0, none⟩) K K], 79)] wd3 := hI5
    refine seq_end ?_
    clear ac30 hf31 ac31 hf32 ac32 hf33 ac33 hf34 ac34 hf35 ac35 hf36 ac36 hf37 ac37 hf38 ac38 hf39 wd2 hI4 hI5
    refine then_normal ?_
    refine code_seq ?_
    refine seq_start (l := [0, 1, 2, 3, 4, 5, 6]) rfl ?_
    refine seq_one (op_val (v := .pointer (some ⟨cb, 0, none⟩)) hf40 rfl rfl rfl rfl rfl rfl (r_move rfl) fun ac40 hf41 => ?_)
    refine seq_one (op_val (v := .pointer (some ⟨cb, 0, none⟩)) hf41 rfl rfl rfl rfl rfl rfl (r_nilCheck rfl) fun ac41 hf42 => ?_)
    refine seq_one (op_val (v := .pointer (some ⟨cb, 1, none⟩)) hf42 rfl rfl rfl rfl rfl rfl (r_fieldAddr fi_79_1 rfl rfl) fun ac42 hf43 => ?_)
    refine seq_one (op_val (v := .slice (some ⟨ob, 0, none⟩) N N) hf43 rfl rfl rfl rfl rfl rfl (r_load ag_27 rfl (hI6.at 3 rfl) rfl) fun ac43 hf44 => ?_)
    refine seq_one (op_val (v := .int .i64 (n : Int)) hf44 rfl rfl rfl rfl rfl rfl (r_move rfl) fun ac44 hf45 => ?_)
    refine seq_one (op_val (v := .pointer (some ⟨ob, n, none⟩)) hf45 rfl rfl rfl rfl rfl rfl (r_indexAddrS (i := n) sl_27 rfl rfl rfl (by omega) (by rw [Nat.mul_one, Nat.zero_add])) fun ac45 hf46 => ?_)
    refine seq_one (op_store (cs' := arr .i64 (c.of.set n 0)) 1 hf46 rfl rfl rfl rfl rfl sz_3 hI6 rfl (Nat.lt_of_lt_of_eq (by omega) (Eq.symm (arr_size c.rep.l2))) arr_set fun wd4 hI7 => ?_)
    have hI8 : Inv w [(lb, arr .i64 (((jn c.lk ((pv c.lk n).toNat) ((nx c.lk n).toNat)).set (2 * n) (n : Int)).set (2 * n + 1) (n : Int)), 103), (ob, arr .i64 (c.of.set n 0), 3), (mb, arr .i64 c.mn, 3), (cb, #[.slice (some ⟨lb, 0, none⟩) (N + K) (N + K), .slice (some ⟨ob, 0, none⟩) N N, .slice (some ⟨mb, 0, none⟩) K K], 79)] wd4 := hI7
    refine seq_end ?_
    clear ac39 hf40 ac40 hf41 ac41 hf42 ac42 hf43 ac43 hf44 ac44 hf45 wd3 hI6 hI7
    refine then_normal ?_
    refine code_seq ?_
    refine seq_start (l := [0, 1, 2, 3, 4, 5, 6, 7, 8, 9]) rfl ?_
    refine seq_one (op_val (v := .pointer (some ⟨cb, 0, none⟩)) hf46 rfl rfl rfl rfl rfl rfl (r_move rfl) fun ac46 hf47 => ?_)
    refine seq_one (op_val (v := .pointer (some ⟨cb, 0, none⟩)) hf47 rfl rfl rfl rfl rfl rfl (r_nilCheck rfl) fun ac47 hf48 => ?_)
    refine seq_one (op_val (v := .pointer (some ⟨cb, 2, none⟩)) hf48 rfl rfl rfl rfl rfl rfl (r_fieldAddr fi_79_2 rfl rfl) fun ac48 hf49 => ?_)
    refine seq_one (op_val (v := .slice (some ⟨mb, 0, none⟩) K K) hf49 rfl rfl rfl rfl rfl rfl (r_load ag_27 rfl (hI8.at 3 rfl) rfl) fun ac49 hf50 => ?_)
    refine seq_one (op_val (v := .int .i64 (c.atV (n : Int))) hf50 rfl rfl rfl rfl rfl rfl (r_move rfl) fun ac50 hf51 => ?_)
    refine seq_one (op_val (v := .pointer (some ⟨mb, (c.atV (n : Int)).toNat, none⟩)) hf51 rfl rfl rfl rfl rfl rfl (r_indexAddrS (i := (c.atV (n : Int)).toNat) sl_27 rfl rfl hat hk (by rw [Nat.mul_one, Nat.zero_add])) fun ac51 hf52 => ?_)
    refine seq_one (op_val (v := .int .i64 (c.mn.getD ((c.atV (n : Int)).toNat) 0)) hf52 rfl rfl rfl rfl rfl rfl (r_load ag_3 rfl (hI8.at 2 rfl) (arr_get (Nat.lt_of_lt_of_eq hk (Eq.symm c.rep.l3)))) fun ac52 hf53 => ?_)
    refine seq_one (op_val (v := .int .i64 (c.mn.getD (c.atV (n : Int)).toNat 0 - 1)) hf53 rfl rfl rfl rfl rfl rfl (r_sub (c := (c.mn.getD (c.atV (n : Int)).toNat 0 - 1)) rfl rfl (wrap_i64 (by have := Ch.mn_b c hk; omega) (by have := Ch.mn_b c hk; omega))) fun ac53 hf54 => ?_)
    refine seq_one (op_val (v := .pointer (some ⟨mb, (c.atV (n : Int)).toNat, none⟩)) hf54 rfl rfl rfl rfl rfl rfl (r_indexAddrS (i := (c.atV (n : Int)).toNat) sl_27 rfl rfl hat hk (by rw [Nat.mul_one, Nat.zero_add])) fun ac54 hf55 => ?_)
    refine seq_one (op_store (cs' := arr .i64 (c.mn.set ((c.atV (n : Int)).toNat) (c.mn.getD (c.atV (n : Int)).toNat 0 - 1))) 2 hf55 rfl rfl rfl rfl rfl sz_3 hI8 rfl (Nat.lt_of_lt_of_eq hk (Eq.symm (arr_size c.rep.l3))) arr_set fun wd5 hI9 => ?_)
    have hI10 : Inv w [(lb, arr .i64 (((jn c.lk ((pv c.lk n).toNat) ((nx c.lk n).toNat)).set (2 * n) (n : Int)).set (2 * n + 1) (n : Int)), 103), (ob, arr .i64 (c.of.set n 0), 3), (mb, arr .i64 (c.mn.set ((c.atV (n : Int)).toNat) (c.mn.getD (c.atV (n : Int)).toNat 0 - 1)), 3), (cb, #[.slice (some ⟨lb, 0, none⟩) (N + K) (N + K), .slice (some ⟨ob, 0, none⟩) N N, .slice (some ⟨mb, 0, none⟩) K K], 79)] wd5 := hI9
    refine seq_end ?_
    clear ac45 hf46 ac46 hf47 ac47 hf48 ac48 hf49 ac49 hf50 ac50 hf51 ac51 hf52 ac52 hf53 ac53 hf54 wd4 hI8 hI9
    refine then_normal ?_
    refine code_seq ?_
    refine seq_start (l := [0]) rfl ?_
    refine seq_one (op_val (v := .bool true) hf55 rfl rfl rfl rfl rfl rfl (r_assign rfl) fun ac55 hf56 => ?_)
    refine seq_end ?_
    clear ac54 hf55
    refine then_normal ?_
    refine wp_ret ?_
    exact post1 rfl hf56 rfl ⟨rfl, by rw [Ch.drop_eq c hn h0]; exact hI10⟩
  ·
    refine op_val (v := .int .i64 (c.lk.getD (2 * n + 1) 0)) hf28 rfl rfl rfl rfl rfl rfl (r_load ag_3 rfl (hI3.at 0 rfl) (arr_get (Nat.lt_of_lt_of_eq (by have := (show n < (N + K) from (by omega)); omega) (Eq.symm c.rep.l1)))) fun ac56 hf57 => ⟨?_, ?_⟩
    · exact (Has.cons (hI3.at 3 rfl) Has.nil)
    have hS5 : Has [(cb, #[.slice (some ⟨lb, 0, none⟩) (N + K) (N + K), .slice (some ⟨ob, 0, none⟩) N N, .slice (some ⟨mb, 0, none⟩) K K], 79)] _ := (Has.cons (hI3.at 3 rfl) Has.nil)
    refine any_one (i := 8) (by kernel_rfl) ?_
    refine op_val (v := .int .i64 (c.lk.getD (2 * n) 0)) hf57 rfl rfl rfl rfl rfl rfl (r_load ag_3 rfl (hI3.at 0 rfl) (arr_get (Nat.lt_of_lt_of_eq (by have := (show n < (N + K) from (by omega)); omega) (Eq.symm c.rep.l1)))) fun ac57 hf58 => ⟨?_, ?_⟩
    · exact (Has.cons (hI3.at 3 rfl) Has.nil)
    have hS6 : Has [(cb, #[.slice (some ⟨lb, 0, none⟩) (N + K) (N + K), .slice (some ⟨ob, 0, none⟩) N N, .slice (some ⟨mb, 0, none⟩) K K], 79)] _ := (Has.cons (hI3.at 3 rfl) Has.nil)
    refine any_one (i := 17) (by kernel_rfl) ?_
    refine (op_call (R := fun v w' => v = .tuple #[] ∧ Inv _ [(lb, arr .i64 (jn c.lk ((pv c.lk n).toNat) ((nx c.lk n).toNat)), 103), (ob, arr .i64 c.of, 3), (mb, arr .i64 c.mn, 3), (cb, #[.slice (some ⟨lb, 0, none⟩) (N + K) (N + K), .slice (some ⟨ob, 0, none⟩) N N, .slice (some ⟨mb, 0, none⟩) K K], 79)] w') hf58 rfl rfl rfl rfl ca_58 ((join_walk (a := (pv c.lk n).toNat) (b := (nx c.lk n).toNat) (hI3.nd 0 rfl rfl rfl rfl) c.rep.l1 c.rep.l2 c.rep.l3 hp' hq' hpl' hql' (Has.cons (hI3.at 0 rfl) (Has.cons (hI3.at 1 rfl) (Has.cons (hI3.at 2 rfl) (Has.cons (hI3.at 3 rfl) Has.nil))))).mono fun _ _ h => ⟨_, h.1, rfl, h.2⟩) fun ac58 v wd6 hR1 hf59 => ?_)
    obtain ⟨rfl, hR1⟩ := hR1
    have hI11 : Inv w [(lb, arr .i64 (jn c.lk ((pv c.lk n).toNat) ((nx c.lk n).toNat)), 103), (ob, arr .i64 c.of, 3), (mb, arr .i64 c.mn, 3), (cb, #[.slice (some ⟨lb, 0, none⟩) (N + K) (N + K), .slice (some ⟨ob, 0, none⟩) N N, .slice (some ⟨mb, 0, none⟩) K K], 79)] _ := Inv.callS (A := []) (S := [(lb, arr .i64 c.lk, 103), (ob, arr .i64 c.of, 3), (mb, arr .i64 c.mn, 3), (cb, #[.slice (some ⟨lb, 0, none⟩) (N + K) (N + K), .slice (some ⟨ob, 0, none⟩) N N, .slice (some ⟨mb, 0, none⟩) K K], 79)]) (S' := [(lb, arr .i64 (jn c.lk ((pv c.lk n).toNat) ((nx c.lk n).toNat)), 103), (ob, arr .i64 c.of, 3), (mb, arr .i64 c.mn, 3), (cb, #[.slice (some ⟨lb, 0, none⟩) (N + K) (N + K), .slice (some ⟨ob, 0, none⟩) N N, .slice (some ⟨mb, 0, none⟩) K K], 79)]) (L := []) (N := []) hI3 hR1 rfl (fun _ h => by cases h)
    refine ⟨?_, ?_⟩
    · exact (Has.cons (hI11.at 3 rfl) Has.nil)
    have hS7 : Has [(cb, #[.slice (some ⟨lb, 0, none⟩) (N + K) (N + K), .slice (some ⟨ob, 0, none⟩) N N, .slice (some ⟨mb, 0, none⟩) K K], 79)] _ := (Has.cons (hI11.at 3 rfl) Has.nil)
    refine any_end (by kernel_rfl) ?_
    clear hf12 hI2 ac12 hf13 ac13 hf14 ac14 hf15 ac15 hf16 ac16 hf17 ac17 hf18 ac18 hf19 ac19 hf20 ac20 hf21 ac21 hf22 ac22 hf23 ac23 hf24 ac24 hf25 ac25 hf26 ac26 hf27 ac27 hf28 hS1 ac56 hf57 hS5 ac57 wd1 hf58 hI3 hR1 hS6 hS7
    refine then_normal ?_
    refine code_seq ?_
    refine seq_start (l := [0, 1, 2, 3, 4, 5, 6, 7, 8, 9]) rfl ?_
    refine seq_one (op_val (v := .pointer (some ⟨cb, 0, none⟩)) hf59 rfl rfl rfl rfl rfl rfl (r_move rfl) fun ac59 hf60 => ?_)
    refine seq_one (op_val (v := .pointer (some ⟨cb, 0, none⟩)) hf60 rfl rfl rfl rfl rfl rfl (r_nilCheck rfl) fun ac60 hf61 => ?_)
    refine seq_one (op_val (v := .pointer (some ⟨cb, 0, none⟩)) hf61 rfl rfl rfl rfl rfl rfl (r_fieldAddr fi_79_0 rfl rfl) fun ac61 hf62 => ?_)
    refine seq_one (op_val (v := .slice (some ⟨lb, 0, none⟩) (N + K) (N + K)) hf62 rfl rfl rfl rfl rfl rfl (r_load ag_77 rfl (hI11.at 3 rfl) rfl) fun ac62 hf63 => ?_)
    refine seq_one (op_val (v := .int .i64 (n : Int)) hf63 rfl rfl rfl rfl rfl rfl (r_move rfl) fun ac63 hf64 => ?_)
    refine seq_one (op_val (v := .int .i64 (n : Int)) hf64 rfl rfl rfl rfl rfl rfl (r_move rfl) fun ac64 hf65 => ?_)
    refine seq_one (op_val (v := .int .i64 (n : Int)) hf65 rfl rfl rfl rfl rfl rfl (r_move rfl) fun ac65 hf66 => ?_)
    refine seq_one (op_val (v := .agg #[.int .i64 (n : Int), .int .i64 (n : Int)]) hf66 rfl rfl rfl rfl rfl rfl (r_build (v := .agg #[.int .i64 (n : Int), .int .i64 (n : Int)]) rfl (fun _ => by kernel_rfl)) fun ac66 hf67 => ?_)
    refine seq_one (op_val (v := .pointer (some ⟨lb, 2 * n, none⟩)) hf67 rfl rfl rfl rfl rfl rfl (r_indexAddrS (i := n) sl_77 rfl rfl rfl (by omega) (by rw [Nat.zero_add, Nat.mul_comm])) fun ac67 hf68 => ?_)
    refine seq_one (op_storeN (cells := #[.int .i64 (n : Int), .int .i64 (n : Int)]) (cs' := arr .i64 (((jn c.lk ((pv c.lk n).toNat) ((nx c.lk n).toNat)).set (2 * n) (n : Int)).set (2 * n + 1) (n : Int))) 0 hf68 rfl rfl rfl rfl rfl sz_103 rfl rfl hI11 rfl (Nat.le_of_lt_succ (Nat.succ_lt_succ (Nat.lt_of_lt_of_eq (by have := (show n < (N + K) from (by omega)); omega) (Eq.symm (arr_size (jn_len.trans c.rep.l1)))))) spl2 fun wd7 hI12 => ?_)
    have hI13 : Inv w [(lb, arr .i64 (((jn c.lk ((pv c.lk n).toNat) ((nx c.lk n).toNat)).set (2 * n) (n : Int)).set (2 * n + 1) (n : Int)), 103), (ob, arr .i64 c.of, 3), (mb, arr .i64 c.mn, 3), (cb, #[.slice (some ⟨lb, 0, none⟩) (N + K) (N + K), .slice (some ⟨ob, 0, none⟩) N N, .slice (some ⟨mb, 0, none⟩) K K], 79)] wd7 := hI12
    refine seq_end ?_
    clear ac58 hf59 ac59 hf60 ac60 hf61 ac61 hf62 ac62 hf63 ac63 hf64 ac64 hf65 ac65 hf66 ac66 hf67 wd6 hI11 hI12
    refine then_normal ?_
    refine code_seq ?_
    refine seq_start (l := [0, 1, 2, 3, 4, 5, 6]) rfl ?_
    refine seq_one (op_val (v := .pointer (some ⟨cb, 0, none⟩)) hf68 rfl rfl rfl rfl rfl rfl (r_move rfl) fun ac68 hf69 => ?_)
    refine seq_one (op_val (v := .pointer (some ⟨cb, 0, none⟩)) hf69 rfl rfl rfl rfl rfl rfl (r_nilCheck rfl) fun ac69 hf70 => ?_)
    refine seq_one (op_val (v := .pointer (some ⟨cb, 1, none⟩)) hf70 rfl rfl rfl rfl rfl rfl (r_fieldAddr fi_79_1 rfl rfl) fun ac70 hf71 => ?_)
    refine seq_one (op_val (v := .slice (some ⟨ob, 0, none⟩) N N) hf71 rfl rfl rfl rfl rfl rfl (r_load ag_27 rfl (hI13.at 3 rfl) rfl) fun ac71 hf72 => ?_)
    refine seq_one (op_val (v := .int .i64 (n : Int)) hf72 rfl rfl rfl rfl rfl rfl (r_move rfl) fun ac72 hf73 => ?_)
    refine seq_one (op_val (v := .pointer (some ⟨ob, n, none⟩)) hf73 rfl rfl rfl rfl rfl rfl (r_indexAddrS (i := n) sl_27 rfl rfl rfl (by omega) (by rw [Nat.mul_one, Nat.zero_add])) fun ac73 hf74 => ?_)
    refine seq_one (op_store (cs' := arr .i64 (c.of.set n 0)) 1 hf74 rfl rfl rfl rfl rfl sz_3 hI13 rfl (Nat.lt_of_lt_of_eq (by omega) (Eq.symm (arr_size c.rep.l2))) arr_set fun wd8 hI14 => ?_)
    have hI15 : Inv w [(lb, arr .i64 (((jn c.lk ((pv c.lk n).toNat) ((nx c.lk n).toNat)).set (2 * n) (n : Int)).set (2 * n + 1) (n : Int)), 103), (ob, arr .i64 (c.of.set n 0), 3), (mb, arr .i64 c.mn, 3), (cb, #[.slice (some ⟨lb, 0, none⟩) (N + K) (N + K), .slice (some ⟨ob, 0, none⟩) N N, .slice (some ⟨mb, 0, none⟩) K K], 79)] wd8 := hI14
    refine seq_end ?_
    clear ac67 hf68 ac68 hf69 ac69 hf70 ac70 hf71 ac71 hf72 ac72 hf73 wd7 hI13 hI14
    refine then_normal ?_
    refine code_seq ?_
    refine seq_start (l := [0, 1, 2, 3, 4, 5, 6, 7, 8, 9]) rfl ?_
    refine seq_one (op_val (v := .pointer (some ⟨cb, 0, none⟩)) hf74 rfl rfl rfl rfl rfl rfl (r_move rfl) fun ac74 hf75 => ?_)
    refine seq_one (op_val (v := .pointer (some ⟨cb, 0, none⟩)) hf75 rfl rfl rfl rfl rfl rfl (r_nilCheck rfl) fun ac75 hf76 => ?_)
    refine seq_one (op_val (v := .pointer (some ⟨cb, 2, none⟩)) hf76 rfl rfl rfl rfl rfl rfl (r_fieldAddr fi_79_2 rfl rfl) fun ac76 hf77 => ?_)
    refine seq_one (op_val (v := .slice (some ⟨mb, 0, none⟩) K K) hf77 rfl rfl rfl rfl rfl rfl (r_load ag_27 rfl (hI15.at 3 rfl) rfl) fun ac77 hf78 => ?_)
    refine seq_one (op_val (v := .int .i64 (c.atV (n : Int))) hf78 rfl rfl rfl rfl rfl rfl (r_move rfl) fun ac78 hf79 => ?_)
    refine seq_one (op_val (v := .pointer (some ⟨mb, (c.atV (n : Int)).toNat, none⟩)) hf79 rfl rfl rfl rfl rfl rfl (r_indexAddrS (i := (c.atV (n : Int)).toNat) sl_27 rfl rfl hat hk (by rw [Nat.mul_one, Nat.zero_add])) fun ac79 hf80 => ?_)
    refine seq_one (op_val (v := .int .i64 (c.mn.getD ((c.atV (n : Int)).toNat) 0)) hf80 rfl rfl rfl rfl rfl rfl (r_load ag_3 rfl (hI15.at 2 rfl) (arr_get (Nat.lt_of_lt_of_eq hk (Eq.symm c.rep.l3)))) fun ac80 hf81 => ?_)
    refine seq_one (op_val (v := .int .i64 (c.mn.getD (c.atV (n : Int)).toNat 0 - 1)) hf81 rfl rfl rfl rfl rfl rfl (r_sub (c := (c.mn.getD (c.atV (n : Int)).toNat 0 - 1)) rfl rfl (wrap_i64 (by have := Ch.mn_b c hk; omega) (by have := Ch.mn_b c hk; omega))) fun ac81 hf82 => ?_)
    refine seq_one (op_val (v := .pointer (some ⟨mb, (c.atV (n : Int)).toNat, none⟩)) hf82 rfl rfl rfl rfl rfl rfl (r_indexAddrS (i := (c.atV (n : Int)).toNat) sl_27 rfl rfl hat hk (by rw [Nat.mul_one, Nat.zero_add])) fun ac82 hf83 => ?_)
    refine seq_one (op_store (cs' := arr .i64 (c.mn.set ((c.atV (n : Int)).toNat) (c.mn.getD (c.atV (n : Int)).toNat 0 - 1))) 2 hf83 rfl rfl rfl rfl rfl sz_3 hI15 rfl (Nat.lt_of_lt_of_eq hk (Eq.symm (arr_size c.rep.l3))) arr_set fun wd9 hI16 => ?_)
    have hI17 : Inv w [(lb, arr .i64 (((jn c.lk ((pv c.lk n).toNat) ((nx c.lk n).toNat)).set (2 * n) (n : Int)).set (2 * n + 1) (n : Int)), 103), (ob, arr .i64 (c.of.set n 0), 3), (mb, arr .i64 (c.mn.set ((c.atV (n : Int)).toNat) (c.mn.getD (c.atV (n : Int)).toNat 0 - 1)), 3), (cb, #[.slice (some ⟨lb, 0, none⟩) (N + K) (N + K), .slice (some ⟨ob, 0, none⟩) N N, .slice (some ⟨mb, 0, none⟩) K K], 79)] wd9 := hI16
    refine seq_end ?_
    clear ac73 hf74 ac74 hf75 ac75 hf76 ac76 hf77 ac77 hf78 ac78 hf79 ac79 hf80 ac80 hf81 ac81 hf82 wd8 hI15 hI16
    refine then_normal ?_
    refine code_seq ?_
    refine seq_start (l := [0]) rfl ?_
    refine seq_one (op_val (v := .bool true) hf83 rfl rfl rfl rfl rfl rfl (r_assign rfl) fun ac83 hf84 => ?_)
    refine seq_end ?_
    clear ac82 hf83
    refine then_normal ?_
    refine wp_ret ?_
    exact post1 rfl hf84 rfl ⟨rfl, by rw [Ch.drop_eq c hn h0]; exact hI17⟩
set_option maxHeartbeats 8000000 in
theorem drop_no {N K : Nat} {lb ob mb cb : Nat} (hd : Nd lb ob mb cb) (c : Ch N K) {w : World} (h0_ : Has [(lb, arr .i64 c.lk, 103), (ob, arr .i64 c.of, 3), (mb, arr .i64 c.mn, 3), (cb, #[.slice (some ⟨lb, 0, none⟩) (N + K) (N + K), .slice (some ⟨ob, 0, none⟩) N N, .slice (some ⟨mb, 0, none⟩) K K], 79)] w) {n : Int} (hi : c.inn n = false) : Calls Try.prog 32 [.pointer (some ⟨cb, 0, none⟩), .int .i64 n].toArray w fun e w' => e = .returned (.bool false) ∧ Inv w [] w' := by
  have hI1 := Inv.startS h0_ hd.pw
  refine enter (n := 57) Try.func32 rfl rfl rfl ?_
  intro ac1 hf1
  refine code_seq ?_
  refine seq_start (l := [0]) rfl ?_
  refine seq_one (op_val (v := .bool false) hf1 rfl rfl rfl rfl rfl rfl (r_assign rfl) fun ac2 hf2 => ?_)
  refine seq_end ?_
  clear ac1 hf1
  refine then_normal ?_
  refine code_seq ?_
  refine seq_start (l := [0, 1, 2, 3, 4, 5, 6, 7]) rfl ?_
  refine seq_one (op_val (v := .pointer (some ⟨cb, 0, none⟩)) hf2 rfl rfl rfl rfl rfl rfl (r_move rfl) fun ac3 hf3 => ?_)
  refine seq_one (op_val (v := .int .i64 n) hf3 rfl rfl rfl rfl rfl rfl (r_move rfl) fun ac4 hf4 => ?_)
  refine seq_one (op_pureW hf4 rfl rfl rfl rfl ca_29 (in_any (hI1.nd 0 rfl rfl rfl rfl) c (Has.cons (hI1.at 0 rfl) (Has.cons (hI1.at 1 rfl) (Has.cons (hI1.at 2 rfl) (Has.cons (hI1.at 3 rfl) Has.nil)))) n) hI1 fun ac5 wd1 hI2 hf5 => ?_)
  refine seq_one (op_val (v := .tuple #[.int .i64 (c.atV n), .bool (c.inn n)]) hf5 rfl rfl rfl rfl rfl rfl (r_move rfl) fun ac6 hf6 => ?_)
  refine seq_one (op_val (v := .int .i64 (c.atV n)) hf6 rfl rfl rfl rfl rfl rfl (r_extract rfl rfl) fun ac7 hf7 => ?_)
  refine seq_one (op_val (v := .bool (c.inn n)) hf7 rfl rfl rfl rfl rfl rfl (r_extract rfl rfl) fun ac8 hf8 => ?_)
  refine seq_one (op_val (v := .int .i64 (c.atV n)) hf8 rfl rfl rfl rfl rfl rfl (r_assign rfl) fun ac9 hf9 => ?_)
  refine seq_one (op_val (v := .bool (c.inn n)) hf9 rfl rfl rfl rfl rfl rfl (r_assign rfl) fun ac10 hf10 => ?_)
  refine seq_end ?_
  clear ac2 hf2 ac3 hf3 ac4 hI1 hf4 ac5 hf5 ac6 hf6 ac7 hf7 ac8 hf8 ac9 hf9
  refine then_normal ?_
  refine code_seq ?_
  refine code_seq ?_
  refine seq_start (l := [0, 1]) rfl ?_
  refine seq_one (op_val (v := .bool (c.inn n)) hf10 rfl rfl rfl rfl rfl rfl (r_move rfl) fun ac11 hf11 => ?_)
  refine seq_one (op_val (v := .bool (!(c.inn n))) hf11 rfl rfl rfl rfl rfl rfl (r_not rfl) fun ac12 hf12 => ?_)
  refine seq_end ?_
  clear ac10 hf10 ac11 hf11
  refine then_normal ?_
  have hf13 := hf12.know 14 (u := .bool true) rfl (congrArg Value.bool (by rw [hi]; rfl))
  refine code_if_true hf13 rfl ?_
  refine code_seq ?_
  refine seq_start (l := [0]) rfl ?_
  refine seq_one (op_val (v := .bool false) hf13 rfl rfl rfl rfl rfl rfl (r_assign rfl) fun ac13 hf14 => ?_)
  refine seq_end ?_
  clear hf12 ac12 hf13
  refine then_normal ?_
  refine wp_ret ?_
  refine then_ret ?_
  exact post1 rfl hf14 rfl ⟨rfl, hI2.unread h0_⟩
theorem drop_any {N K : Nat} {lb ob mb cb : Nat} (hd : Nd lb ob mb cb) (c : Ch N K) {w : World} (h0_ : Has [(lb, arr .i64 c.lk, 103), (ob, arr .i64 c.of, 3), (mb, arr .i64 c.mn, 3), (cb, #[.slice (some ⟨lb, 0, none⟩) (N + K) (N + K), .slice (some ⟨ob, 0, none⟩) N N, .slice (some ⟨mb, 0, none⟩) K K], 79)] w) (n : Int) : Calls Try.prog 32 [.pointer (some ⟨cb, 0, none⟩), .int .i64 n].toArray w fun e w' => e = .returned (.bool (c.inn n)) ∧ Inv w [(lb, arr .i64 (c.drop n).lk, 103), (ob, arr .i64 (c.drop n).of, 3), (mb, arr .i64 (c.drop n).mn, 3), (cb, #[.slice (some ⟨lb, 0, none⟩) (N + K) (N + K), .slice (some ⟨ob, 0, none⟩) N N, .slice (some ⟨mb, 0, none⟩) K K], 79)] w' := by
  cases hi : c.inn n with
  | false =>
    refine (drop_no hd c h0_ hi).mono fun e w' h => ⟨h.1, ?_⟩
    rw [Ch.drop_no hi]; exact (Inv.startS h0_ hd.pw).call0 h.2
  | true =>
    have h' := Ch.inn_iff.1 hi
    obtain ⟨x, rfl⟩ := Int.eq_ofNat_of_zero_le h'.1.1
    exact drop_in hd c h0_ (by omega) (by have := h'.2; rwa [Int.toNat_natCast] at this)
set_option maxHeartbeats 8000000 in
theorem pop_any {N K : Nat} {lb ob mb cb : Nat} (hd : Nd lb ob mb cb) (c : Ch N K) {w : World} (h0_ : Has [(lb, arr .i64 c.lk, 103), (ob, arr .i64 c.of, 3), (mb, arr .i64 c.mn, 3), (cb, #[.slice (some ⟨lb, 0, none⟩) (N + K) (N + K), .slice (some ⟨ob, 0, none⟩) N N, .slice (some ⟨mb, 0, none⟩) K K], 79)] w) (l : Int) : Calls Try.prog 31 [.pointer (some ⟨cb, 0, none⟩), .int .i64 l].toArray w fun e w' => e = .returned (.tuple #[.int .i64 (c.fst l), .bool (c.some_ l)]) ∧ Inv w [(lb, arr .i64 (c.pop l).lk, 103), (ob, arr .i64 (c.pop l).of, 3), (mb, arr .i64 (c.pop l).mn, 3), (cb, #[.slice (some ⟨lb, 0, none⟩) (N + K) (N + K), .slice (some ⟨ob, 0, none⟩) N N, .slice (some ⟨mb, 0, none⟩) K K], 79)] w' := by
  have hI1 := Inv.startS h0_ hd.pw
  refine enter (n := 21) Try.func31 rfl rfl rfl ?_
  intro ac1 hf1
  refine code_seq ?_
  refine seq_start (l := [0, 1]) rfl ?_
  refine seq_one (op_val (v := .int .i64 0) hf1 rfl rfl rfl rfl rfl rfl (r_assign rfl) fun ac2 hf2 => ?_)
  refine seq_one (op_val (v := .bool false) hf2 rfl rfl rfl rfl rfl rfl (r_assign rfl) fun ac3 hf3 => ?_)
  refine seq_end ?_
  clear ac1 hf1 ac2 hf2
  refine then_normal ?_
  refine code_seq ?_
  refine seq_start (l := [0, 1, 2, 3, 4, 5, 6, 7]) rfl ?_
  refine seq_one (op_val (v := .pointer (some ⟨cb, 0, none⟩)) hf3 rfl rfl rfl rfl rfl rfl (r_move rfl) fun ac4 hf4 => ?_)
  refine seq_one (op_val (v := .int .i64 l) hf4 rfl rfl rfl rfl rfl rfl (r_move rfl) fun ac5 hf5 => ?_)
  refine seq_one (op_pureW hf5 rfl rfl rfl rfl ca_40 (first_any (hI1.nd 0 rfl rfl rfl rfl) c (Has.cons (hI1.at 0 rfl) (Has.cons (hI1.at 1 rfl) (Has.cons (hI1.at 2 rfl) (Has.cons (hI1.at 3 rfl) Has.nil)))) l) hI1 fun ac6 wd1 hI2 hf6 => ?_)
  refine seq_one (op_val (v := .tuple #[.int .i64 (c.fst l), .bool (c.some_ l)]) hf6 rfl rfl rfl rfl rfl rfl (r_move rfl) fun ac7 hf7 => ?_)
  refine seq_one (op_val (v := .int .i64 (c.fst l)) hf7 rfl rfl rfl rfl rfl rfl (r_extract rfl rfl) fun ac8 hf8 => ?_)
  refine seq_one (op_val (v := .bool (c.some_ l)) hf8 rfl rfl rfl rfl rfl rfl (r_extract rfl rfl) fun ac9 hf9 => ?_)
  refine seq_one (op_val (v := .int .i64 (c.fst l)) hf9 rfl rfl rfl rfl rfl rfl (r_assign rfl) fun ac10 hf10 => ?_)
  refine seq_one (op_val (v := .bool (c.some_ l)) hf10 rfl rfl rfl rfl rfl rfl (r_assign rfl) fun ac11 hf11 => ?_)
  refine seq_end ?_
  clear ac3 hf3 ac4 hf4 ac5 hI1 hf5 ac6 hf6 ac7 hf7 ac8 hf8 ac9 hf9 ac10 hf10
  refine then_normal ?_
  refine code_seq ?_
  refine seq_start (l := [0, 1, 2, 3, 4, 5, 6, 7, 8]) rfl ?_
  refine seq_one (op_val (v := .int .i64 (c.fst l)) hf11 rfl rfl rfl rfl rfl rfl (r_move rfl) fun ac12 hf12 => ?_)
  refine seq_one (op_val (v := .bool (c.some_ l)) hf12 rfl rfl rfl rfl rfl rfl (r_move rfl) fun ac13 hf13 => ?_)
  refine seq_one (op_val (v := .bool (c.some_ l)) hf13 rfl rfl rfl rfl rfl rfl (r_move rfl) fun ac14 hf14 => ?_)
  rcases Bool.eq_false_or_eq_true (c.some_ l : Bool) with g16_1 | g16_1
  · have hf15 := hf14.know 16 (u := .bool true) rfl (congrArg Value.bool g16_1)
    refine seq_one (op_val (v := .pointer (some ⟨cb, 0, none⟩)) hf15 rfl rfl rfl rfl rfl rfl (r_move rfl) fun ac15 hf16 => ?_)
    refine seq_one (op_val (v := .int .i64 (c.fst l)) hf16 rfl rfl rfl rfl rfl rfl (r_move rfl) fun ac16 hf17 => ?_)
    refine seq_one (op_call (R := fun v w' => v = .bool (c.inn (c.fst l)) ∧ Inv _ [(lb, arr .i64 (c.drop (c.fst l)).lk, 103), (ob, arr .i64 (c.drop (c.fst l)).of, 3), (mb, arr .i64 (c.drop (c.fst l)).mn, 3), (cb, #[.slice (some ⟨lb, 0, none⟩) (N + K) (N + K), .slice (some ⟨ob, 0, none⟩) N N, .slice (some ⟨mb, 0, none⟩) K K], 79)] w') hf17 rfl rfl rfl rfl ca_32 ((drop_any (hI2.nd 0 rfl rfl rfl rfl) c (Has.cons (hI2.at 0 rfl) (Has.cons (hI2.at 1 rfl) (Has.cons (hI2.at 2 rfl) (Has.cons (hI2.at 3 rfl) Has.nil)))) (c.fst l)).mono fun _ _ h => ⟨_, h.1, rfl, h.2⟩) fun ac17 v wd2 hR1 hf18 => ?_)
    obtain ⟨rfl, hR1⟩ := hR1
    have hI3 : Inv w [(lb, arr .i64 (c.drop (c.fst l)).lk, 103), (ob, arr .i64 (c.drop (c.fst l)).of, 3), (mb, arr .i64 (c.drop (c.fst l)).mn, 3), (cb, #[.slice (some ⟨lb, 0, none⟩) (N + K) (N + K), .slice (some ⟨ob, 0, none⟩) N N, .slice (some ⟨mb, 0, none⟩) K K], 79)] _ := Inv.callS (A := []) (S := [(lb, arr .i64 c.lk, 103), (ob, arr .i64 c.of, 3), (mb, arr .i64 c.mn, 3), (cb, #[.slice (some ⟨lb, 0, none⟩) (N + K) (N + K), .slice (some ⟨ob, 0, none⟩) N N, .slice (some ⟨mb, 0, none⟩) K K], 79)]) (S' := [(lb, arr .i64 (c.drop (c.fst l)).lk, 103), (ob, arr .i64 (c.drop (c.fst l)).of, 3), (mb, arr .i64 (c.drop (c.fst l)).mn, 3), (cb, #[.slice (some ⟨lb, 0, none⟩) (N + K) (N + K), .slice (some ⟨ob, 0, none⟩) N N, .slice (some ⟨mb, 0, none⟩) K K], 79)]) (L := []) (N := []) hI2 hR1 rfl (fun _ h => by cases h)
    refine seq_one (op_val (v := .bool (c.inn (c.fst l))) hf18 rfl rfl rfl rfl rfl rfl (r_pickT rfl rfl) fun ac18 hf19 => ?_)
    refine seq_one (op_val (v := .int .i64 (c.fst l)) hf19 rfl rfl rfl rfl rfl rfl (r_assign rfl) fun ac19 hf20 => ?_)
    refine seq_one (op_val (v := .bool (c.inn (c.fst l))) hf20 rfl rfl rfl rfl rfl rfl (r_assign rfl) fun ac20 hf21 => ?_)
    refine seq_end ?_
    clear ac11 hf11 ac12 hf12 ac13 hf13 hf14 ac14 hf15 ac15 hf16 ac16 wd1 hf17 hI2 hR1 ac17 hf18 ac18 hf19 ac19 hf20
    refine then_normal ?_
    refine wp_ret ?_
    exact post2 rfl hf21 rfl rfl ⟨by rw [Ch.pop_v g16_1], by rw [Ch.pop_t g16_1]; exact hI3⟩
  · have hf22 := hf14.know 16 (u := .bool false) rfl (congrArg Value.bool g16_1)
    refine seq_one (op_skip hf22 rfl rfl rfl rfl fun ac21 hf23 => ?_)
    refine seq_one (op_skip hf23 rfl rfl rfl rfl fun ac22 hf24 => ?_)
    refine seq_one (op_skip hf24 rfl rfl rfl rfl fun ac23 hf25 => ?_)
    refine seq_one (op_val (v := .bool false) hf25 rfl rfl rfl rfl rfl rfl (r_pickF rfl rfl) fun ac24 hf26 => ?_)
    refine seq_one (op_val (v := .int .i64 (c.fst l)) hf26 rfl rfl rfl rfl rfl rfl (r_assign rfl) fun ac25 hf27 => ?_)
    refine seq_one (op_val (v := .bool false) hf27 rfl rfl rfl rfl rfl rfl (r_assign rfl) fun ac26 hf28 => ?_)
    refine seq_end ?_
    clear ac11 hf11 ac12 hf12 ac13 hf13 hf14 ac14 hf22 ac21 hf23 ac22 hf24 ac23 hf25 ac24 hf26 ac25 hf27
    refine then_normal ?_
    refine wp_ret ?_
    exact post2 rfl hf28 rfl rfl ⟨by rw [g16_1], by rw [Ch.pop_f g16_1]; exact hI2⟩
end Go.Proofs.Ytjelaoblpchmmaa
