/-
  The walk of CountTurned.
-/
import Derived.Test.YtohkdjaobdgenaaPlain3
namespace Go.Proofs.Ytohkdjaobdgenaa
set_option linter.unusedVariables false
set_option linter.unusedSimpArgs false
set_option maxRecDepth 100000
open Go.RowKit
set_option maxHeartbeats 8000000 in
theorem countTurned_walk {a b : Int} {n k : Nat} (ta : 0 ≤ a.tmod 20 ∧ a.tmod 20 ≤ 19) (tb : 0 ≤ b.tmod 64 ∧ b.tmod 64 ≤ 63) (en : 1 + a.tmod 20 = (n : Int)) (ek : 1 + b.tmod 64 = (k : Int)) (hn1 : 1 ≤ n) (hn20 : n ≤ 20) (hk1 : 1 ≤ k) (hk2 : k ≤ 64) {ct : Int} {p : Option Addr} {L cap : Nat} {rows : List (List Value)} (hl : rows.length = L) (hc : L ≤ cap) (ho : ∀ row ∈ rows, Oks opKinds row) {w : World} (hr : Rows_ w p 3 rows) : Calls Try.prog 5 [.int .u8 a, .int .u8 b, .slice p L cap, .int .u64 ct].toArray w fun e w' => e = .returned (.bool true) ∧ Inv w [] w' := by
  have hn2 : n ≤ 256 := by omega
  have hI1 := Inv.start w
  refine enter (n := 125) Try.func5 rfl rfl rfl ?_
  intro ac1 hf1
  refine code_seq ?_
  refine seq_start (l := [0]) rfl ?_
  refine seq_one (op_val (v := .bool false) hf1 rfl rfl rfl rfl rfl rfl (r_assign rfl) fun ac2 hf2 => ?_)
  refine seq_end ?_
  clear ac1 hf1
  refine then_normal ?_
  refine code_seq ?_
  refine seq_start (l := [0, 1, 2, 3, 4, 5, 6, 7, 8, 9, 10, 11]) rfl ?_
  refine seq_one (op_val (v := .int .u8 a) hf2 rfl rfl rfl rfl rfl rfl (r_move rfl) fun ac3 hf3 => ?_)
  refine seq_one (op_val (v := .int .u8 b) hf3 rfl rfl rfl rfl rfl rfl (r_move rfl) fun ac4 hf4 => ?_)
  refine seq_one (op_call (R := fun v w' => ∃ lb cb, Array.size (World.heap w) ≤ lb ∧ Array.size (World.heap w) ≤ cb ∧ v = .tuple #[.pointer (some ⟨cb, 0, none⟩), .int .i64 (n : Int), .int .u64 (pw k - 1), .bool true] ∧ Inv w [(lb, arr .u64 (List.replicate n 0), 24), (cb, #[.slice (some ⟨lb, 0, none⟩) n n, .int .i64 (k : Int)], 58)] w') hf4 rfl rfl rfl rfl ca_22 ((made_walk ta tb en ek hn1 hn2 hk1 hk2 _).mono fun e w' ⟨lb, cb, h1, h2, h3, h4⟩ => ⟨_, h3, lb, cb, h1, h2, rfl, h4⟩) fun ac5 v wd1 hR hf5 => ?_)
  obtain ⟨b1, b2, hqb1, hqb2, rfl, hwb1⟩ := hR
  have hb1 := Nat.le_trans hI1.size hqb1
  have hb2 := Nat.le_trans hI1.size hqb2
  have hI2 : Inv w [(b1, arr .u64 (List.replicate n 0), 24), (b2, #[.slice (some ⟨b1, 0, none⟩) n n, .int .i64 (k : Int)], 58)] _ := hI1.callN hwb1 (fun x hx => by simp only [List.mem_cons, List.mem_nil_iff, or_false] at hx; rcases hx with rfl | rfl <;> assumption)
  refine seq_one (op_val (v := .tuple #[.pointer (some ⟨b2, 0, none⟩), .int .i64 (n : Int), .int .u64 (pw k - 1), .bool true]) hf5 rfl rfl rfl rfl rfl rfl (r_move rfl) fun ac6 hf6 => ?_)
  refine seq_one (op_val (v := .pointer (some ⟨b2, 0, none⟩)) hf6 rfl rfl rfl rfl rfl rfl (r_extract rfl rfl) fun ac7 hf7 => ?_)
  refine seq_one (op_val (v := .int .i64 (n : Int)) hf7 rfl rfl rfl rfl rfl rfl (r_extract rfl rfl) fun ac8 hf8 => ?_)
  refine seq_one (op_val (v := .int .u64 (pw k - 1)) hf8 rfl rfl rfl rfl rfl rfl (r_extract rfl rfl) fun ac9 hf9 => ?_)
  refine seq_one (op_val (v := .bool true) hf9 rfl rfl rfl rfl rfl rfl (r_extract rfl rfl) fun ac10 hf10 => ?_)
  refine seq_one (op_val (v := .pointer (some ⟨b2, 0, none⟩)) hf10 rfl rfl rfl rfl rfl rfl (r_assign rfl) fun ac11 hf11 => ?_)
  refine seq_one (op_val (v := .int .i64 (n : Int)) hf11 rfl rfl rfl rfl rfl rfl (r_assign rfl) fun ac12 hf12 => ?_)
  refine seq_one (op_val (v := .int .u64 (pw k - 1)) hf12 rfl rfl rfl rfl rfl rfl (r_assign rfl) fun ac13 hf13 => ?_)
  refine seq_one (op_val (v := .bool true) hf13 rfl rfl rfl rfl rfl rfl (r_assign rfl) fun ac14 hf14 => ?_)
  refine seq_end ?_
  clear ac2 hf2 ac3 hf3 ac4 hf4 hI1 hwb1 hqb1 hqb2 ac5 hf5 ac6 hf6 ac7 hf7 ac8 hf8 ac9 hf9 ac10 hf10 ac11 hf11 ac12 hf12 ac13 hf13
  refine then_normal ?_
  refine code_seq ?_
  refine seq_start (l := [0, 1, 2, 3, 4, 5, 6, 7, 8, 9, 10, 11]) rfl ?_
  refine seq_one (op_val (v := .int .u8 a) hf14 rfl rfl rfl rfl rfl rfl (r_move rfl) fun ac15 hf15 => ?_)
  refine seq_one (op_val (v := .int .u8 b) hf15 rfl rfl rfl rfl rfl rfl (r_move rfl) fun ac16 hf16 => ?_)
  refine seq_one (op_call (R := fun v w' => ∃ lb cb, Array.size (World.heap wd1) ≤ lb ∧ Array.size (World.heap wd1) ≤ cb ∧ v = .tuple #[.pointer (some ⟨cb, 0, none⟩), .int .i64 (n : Int), .int .u64 (pw k - 1), .bool true] ∧ Inv wd1 [(lb, arr .u64 (List.replicate n 0), 24), (cb, #[.slice (some ⟨lb, 0, none⟩) n n, .int .i64 (k : Int)], 58)] w') hf16 rfl rfl rfl rfl ca_22 ((made_walk ta tb en ek hn1 hn2 hk1 hk2 _).mono fun e w' ⟨lb, cb, h1, h2, h3, h4⟩ => ⟨_, h3, lb, cb, h1, h2, rfl, h4⟩) fun ac17 v wd2 hR hf17 => ?_)
  obtain ⟨b3, b4, hqb3, hqb4, rfl, hwb3⟩ := hR
  have hb3 := Nat.le_trans hI2.size hqb3
  have hb4 := Nat.le_trans hI2.size hqb4
  have hI3 : Inv w [(b1, arr .u64 (List.replicate n 0), 24), (b2, #[.slice (some ⟨b1, 0, none⟩) n n, .int .i64 (k : Int)], 58), (b3, arr .u64 (List.replicate n 0), 24), (b4, #[.slice (some ⟨b3, 0, none⟩) n n, .int .i64 (k : Int)], 58)] _ := hI2.callN hwb3 (fun x hx => by simp only [List.mem_cons, List.mem_nil_iff, or_false] at hx; rcases hx with rfl | rfl <;> assumption)
  refine seq_one (op_val (v := .tuple #[.pointer (some ⟨b4, 0, none⟩), .int .i64 (n : Int), .int .u64 (pw k - 1), .bool true]) hf17 rfl rfl rfl rfl rfl rfl (r_move rfl) fun ac18 hf18 => ?_)
  refine seq_one (op_val (v := .pointer (some ⟨b4, 0, none⟩)) hf18 rfl rfl rfl rfl rfl rfl (r_extract rfl rfl) fun ac19 hf19 => ?_)
  refine seq_one (op_val (v := .int .i64 (n : Int)) hf19 rfl rfl rfl rfl rfl rfl (r_extract rfl rfl) fun ac20 hf20 => ?_)
  refine seq_one (op_val (v := .int .u64 (pw k - 1)) hf20 rfl rfl rfl rfl rfl rfl (r_extract rfl rfl) fun ac21 hf21 => ?_)
  refine seq_one (op_val (v := .bool true) hf21 rfl rfl rfl rfl rfl rfl (r_extract rfl rfl) fun ac22 hf22 => ?_)
  refine seq_one (op_val (v := .pointer (some ⟨b4, 0, none⟩)) hf22 rfl rfl rfl rfl rfl rfl (r_assign rfl) fun ac23 hf23 => ?_)
  refine seq_one (op_val (v := .int .i64 (n : Int)) hf23 rfl rfl rfl rfl rfl rfl (r_assign rfl) fun ac24 hf24 => ?_)
  refine seq_one (op_val (v := .int .u64 (pw k - 1)) hf24 rfl rfl rfl rfl rfl rfl (r_assign rfl) fun ac25 hf25 => ?_)
  refine seq_one (op_val (v := .bool true) hf25 rfl rfl rfl rfl rfl rfl (r_assign rfl) fun ac26 hf26 => ?_)
  refine seq_end ?_
  clear ac14 hf14 ac15 hf15 ac16 wd1 hf16 hI2 hwb3 hqb3 hqb4 ac17 hf17 ac18 hf18 ac19 hf19 ac20 hf20 ac21 hf21 ac22 hf22 ac23 hf23 ac24 hf24 ac25 hf25
  refine then_normal ?_
  refine code_seq ?_
  refine code_seq ?_
  refine seq_start (l := [0, 1, 2, 3, 4, 5]) rfl ?_
  refine seq_one (op_val (v := .bool true) hf26 rfl rfl rfl rfl rfl rfl (r_move rfl) fun ac27 hf27 => ?_)
  refine seq_one (op_val (v := .bool false) hf27 rfl rfl rfl rfl rfl rfl ((r_not (b := true) rfl).trans rfl) fun ac28 hf28 => ?_)
  refine seq_one (op_val (v := .bool false) hf28 rfl rfl rfl rfl rfl rfl (r_move rfl) fun ac29 hf29 => ?_)
  refine seq_one (op_val (v := .bool true) hf29 rfl rfl rfl rfl rfl rfl (r_move rfl) fun ac30 hf30 => ?_)
  refine seq_one (op_val (v := .bool false) hf30 rfl rfl rfl rfl rfl rfl ((r_not (b := true) rfl).trans rfl) fun ac31 hf31 => ?_)
  refine seq_one (op_val (v := .bool false) hf31 rfl rfl rfl rfl rfl rfl (r_pickF rfl rfl) fun ac32 hf32 => ?_)
  refine seq_end ?_
  clear ac26 hf26 ac27 hf27 ac28 hf28 ac29 hf29 ac30 hf30 ac31 hf31
  refine then_normal ?_
  refine code_if_false hf32 rfl ?_
  refine wp_skip ?_
  refine then_normal ?_
  refine code_seq ?_
  refine seq_start (l := [0, 1, 2, 3, 4, 5]) rfl ?_
  refine seq_one (op_val (v := .slice p L cap) hf32 rfl rfl rfl rfl rfl rfl (r_move rfl) fun ac33 hf33 => ?_)
  refine seq_one (op_val (v := .slice p L cap) hf33 rfl rfl rfl rfl rfl rfl (r_move rfl) fun ac34 hf34 => ?_)
  refine seq_one (op_val (v := .int .i64 (L : Int)) hf34 rfl rfl rfl rfl rfl rfl (r_len sl_22 rfl) fun ac35 hf35 => ?_)
  refine seq_one (op_val (v := .int .i64 ((min L 40 : Nat) : Int)) hf35 rfl rfl rfl rfl rfl rfl (r_minC (c := ((min L 40 : Nat) : Int)) rfl rfl (by split <;> omega)) fun ac36 hf36 => ?_)
  refine seq_one (op_val (v := .slice p (min L 40) cap) hf36 rfl rfl rfl rfl rfl rfl (r_sliceH (h := (min L 40)) sl_22 rfl rfl (by omega)) fun ac37 hf37 => ?_)
  refine seq_one (op_val (v := .slice p (min L 40) cap) hf37 rfl rfl rfl rfl rfl rfl (r_assign rfl) fun ac38 hf38 => ?_)
  refine seq_end ?_
  clear ac32 hf32 ac33 hf33 ac34 hf34 ac35 hf35 ac36 hf36 ac37 hf37
  refine then_normal ?_
  refine code_seq ?_
  refine code_seq ?_
  refine seq_start (l := [0, 1, 2]) rfl ?_
  refine seq_one (op_val (v := .slice p (min L 40) cap) hf38 rfl rfl rfl rfl rfl rfl (r_move rfl) fun ac39 hf39 => ?_)
  refine seq_one (op_val (v := .int .i64 (((min L 40) : Nat) : Int)) hf39 rfl rfl rfl rfl rfl rfl (r_len sl_22 rfl) fun ac40 hf40 => ?_)
  refine seq_one (op_val (v := .int .i64 0) hf40 rfl rfl rfl rfl rfl rfl (r_move rfl) fun ac41 hf41 => ?_)
  refine seq_end ?_
  clear ac38 hf38 ac39 hf39 ac40 hf40
  refine then_normal ?_
  refine wp_block ?_
  refine code_loop (α := Nat × (List Int) × (List Int)) (fun (x : Nat × (List Int) × (List Int)) => match x with | (i, xs, ys) => [(0, .int .u8 a), (1, .int .u8 b), (2, .slice p (min L 40) cap), (3, .int .u64 ct), (9, .pointer (some ⟨b2, 0, none⟩)), (10, .int .i64 (n : Int)), (11, .int .u64 (pw k - 1)), (12, .bool true), (13, .pointer (some ⟨b4, 0, none⟩)), (14, .int .i64 (n : Int)), (15, .int .u64 (pw k - 1)), (16, .bool true), (22, .tuple #[.pointer (some ⟨b2, 0, none⟩), .int .i64 (n : Int), .int .u64 (pw k - 1), .bool true]), (23, .int .u8 a), (24, .int .u8 b), (25, .tuple #[.pointer (some ⟨b2, 0, none⟩), .int .i64 (n : Int), .int .u64 (pw k - 1), .bool true]), (26, .pointer (some ⟨b2, 0, none⟩)), (27, .int .i64 (n : Int)), (28, .int .u64 (pw k - 1)), (29, .bool true), (30, .tuple #[.pointer (some ⟨b4, 0, none⟩), .int .i64 (n : Int), .int .u64 (pw k - 1), .bool true]), (31, .int .u8 a), (32, .int .u8 b), (33, .tuple #[.pointer (some ⟨b4, 0, none⟩), .int .i64 (n : Int), .int .u64 (pw k - 1), .bool true]), (34, .pointer (some ⟨b4, 0, none⟩)), (35, .int .i64 (n : Int)), (36, .int .u64 (pw k - 1)), (37, .bool true), (38, .bool true), (39, .bool false), (40, .bool false), (41, .bool true), (42, .bool false), (43, .bool false), (44, .slice p L cap), (45, .slice p L cap), (46, .int .i64 (L : Int)), (47, .int .i64 ((min L 40 : Nat) : Int)), (48, .slice p (min L 40) cap), (49, .slice p (min L 40) cap), (50, .int .i64 (((min L 40) : Nat) : Int)), (51, .int .i64 (i : Int))]) (fun (x : Nat × (List Int) × (List Int)) => match x with | (i, xs, ys) => fun wL => Inv w [(b1, arr .u64 xs, 24), (b2, #[.slice (some ⟨b1, 0, none⟩) n n, .int .i64 (k : Int)], 58), (b3, arr .u64 ys, 24), (b4, #[.slice (some ⟨b3, 0, none⟩) n n, .int .i64 (k : Int)], 58)] wL ∧ (i ≤ min L 40 ∧ Cn (KT rows n) (VT rows) xs n k i ∧ Cn (fun t => KT rows n (min L 40 - 1 - t)) (fun t => VT rows (min L 40 - 1 - t)) ys n k i)) (fun (x : Nat × (List Int) × (List Int)) => match x with | (i, xs, ys) => min L 40 - i) (0, List.replicate n 0, List.replicate n 0) (hf41.cons 0 rfl (hf41.cons 1 rfl (hf41.cons 2 rfl (hf41.cons 3 rfl (hf41.cons 9 rfl (hf41.cons 10 rfl (hf41.cons 11 rfl (hf41.cons 12 rfl (hf41.cons 13 rfl (hf41.cons 14 rfl (hf41.cons 15 rfl (hf41.cons 16 rfl (hf41.cons 22 rfl (hf41.cons 23 rfl (hf41.cons 24 rfl (hf41.cons 25 rfl (hf41.cons 26 rfl (hf41.cons 27 rfl (hf41.cons 28 rfl (hf41.cons 29 rfl (hf41.cons 30 rfl (hf41.cons 31 rfl (hf41.cons 32 rfl (hf41.cons 33 rfl (hf41.cons 34 rfl (hf41.cons 35 rfl (hf41.cons 36 rfl (hf41.cons 37 rfl (hf41.cons 38 rfl (hf41.cons 39 rfl (hf41.cons 40 rfl (hf41.cons 41 rfl (hf41.cons 42 rfl (hf41.cons 43 rfl (hf41.cons 44 rfl (hf41.cons 45 rfl (hf41.cons 46 rfl (hf41.cons 47 rfl (hf41.cons 48 rfl (hf41.cons 49 rfl (hf41.cons 50 rfl (hf41.cons 51 rfl hf41.nil)))))))))))))))))))))))))))))))))))))))))) ⟨hI3, ⟨Nat.zero_le _, Cn.init, Cn.init⟩⟩ ?_
  intro ⟨i, xs, ys⟩ ac42 wd3 hf42 hL1
  obtain ⟨hI4, hx1⟩ := hL1
  dsimp only at hf42 hI4 hx1
  clear ac41 wd2 hf41 hI3
  refine code_seq ?_
  refine seq_start (l := [0]) rfl ?_
  refine seq_one (op_val (v := .bool (decide ((i : Int) < (((min L 40) : Nat) : Int)))) hf42 rfl rfl rfl rfl rfl rfl (r_lss rfl rfl) fun ac43 hf43 => ?_)
  refine seq_end ?_
  clear ac42 hf42
  refine then_normal ?_
  refine code_seq ?_
  refine code_if hf43 rfl (fun c52_1 => ?_) (fun c52_1 => ?_)
  · have hf44 := hf43.know 52 (u := .bool true) rfl (congrArg Value.bool c52_1)
    refine wp_skip ?_
    refine then_normal ?_
    refine code_seq ?_
    refine wp_block ?_
    refine code_seq ?_
    refine seq_start (l := [0, 1, 2, 3, 4, 5]) rfl ?_
    refine seq_one (op_val (v := .int .i64 (i : Int)) hf44 rfl rfl rfl rfl rfl rfl (r_move rfl) fun ac44 hf45 => ?_)
    obtain ⟨kd5, ii5, nn5, hri5, hnn5, hii5, ek5, ei5, en5⟩ := op_row (i := i) ho (by have := of_decide_eq_true c52_1; omega)
    refine seq_one (op_val (v := .pointer (slAt p (i * 3))) hf45 rfl rfl rfl rfl rfl rfl (r_indexAddrR (i := i) (sz := 3) sl_22 rfl rfl rfl (by have := of_decide_eq_true c52_1; omega) rfl ⟨_, ((hr.old hI4 (fresh_keys (ks := [b1, b2, b3, b4]) rfl (fk_cons hb1 (fk_cons hb2 (fk_cons hb3 (fk_cons hb4 fk_nil)))))) _ _ hri5).choose_spec.1⟩) fun ac45 hf46 => ?_)
    refine seq_one (op_val (v := .agg #[.int .u8 kd5, .int .i64 ii5, .int .u64 nn5]) hf46 rfl rfl rfl rfl rfl rfl (r_loadRow ag_39 sz_39 rfl (hr.old hI4 (fresh_keys (ks := [b1, b2, b3, b4]) rfl (fk_cons hb1 (fk_cons hb2 (fk_cons hb3 (fk_cons hb4 fk_nil)))))) hri5 rfl) fun ac46 hf47 => ?_)
    refine seq_one (op_alloc hf47 rfl rfl rfl ze_39 hI4 fun ac47 b6 wd4 hb6 hI5 hf48 => ?_)
    have hI6 : Inv w [(b1, arr .u64 xs, 24), (b2, #[.slice (some ⟨b1, 0, none⟩) n n, .int .i64 (k : Int)], 58), (b3, arr .u64 ys, 24), (b4, #[.slice (some ⟨b3, 0, none⟩) n n, .int .i64 (k : Int)], 58), (b6, #[.int .u8 0, .int .i64 0, .int .u64 0], 39)] wd4 := hI5
    refine seq_one (op_val (v := .int .i64 (i : Int)) hf48 rfl rfl rfl rfl rfl rfl (r_assign rfl) fun ac48 hf49 => ?_)
    refine seq_one (op_storeW (cells := #[.int .u8 kd5, .int .i64 ii5, .int .u64 nn5]) 4 hf49 rfl rfl rfl rfl rfl sz_39 rfl rfl hI6 rfl rfl fun wd5 hI7 => ?_)
    have hI8 : Inv w [(b1, arr .u64 xs, 24), (b2, #[.slice (some ⟨b1, 0, none⟩) n n, .int .i64 (k : Int)], 58), (b3, arr .u64 ys, 24), (b4, #[.slice (some ⟨b3, 0, none⟩) n n, .int .i64 (k : Int)], 58), (b6, #[.int .u8 kd5, .int .i64 ii5, .int .u64 nn5], 39)] wd5 := hI7
    refine seq_end ?_
    clear hf43 ac43 hf44 ac44 hf45 ac45 hf46 ac46 wd3 hI4 hf47 hI5 ac47 hf48 wd4 hI6 hI7
    refine then_normal ?_
    refine code_seq ?_
    refine seq_start (l := [0, 1, 2, 3, 4, 5, 6, 7, 8]) rfl ?_
    refine seq_one (op_val (v := .pointer (some ⟨b6, 1, none⟩)) hf49 rfl rfl rfl rfl rfl rfl (r_fieldAddr fi_39_1 rfl rfl) fun ac49 hf50 => ?_)
    refine seq_one (op_val (v := .int .i64 ii5) hf50 rfl rfl rfl rfl rfl rfl (r_load ag_3 rfl (hI8.at 4 rfl) rfl) fun ac50 hf51 => ?_)
    refine seq_one (op_val (v := .int .i64 (n : Int)) hf51 rfl rfl rfl rfl rfl rfl (r_move rfl) fun ac51 hf52 => ?_)
    refine seq_one (op_val (v := .int .i64 (ii5.tmod n)) hf52 rfl rfl rfl rfl rfl rfl (r_rem (c := (ii5.tmod n)) rfl rfl (by omega) rfl) fun ac52 hf53 => ?_)
    refine seq_one (op_val (v := .int .i64 (n : Int)) hf53 rfl rfl rfl rfl rfl rfl (r_move rfl) fun ac53 hf54 => ?_)
    refine seq_one (op_val (v := .int .i64 ((ii5.tmod n) + n)) hf54 rfl rfl rfl rfl rfl rfl (r_add (c := ((ii5.tmod n) + n)) rfl rfl (by have := tmod_b (x := ii5) (n := (n : Int)) (by omega); exact wrap_i64 (by omega) (by omega))) fun ac54 hf55 => ?_)
    refine seq_one (op_val (v := .int .i64 (n : Int)) hf55 rfl rfl rfl rfl rfl rfl (r_move rfl) fun ac55 hf56 => ?_)
    obtain ⟨pp5, hp5, ep5⟩ := place_of (x := ii5) hn1
    refine seq_one (op_val (v := .int .i64 (pp5 : Int)) hf56 rfl rfl rfl rfl rfl rfl (r_rem (c := (pp5 : Int)) rfl rfl (by omega) ep5) fun ac56 hf57 => ?_)
    refine seq_one (op_val (v := .int .i64 (pp5 : Int)) hf57 rfl rfl rfl rfl rfl rfl (r_assign rfl) fun ac57 hf58 => ?_)
    refine seq_end ?_
    clear ac48 hf49 ac49 hf50 ac50 hf51 ac51 hf52 ac52 hf53 ac53 hf54 ac54 hf55 ac55 hf56 ac56 hf57
    refine then_normal ?_
    refine code_seq ?_
    refine seq_start (l := [0, 1, 2, 3, 4, 5, 6, 7, 8, 9]) rfl ?_
    refine seq_one (op_val (v := .slice p (min L 40) cap) hf58 rfl rfl rfl rfl rfl rfl (r_move rfl) fun ac58 hf59 => ?_)
    refine seq_one (op_val (v := .slice p (min L 40) cap) hf59 rfl rfl rfl rfl rfl rfl (r_move rfl) fun ac59 hf60 => ?_)
    refine seq_one (op_val (v := .int .i64 (((min L 40) : Nat) : Int)) hf60 rfl rfl rfl rfl rfl rfl (r_len sl_22 rfl) fun ac60 hf61 => ?_)
    refine seq_one (op_val (v := .int .i64 (((min L 40 : Nat) : Int) - 1)) hf61 rfl rfl rfl rfl rfl rfl (r_sub (c := ((min L 40 : Nat) : Int) - 1) rfl rfl (wrap_i64 (by omega) (by omega))) fun ac61 hf62 => ?_)
    refine seq_one (op_val (v := .int .i64 (i : Int)) hf62 rfl rfl rfl rfl rfl rfl (r_move rfl) fun ac62 hf63 => ?_)
    refine seq_one (op_val (v := .int .i64 ((min L 40 - 1 - i : Nat) : Int)) hf63 rfl rfl rfl rfl rfl rfl (r_sub (c := ((min L 40 - 1 - i : Nat) : Int)) rfl rfl (by have := of_decide_eq_true c52_1; rw [show ((min L 40 : Nat) : Int) - 1 - (i : Int) = ((min L 40 - 1 - i : Nat) : Int) by omega]; exact wrap_i64 (by omega) (by omega))) fun ac63 hf64 => ?_)
    obtain ⟨kd7, ii7, nn7, hri7, hnn7, hii7, ek7, ei7, en7⟩ := op_row (i := (min L 40 - 1 - i)) ho (by have := of_decide_eq_true c52_1; omega)
    refine seq_one (op_val (v := .pointer (slAt p ((min L 40 - 1 - i) * 3))) hf64 rfl rfl rfl rfl rfl rfl (r_indexAddrR (i := (min L 40 - 1 - i)) (sz := 3) sl_22 rfl rfl rfl (by have := of_decide_eq_true c52_1; omega) rfl ⟨_, ((hr.old hI8 (fresh_keys (ks := [b1, b2, b3, b4, b6]) rfl (fk_cons hb1 (fk_cons hb2 (fk_cons hb3 (fk_cons hb4 (fk_cons hb6 fk_nil))))))) _ _ hri7).choose_spec.1⟩) fun ac64 hf65 => ?_)
    refine seq_one (op_val (v := .agg #[.int .u8 kd7, .int .i64 ii7, .int .u64 nn7]) hf65 rfl rfl rfl rfl rfl rfl (r_loadRow ag_39 sz_39 rfl (hr.old hI8 (fresh_keys (ks := [b1, b2, b3, b4, b6]) rfl (fk_cons hb1 (fk_cons hb2 (fk_cons hb3 (fk_cons hb4 (fk_cons hb6 fk_nil))))))) hri7 rfl) fun ac65 hf66 => ?_)
    refine seq_one (op_alloc hf66 rfl rfl rfl ze_39 hI8 fun ac66 b8 wd6 hb8 hI9 hf67 => ?_)
    have hI10 : Inv w [(b1, arr .u64 xs, 24), (b2, #[.slice (some ⟨b1, 0, none⟩) n n, .int .i64 (k : Int)], 58), (b3, arr .u64 ys, 24), (b4, #[.slice (some ⟨b3, 0, none⟩) n n, .int .i64 (k : Int)], 58), (b6, #[.int .u8 kd5, .int .i64 ii5, .int .u64 nn5], 39), (b8, #[.int .u8 0, .int .i64 0, .int .u64 0], 39)] wd6 := hI9
    refine seq_one (op_storeW (cells := #[.int .u8 kd7, .int .i64 ii7, .int .u64 nn7]) 5 hf67 rfl rfl rfl rfl rfl sz_39 rfl rfl hI10 rfl rfl fun wd7 hI11 => ?_)
    have hI12 : Inv w [(b1, arr .u64 xs, 24), (b2, #[.slice (some ⟨b1, 0, none⟩) n n, .int .i64 (k : Int)], 58), (b3, arr .u64 ys, 24), (b4, #[.slice (some ⟨b3, 0, none⟩) n n, .int .i64 (k : Int)], 58), (b6, #[.int .u8 kd5, .int .i64 ii5, .int .u64 nn5], 39), (b8, #[.int .u8 kd7, .int .i64 ii7, .int .u64 nn7], 39)] wd7 := hI11
    refine seq_end ?_
    clear ac57 hf58 ac58 hf59 ac59 hf60 ac60 hf61 ac61 hf62 ac62 hf63 ac63 hf64 ac64 hf65 ac65 wd5 hI8 hf66 hI9 wd6 hI10 hI11
    refine then_normal ?_
    refine code_seq ?_
    refine seq_start (l := [0, 1, 2, 3, 4, 5, 6, 7, 8]) rfl ?_
    refine seq_one (op_val (v := .pointer (some ⟨b8, 1, none⟩)) hf67 rfl rfl rfl rfl rfl rfl (r_fieldAddr fi_39_1 rfl rfl) fun ac67 hf68 => ?_)
    refine seq_one (op_val (v := .int .i64 ii7) hf68 rfl rfl rfl rfl rfl rfl (r_load ag_3 rfl (hI12.at 5 rfl) rfl) fun ac68 hf69 => ?_)
    refine seq_one (op_val (v := .int .i64 (n : Int)) hf69 rfl rfl rfl rfl rfl rfl (r_move rfl) fun ac69 hf70 => ?_)
    refine seq_one (op_val (v := .int .i64 (ii7.tmod n)) hf70 rfl rfl rfl rfl rfl rfl (r_rem (c := (ii7.tmod n)) rfl rfl (by omega) rfl) fun ac70 hf71 => ?_)
    refine seq_one (op_val (v := .int .i64 (n : Int)) hf71 rfl rfl rfl rfl rfl rfl (r_move rfl) fun ac71 hf72 => ?_)
    refine seq_one (op_val (v := .int .i64 ((ii7.tmod n) + n)) hf72 rfl rfl rfl rfl rfl rfl (r_add (c := ((ii7.tmod n) + n)) rfl rfl (by have := tmod_b (x := ii7) (n := (n : Int)) (by omega); exact wrap_i64 (by omega) (by omega))) fun ac72 hf73 => ?_)
    refine seq_one (op_val (v := .int .i64 (n : Int)) hf73 rfl rfl rfl rfl rfl rfl (r_move rfl) fun ac73 hf74 => ?_)
    obtain ⟨pp7, hp7, ep7⟩ := place_of (x := ii7) hn1
    refine seq_one (op_val (v := .int .i64 (pp7 : Int)) hf74 rfl rfl rfl rfl rfl rfl (r_rem (c := (pp7 : Int)) rfl rfl (by omega) ep7) fun ac74 hf75 => ?_)
    refine seq_one (op_val (v := .int .i64 (pp7 : Int)) hf75 rfl rfl rfl rfl rfl rfl (r_assign rfl) fun ac75 hf76 => ?_)
    refine seq_end ?_
    clear ac66 hf67 ac67 hf68 ac68 hf69 ac69 hf70 ac70 hf71 ac71 hf72 ac72 hf73 ac73 hf74 ac74 hf75
    refine then_normal ?_
    refine code_seq ?_
    refine seq_start (l := [0, 1, 2, 3, 4, 5, 6, 7, 8, 9, 10, 11, 12, 13, 14, 15, 16, 17, 18, 19, 20, 21, 22, 23, 24, 25, 26, 27, 28]) rfl ?_
    refine seq_one (op_val (v := .pointer (some ⟨b2, 0, none⟩)) hf76 rfl rfl rfl rfl rfl rfl (r_move rfl) fun ac76 hf77 => ?_)
    refine seq_one (op_val (v := .int .i64 (pp5 : Int)) hf77 rfl rfl rfl rfl rfl rfl (r_move rfl) fun ac77 hf78 => ?_)
    refine seq_one (op_val (v := .pointer (some ⟨b6, 2, none⟩)) hf78 rfl rfl rfl rfl rfl rfl (r_fieldAddr fi_39_2 rfl rfl) fun ac78 hf79 => ?_)
    refine seq_one (op_val (v := .int .u64 nn5) hf79 rfl rfl rfl rfl rfl rfl (r_load ag_24 rfl (hI12.at 4 rfl) rfl) fun ac79 hf80 => ?_)
    refine seq_one (op_call (R := fun v w' => v = .int .i64 0 ∧ Inv _ [(b1, arr .u64 (xs.set pp5 ((xs.getD pp5 0 + nn5) % pw k)), 24), (b2, #[.slice (some ⟨b1, 0, none⟩) n n, .int .i64 (k : Int)], 58)] w') hf80 rfl rfl rfl rfl ca_16 ((add_in (n := n) (k := k) (j := pp5) hx1.2.1.len hp5 hk1 hk2 (hI12.ne (i := 0) (j := 1) rfl rfl (by decide)) (Has.cons (hI12.at 0 rfl) (Has.cons (hI12.at 1 rfl) Has.nil))).mono fun _ _ h => ⟨_, h.1, rfl, h.2⟩) fun ac80 v wd8 hR9 hf81 => ?_)
    obtain ⟨rfl, hR9⟩ := hR9
    have hI13 : Inv w [(b1, arr .u64 (xs.set pp5 ((xs.getD pp5 0 + nn5) % pw k)), 24), (b2, #[.slice (some ⟨b1, 0, none⟩) n n, .int .i64 (k : Int)], 58), (b3, arr .u64 ys, 24), (b4, #[.slice (some ⟨b3, 0, none⟩) n n, .int .i64 (k : Int)], 58), (b6, #[.int .u8 kd5, .int .i64 ii5, .int .u64 nn5], 39), (b8, #[.int .u8 kd7, .int .i64 ii7, .int .u64 nn7], 39)] _ := Inv.callS (A := []) (S := [(b1, arr .u64 xs, 24), (b2, #[.slice (some ⟨b1, 0, none⟩) n n, .int .i64 (k : Int)], 58)]) (S' := [(b1, arr .u64 (xs.set pp5 ((xs.getD pp5 0 + nn5) % pw k)), 24), (b2, #[.slice (some ⟨b1, 0, none⟩) n n, .int .i64 (k : Int)], 58)]) (L := [(b3, arr .u64 ys, 24), (b4, #[.slice (some ⟨b3, 0, none⟩) n n, .int .i64 (k : Int)], 58), (b6, #[.int .u8 kd5, .int .i64 ii5, .int .u64 nn5], 39), (b8, #[.int .u8 kd7, .int .i64 ii7, .int .u64 nn7], 39)]) (N := []) hI12 hR9 rfl (fun _ h => by cases h)
    refine seq_one (op_val (v := .bool false) hf81 rfl rfl rfl rfl rfl rfl (r_neqC rfl rfl (by decide)) fun ac81 hf82 => ?_)
    refine seq_one (op_val (v := .bool false) hf82 rfl rfl rfl rfl rfl rfl (r_move rfl) fun ac82 hf83 => ?_)
    refine seq_one (op_val (v := .pointer (some ⟨b4, 0, none⟩)) hf83 rfl rfl rfl rfl rfl rfl (r_move rfl) fun ac83 hf84 => ?_)
    refine seq_one (op_val (v := .int .i64 (pp7 : Int)) hf84 rfl rfl rfl rfl rfl rfl (r_move rfl) fun ac84 hf85 => ?_)
    refine seq_one (op_val (v := .pointer (some ⟨b8, 2, none⟩)) hf85 rfl rfl rfl rfl rfl rfl (r_fieldAddr fi_39_2 rfl rfl) fun ac85 hf86 => ?_)
    refine seq_one (op_val (v := .int .u64 nn7) hf86 rfl rfl rfl rfl rfl rfl (r_load ag_24 rfl (hI13.at 5 rfl) rfl) fun ac86 hf87 => ?_)
    refine seq_one (op_val (v := .pointer (some ⟨b8, 2, none⟩)) hf87 rfl rfl rfl rfl rfl rfl (r_fieldAddr fi_39_2 rfl rfl) fun ac87 hf88 => ?_)
    refine seq_one (op_val (v := .int .u64 nn7) hf88 rfl rfl rfl rfl rfl rfl (r_load ag_24 rfl (hI13.at 5 rfl) rfl) fun ac88 hf89 => ?_)
    refine seq_one (op_val (v := .int .u64 ct) hf89 rfl rfl rfl rfl rfl rfl (r_move rfl) fun ac89 hf90 => ?_)
    obtain ⟨an, han⟩ : ∃ x, IntKind.wrap .u64 (BitVec.ofInt IntKind.u64.bits nn7 &&& BitVec.ofInt IntKind.u64.bits ct).toNat = x := ⟨_, rfl⟩
    refine seq_one (op_val (v := .int .u64 an) hf90 rfl rfl rfl rfl rfl rfl (r_and (c := an) rfl rfl han) fun ac90 hf91 => ?_)
    refine seq_one (op_val (v := .int .u64 (IntKind.wrap .u64 (nn7 - an))) hf91 rfl rfl rfl rfl rfl rfl (r_sub rfl rfl rfl) fun ac91 hf92 => ?_)
    refine seq_one (op_call (R := fun v w' => v = .int .i64 0 ∧ Inv _ [(b3, arr .u64 (ys.set pp7 ((ys.getD pp7 0 + (IntKind.wrap .u64 (nn7 - an))) % pw k)), 24), (b4, #[.slice (some ⟨b3, 0, none⟩) n n, .int .i64 (k : Int)], 58)] w') hf92 rfl rfl rfl rfl ca_16 ((add_in (n := n) (k := k) (j := pp7) hx1.2.2.len hp7 hk1 hk2 (hI13.ne (i := 2) (j := 3) rfl rfl (by decide)) (Has.cons (hI13.at 2 rfl) (Has.cons (hI13.at 3 rfl) Has.nil))).mono fun _ _ h => ⟨_, h.1, rfl, h.2⟩) fun ac92 v wd9 hR10 hf93 => ?_)
    obtain ⟨rfl, hR10⟩ := hR10
    have hI14 : Inv w [(b1, arr .u64 (xs.set pp5 ((xs.getD pp5 0 + nn5) % pw k)), 24), (b2, #[.slice (some ⟨b1, 0, none⟩) n n, .int .i64 (k : Int)], 58), (b3, arr .u64 (ys.set pp7 ((ys.getD pp7 0 + (IntKind.wrap .u64 (nn7 - an))) % pw k)), 24), (b4, #[.slice (some ⟨b3, 0, none⟩) n n, .int .i64 (k : Int)], 58), (b6, #[.int .u8 kd5, .int .i64 ii5, .int .u64 nn5], 39), (b8, #[.int .u8 kd7, .int .i64 ii7, .int .u64 nn7], 39)] _ := Inv.callS (A := [(b1, arr .u64 (xs.set pp5 ((xs.getD pp5 0 + nn5) % pw k)), 24), (b2, #[.slice (some ⟨b1, 0, none⟩) n n, .int .i64 (k : Int)], 58)]) (S := [(b3, arr .u64 ys, 24), (b4, #[.slice (some ⟨b3, 0, none⟩) n n, .int .i64 (k : Int)], 58)]) (S' := [(b3, arr .u64 (ys.set pp7 ((ys.getD pp7 0 + (IntKind.wrap .u64 (nn7 - an))) % pw k)), 24), (b4, #[.slice (some ⟨b3, 0, none⟩) n n, .int .i64 (k : Int)], 58)]) (L := [(b6, #[.int .u8 kd5, .int .i64 ii5, .int .u64 nn5], 39), (b8, #[.int .u8 kd7, .int .i64 ii7, .int .u64 nn7], 39)]) (N := []) hI13 hR10 rfl (fun _ h => by cases h)
    refine seq_one (op_val (v := .bool false) hf93 rfl rfl rfl rfl rfl rfl (r_neqC rfl rfl (by decide)) fun ac93 hf94 => ?_)
    refine seq_one (op_val (v := .bool false) hf94 rfl rfl rfl rfl rfl rfl (r_pickF rfl rfl) fun ac94 hf95 => ?_)
    refine seq_one (op_val (v := .bool false) hf95 rfl rfl rfl rfl rfl rfl (r_move rfl) fun ac95 hf96 => ?_)
    refine seq_one (op_val (v := .pointer (some ⟨b4, 0, none⟩)) hf96 rfl rfl rfl rfl rfl rfl (r_move rfl) fun ac96 hf97 => ?_)
    refine seq_one (op_val (v := .int .i64 (pp7 : Int)) hf97 rfl rfl rfl rfl rfl rfl (r_move rfl) fun ac97 hf98 => ?_)
    refine seq_one (op_val (v := .pointer (some ⟨b8, 2, none⟩)) hf98 rfl rfl rfl rfl rfl rfl (r_fieldAddr fi_39_2 rfl rfl) fun ac98 hf99 => ?_)
    refine seq_one (op_val (v := .int .u64 nn7) hf99 rfl rfl rfl rfl rfl rfl (r_load ag_24 rfl (hI14.at 5 rfl) rfl) fun ac99 hf100 => ?_)
    refine seq_one (op_val (v := .int .u64 ct) hf100 rfl rfl rfl rfl rfl rfl (r_move rfl) fun ac100 hf101 => ?_)
    refine seq_one (op_val (v := .int .u64 an) hf101 rfl rfl rfl rfl rfl rfl (r_and (c := an) rfl rfl han) fun ac101 hf102 => ?_)
    refine seq_one (op_call (R := fun v w' => v = .int .i64 0 ∧ Inv _ [(b3, arr .u64 ((ys.set pp7 ((ys.getD pp7 0 + (IntKind.wrap .u64 (nn7 - an))) % pw k)).set pp7 (((ys.set pp7 ((ys.getD pp7 0 + (IntKind.wrap .u64 (nn7 - an))) % pw k)).getD pp7 0 + an) % pw k)), 24), (b4, #[.slice (some ⟨b3, 0, none⟩) n n, .int .i64 (k : Int)], 58)] w') hf102 rfl rfl rfl rfl ca_16 ((add_in (n := n) (k := k) (j := pp7) (by rw [List.length_set]; exact hx1.2.2.len) hp7 hk1 hk2 (hI14.ne (i := 2) (j := 3) rfl rfl (by decide)) (Has.cons (hI14.at 2 rfl) (Has.cons (hI14.at 3 rfl) Has.nil))).mono fun _ _ h => ⟨_, h.1, rfl, h.2⟩) fun ac102 v wd10 hR11 hf103 => ?_)
    obtain ⟨rfl, hR11⟩ := hR11
    have hI15 : Inv w [(b1, arr .u64 (xs.set pp5 ((xs.getD pp5 0 + nn5) % pw k)), 24), (b2, #[.slice (some ⟨b1, 0, none⟩) n n, .int .i64 (k : Int)], 58), (b3, arr .u64 ((ys.set pp7 ((ys.getD pp7 0 + (IntKind.wrap .u64 (nn7 - an))) % pw k)).set pp7 (((ys.set pp7 ((ys.getD pp7 0 + (IntKind.wrap .u64 (nn7 - an))) % pw k)).getD pp7 0 + an) % pw k)), 24), (b4, #[.slice (some ⟨b3, 0, none⟩) n n, .int .i64 (k : Int)], 58), (b6, #[.int .u8 kd5, .int .i64 ii5, .int .u64 nn5], 39), (b8, #[.int .u8 kd7, .int .i64 ii7, .int .u64 nn7], 39)] _ := Inv.callS (A := [(b1, arr .u64 (xs.set pp5 ((xs.getD pp5 0 + nn5) % pw k)), 24), (b2, #[.slice (some ⟨b1, 0, none⟩) n n, .int .i64 (k : Int)], 58)]) (S := [(b3, arr .u64 (ys.set pp7 ((ys.getD pp7 0 + (IntKind.wrap .u64 (nn7 - an))) % pw k)), 24), (b4, #[.slice (some ⟨b3, 0, none⟩) n n, .int .i64 (k : Int)], 58)]) (S' := [(b3, arr .u64 ((ys.set pp7 ((ys.getD pp7 0 + (IntKind.wrap .u64 (nn7 - an))) % pw k)).set pp7 (((ys.set pp7 ((ys.getD pp7 0 + (IntKind.wrap .u64 (nn7 - an))) % pw k)).getD pp7 0 + an) % pw k)), 24), (b4, #[.slice (some ⟨b3, 0, none⟩) n n, .int .i64 (k : Int)], 58)]) (L := [(b6, #[.int .u8 kd5, .int .i64 ii5, .int .u64 nn5], 39), (b8, #[.int .u8 kd7, .int .i64 ii7, .int .u64 nn7], 39)]) (N := []) hI14 hR11 rfl (fun _ h => by cases h)
    refine seq_one (op_val (v := .bool false) hf103 rfl rfl rfl rfl rfl rfl (r_neqC rfl rfl (by decide)) fun ac103 hf104 => ?_)
    refine seq_one (op_val (v := .bool false) hf104 rfl rfl rfl rfl rfl rfl (r_pickF rfl rfl) fun ac104 hf105 => ?_)
    refine seq_end ?_
    clear ac75 hf76 ac76 hf77 ac77 hf78 ac78 hf79 ac79 wd7 hf80 hI12 hR9 ac80 hf81 ac81 hf82 ac82 hf83 ac83 hf84 ac84 hf85 ac85 hf86 ac86 hf87 ac87 hf88 ac88 hf89 ac89 hf90 ac90 hf91 ac91 wd8 hf92 hI13 hR10 ac92 hf93 ac93 hf94 ac94 hf95 ac95 hf96 ac96 hf97 ac97 hf98 ac98 hf99 ac99 hf100 ac100 hf101 ac101 wd9 hf102 hI14 hR11 ac102 hf103 ac103 hf104
    refine then_normal ?_
    refine code_if_false hf105 rfl ?_
    refine wp_skip ?_
    refine block_normal ?_
    refine then_normal ?_
    refine seq_start (l := [0, 1]) rfl ?_
    refine seq_one (op_val (v := .int .i64 ((i + 1 : Nat) : Int)) hf105 rfl rfl rfl rfl rfl rfl (r_add (c := ((i + 1 : Nat) : Int)) rfl rfl (wrap_i64 (by omega) (by have := hx1.1; omega))) fun ac105 hf106 => ?_)
    refine seq_one (op_val (v := .int .i64 ((i + 1 : Nat) : Int)) hf106 rfl rfl rfl rfl rfl rfl (r_move rfl) fun ac106 hf107 => ?_)
    refine seq_end ?_
    clear ac104 hf105 ac105 hf106
    refine then_normal ?_
    exact ⟨(i + 1, (xs.set pp5 ((xs.getD pp5 0 + nn5) % pw k)), ((ys.set pp7 ((ys.getD pp7 0 + (IntKind.wrap .u64 (nn7 - an))) % pw k)).set pp7 (((ys.set pp7 ((ys.getD pp7 0 + (IntKind.wrap .u64 (nn7 - an))) % pw k)).getD pp7 0 + an) % pw k))), (hf107.cons 0 rfl (hf107.cons 1 rfl (hf107.cons 2 rfl (hf107.cons 3 rfl (hf107.cons 9 rfl (hf107.cons 10 rfl (hf107.cons 11 rfl (hf107.cons 12 rfl (hf107.cons 13 rfl (hf107.cons 14 rfl (hf107.cons 15 rfl (hf107.cons 16 rfl (hf107.cons 22 rfl (hf107.cons 23 rfl (hf107.cons 24 rfl (hf107.cons 25 rfl (hf107.cons 26 rfl (hf107.cons 27 rfl (hf107.cons 28 rfl (hf107.cons 29 rfl (hf107.cons 30 rfl (hf107.cons 31 rfl (hf107.cons 32 rfl (hf107.cons 33 rfl (hf107.cons 34 rfl (hf107.cons 35 rfl (hf107.cons 36 rfl (hf107.cons 37 rfl (hf107.cons 38 rfl (hf107.cons 39 rfl (hf107.cons 40 rfl (hf107.cons 41 rfl (hf107.cons 42 rfl (hf107.cons 43 rfl (hf107.cons 44 rfl (hf107.cons 45 rfl (hf107.cons 46 rfl (hf107.cons 47 rfl (hf107.cons 48 rfl (hf107.cons 49 rfl (hf107.cons 50 rfl (hf107.cons 51 rfl hf107.nil)))))))))))))))))))))))))))))))))))))))))), ⟨(Inv.drop (A := [(b1, arr .u64 (xs.set pp5 ((xs.getD pp5 0 + nn5) % pw k)), 24), (b2, #[.slice (some ⟨b1, 0, none⟩) n n, .int .i64 (k : Int)], 58), (b3, arr .u64 ((ys.set pp7 ((ys.getD pp7 0 + (IntKind.wrap .u64 (nn7 - an))) % pw k)).set pp7 (((ys.set pp7 ((ys.getD pp7 0 + (IntKind.wrap .u64 (nn7 - an))) % pw k)).getD pp7 0 + an) % pw k)), 24), (b4, #[.slice (some ⟨b3, 0, none⟩) n n, .int .i64 (k : Int)], 58)]) (B := [(b6, #[.int .u8 kd5, .int .i64 ii5, .int .u64 nn5], 39), (b8, #[.int .u8 kd7, .int .i64 ii7, .int .u64 nn7], 39)]) hI15 (fresh_keys (ks := [b6, b8]) rfl (fk_cons hb6 (fk_cons hb8 fk_nil)))), ⟨by have := of_decide_eq_true c52_1; omega, (hx1.2.1.add (p := pp5) (by show ((rowI (rows.getD i [])).tmod n + n).tmod n = _; rw [ei5]; exact ep5) hp5 (by show _ = rowN (rows.getD i []) % pw k; rw [en5])), (by rw [set_twice hx1.2.2.len hp7]; exact hx1.2.2.add (p := pp7) (by show ((rowI (rows.getD (min L 40 - 1 - i) [])).tmod n + n).tmod n = _; rw [ei7]; exact ep7) hp7 (by show _ = rowN (rows.getD (min L 40 - 1 - i) []) % pw k; rw [en7, ← Int.emod_add_emod, wrap_mod hk1 hk2, Int.emod_add_emod]; congr 1; omega))⟩⟩, (by have := of_decide_eq_true c52_1; show min L 40 - (i + 1) < min L 40 - i; omega)⟩
  · have hf108 := hf43.know 52 (u := .bool false) rfl (congrArg Value.bool c52_1)
    refine wp_exit ?_
    refine then_exit ?_
    refine then_exit ?_
    refine block_here ?_
    refine then_normal ?_
    refine code_seq ?_
    refine seq_start (l := [0, 1, 2, 3, 4, 5, 6, 7, 8, 9, 10, 11, 12, 13, 14, 15]) rfl ?_
    refine seq_one (op_val (v := .pointer (some ⟨b2, 0, none⟩)) hf108 rfl rfl rfl rfl rfl rfl (r_move rfl) fun ac107 hf109 => ?_)
    refine seq_one (op_call (R := fun v w' => ∃ b m, Array.size (World.heap _) ≤ b ∧ n + m ≤ maxLen ∧ v = .slice (some ⟨b, 0, none⟩) n (n + m) ∧ Inv _ [(b, arr .u64 (xs ++ List.replicate m 0), 24)] w') hf109 rfl rfl rfl rfl ca_20 ((all_walk hx1.2.1.len hn1 hn2 (hI4.ne (i := 0) (j := 1) rfl rfl (by decide)) (Has.cons (hI4.at 0 rfl) (Has.cons (hI4.at 1 rfl) Has.nil))).mono fun e w' ⟨b, m, h1, h2, h3, h4⟩ => ⟨_, h3, b, m, h1, h2, rfl, h4⟩) fun ac108 v wd11 hR hf110 => ?_)
    obtain ⟨b5, m5, hqb5, hm5, rfl, hwb5⟩ := hR
    have hb5 := Nat.le_trans hI4.size hqb5
    have hI16 : Inv w [(b1, arr .u64 xs, 24), (b2, #[.slice (some ⟨b1, 0, none⟩) n n, .int .i64 (k : Int)], 58), (b3, arr .u64 ys, 24), (b4, #[.slice (some ⟨b3, 0, none⟩) n n, .int .i64 (k : Int)], 58), (b5, arr .u64 (xs ++ List.replicate m5 0), 24)] _ := hI4.callN hwb5 (fun x hx => by simp only [List.mem_singleton] at hx; subst hx; exact hqb5)
    refine seq_one (op_val (v := .pointer (some ⟨b4, 0, none⟩)) hf110 rfl rfl rfl rfl rfl rfl (r_move rfl) fun ac109 hf111 => ?_)
    refine seq_one (op_call (R := fun v w' => ∃ b m, Array.size (World.heap _) ≤ b ∧ n + m ≤ maxLen ∧ v = .slice (some ⟨b, 0, none⟩) n (n + m) ∧ Inv _ [(b, arr .u64 (ys ++ List.replicate m 0), 24)] w') hf111 rfl rfl rfl rfl ca_20 ((all_walk hx1.2.2.len hn1 hn2 (hI16.ne (i := 2) (j := 3) rfl rfl (by decide)) (Has.cons (hI16.at 2 rfl) (Has.cons (hI16.at 3 rfl) Has.nil))).mono fun e w' ⟨b, m, h1, h2, h3, h4⟩ => ⟨_, h3, b, m, h1, h2, rfl, h4⟩) fun ac110 v wd12 hR hf112 => ?_)
    obtain ⟨b6, m6, hqb6, hm6, rfl, hwb6⟩ := hR
    have hb6 := Nat.le_trans hI16.size hqb6
    have hI17 : Inv w [(b1, arr .u64 xs, 24), (b2, #[.slice (some ⟨b1, 0, none⟩) n n, .int .i64 (k : Int)], 58), (b3, arr .u64 ys, 24), (b4, #[.slice (some ⟨b3, 0, none⟩) n n, .int .i64 (k : Int)], 58), (b5, arr .u64 (xs ++ List.replicate m5 0), 24), (b6, arr .u64 (ys ++ List.replicate m6 0), 24)] _ := hI16.callN hwb6 (fun x hx => by simp only [List.mem_singleton] at hx; subst hx; exact hqb6)
    refine seq_one (op_pureW hf112 rfl rfl rfl rfl ca_15 (same_walk (xs := xs) (ys := ys) hx1.2.1.len hx1.2.2.len (by omega) (Rd.blk (xs := xs) (hI17.at 4 rfl) arr_take2) (Rd.blk (xs := ys) (hI17.at 5 rfl) arr_take2)) hI17 fun ac111 wd13 hI18 hf113 => ?_)
    refine seq_one (op_val (v := .bool (xs == ys)) hf113 rfl rfl rfl rfl rfl rfl (r_move rfl) fun ac112 hf114 => ?_)
    have ei : i = min L 40 := by have := of_decide_eq_false c52_1; have := hx1.1; omega
    rw [ei] at hx1
    have hf115 := hf114.know 115 (u := .bool true) rfl (congrArg Value.bool (turned_eq hx1.2.1 hx1.2.2))
    refine seq_one (op_val (v := .pointer (some ⟨b2, 0, none⟩)) hf115 rfl rfl rfl rfl rfl rfl (r_move rfl) fun ac113 hf116 => ?_)
    refine seq_one (op_call (R := fun v w' => ∃ b m, Array.size (World.heap _) ≤ b ∧ n + m ≤ maxLen ∧ v = .slice (some ⟨b, 0, none⟩) n (n + m) ∧ Inv _ [(b, arr .u64 (xs ++ List.replicate m 0), 24)] w') hf116 rfl rfl rfl rfl ca_20 ((all_walk hx1.2.1.len hn1 hn2 (hI18.ne (i := 0) (j := 1) rfl rfl (by decide)) (Has.cons (hI18.at 0 rfl) (Has.cons (hI18.at 1 rfl) Has.nil))).mono fun e w' ⟨b, m, h1, h2, h3, h4⟩ => ⟨_, h3, b, m, h1, h2, rfl, h4⟩) fun ac114 v wd14 hR hf117 => ?_)
    obtain ⟨b7, m7, hqb7, hm7, rfl, hwb7⟩ := hR
    have hb7 := Nat.le_trans hI18.size hqb7
    have hI19 : Inv w [(b1, arr .u64 xs, 24), (b2, #[.slice (some ⟨b1, 0, none⟩) n n, .int .i64 (k : Int)], 58), (b3, arr .u64 ys, 24), (b4, #[.slice (some ⟨b3, 0, none⟩) n n, .int .i64 (k : Int)], 58), (b5, arr .u64 (xs ++ List.replicate m5 0), 24), (b6, arr .u64 (ys ++ List.replicate m6 0), 24), (b7, arr .u64 (xs ++ List.replicate m7 0), 24)] _ := hI18.callN hwb7 (fun x hx => by simp only [List.mem_singleton] at hx; subst hx; exact hqb7)
    refine seq_one (op_val (v := .int .i64 (n : Int)) hf117 rfl rfl rfl rfl rfl rfl (r_len sl_23 rfl) fun ac115 hf118 => ?_)
    refine seq_one (op_val (v := .int .i64 (n : Int)) hf118 rfl rfl rfl rfl rfl rfl (r_move rfl) fun ac116 hf119 => ?_)
    refine seq_one (op_val (v := .bool ((n : Int) == (n : Int))) hf119 rfl rfl rfl rfl rfl rfl (r_eql rfl rfl) fun ac117 hf120 => ?_)
    refine seq_one (op_val (v := .bool ((n : Int) == (n : Int))) hf120 rfl rfl rfl rfl rfl rfl (r_pickT rfl rfl) fun ac118 hf121 => ?_)
    refine seq_one (op_val (v := .bool ((n : Int) == (n : Int))) hf121 rfl rfl rfl rfl rfl rfl (r_move rfl) fun ac119 hf122 => ?_)
    have hf123 := hf122.know 122 (u := .bool true) rfl (congrArg Value.bool (beq_self_eq_true _))
    refine seq_one (op_pure hf123 rfl rfl rfl rfl ca_13 awake_pur hI19 fun ac120 wd15 hI20 hf124 => ?_)
    refine seq_one (op_val (v := .bool true) hf124 rfl rfl rfl rfl rfl rfl (r_pickT rfl rfl) fun ac121 hf125 => ?_)
    refine seq_one (op_val (v := .bool true) hf125 rfl rfl rfl rfl rfl rfl (r_assign rfl) fun ac122 hf126 => ?_)
    refine seq_end ?_
    clear hf43 ac43 hf108 ac107 wd3 hf109 hI4 hwb5 hqb5 ac108 hf110 ac109 wd11 hf111 hI16 hwb6 hqb6 ac110 wd12 hI17 hf112 ac111 hf113 hf114 ac112 hf115 ac113 wd13 hf116 hI18 hwb7 hqb7 ac114 hf117 ac115 hf118 ac116 hf119 ac117 hf120 ac118 hf121 hf122 ac119 wd14 hI19 hf123 ac120 hf124 ac121 hf125
    refine then_normal ?_
    refine wp_ret ?_
    refine post1 rfl hf126 rfl ⟨?_, hI20.done (fresh_keys (ks := [b1, b2, b3, b4, b5, b6, b7]) rfl (fk_cons hb1 (fk_cons hb2 (fk_cons hb3 (fk_cons hb4 (fk_cons hb5 (fk_cons hb6 (fk_cons hb7 fk_nil))))))))⟩
    rfl
end Go.Proofs.Ytohkdjaobdgenaa
