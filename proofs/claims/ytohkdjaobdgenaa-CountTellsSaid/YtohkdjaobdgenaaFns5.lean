/-
  Since of count: what each call comes to.
-/
import Derived.Test.YtohkdjaobdgenaaFns4
namespace Go.Proofs.Ytohkdjaobdgenaa
set_option linter.unusedVariables false
set_option linter.unusedSimpArgs false
set_option maxRecDepth 100000
open Go.RowKit
set_option maxHeartbeats 8000000 in
theorem since_ok {lb cb : Nat} {xs : List Int} {n k : Nat} (hl : xs.length = n) {q : Option Addr} {m caq : Nat} {ws : List Int} (hw : ws.length = m) (hm : m = n) (hn2 : n ≤ 256) (hok : ∀ j, j < n → (aheadF (xs.getD j 0) (ws.getD j 0) (k : Int)).2 = 0) (hne : lb ≠ cb) {w : World} (h0_ : Has [(lb, arr .u64 xs, 24), (cb, #[.slice (some ⟨lb, 0, none⟩) n n, .int .i64 (k : Int)], 58)] w) (hq : Rd w .u64 q ws) : Calls Try.prog 18 [.pointer (some ⟨cb, 0, none⟩), .slice q m caq].toArray w fun e w' => ∃ S p cap, e = .returned (.tuple #[.slice p (sinceL xs ws k n).length cap, .int .i64 0]) ∧ Sl 24 .u64 S p cap (sinceL xs ws k n) ∧ Inv w S w' ∧ ∀ x ∈ S, w.heap.size ≤ x.1 := by
  have hI1 := Inv.startS h0_ (by simp [hne])
  refine enter (n := 53) Try.func18 rfl rfl rfl ?_
  intro ac1 hf1
  refine code_seq ?_
  refine seq_start (l := [0, 1]) rfl ?_
  refine seq_one (op_val (v := .slice none 0 0) hf1 rfl rfl rfl rfl rfl rfl (r_assign rfl) fun ac2 hf2 => ?_)
  refine seq_one (op_val (v := .int .i64 0) hf2 rfl rfl rfl rfl rfl rfl (r_assign rfl) fun ac3 hf3 => ?_)
  refine seq_end ?_
  clear ac1 hf1 ac2 hf2
  refine then_normal ?_
  refine code_seq ?_
  refine code_seq ?_
  refine seq_start (l := [0, 1]) rfl ?_
  refine seq_one (op_val (v := .pointer (some ⟨cb, 0, none⟩)) hf3 rfl rfl rfl rfl rfl rfl (r_move rfl) fun ac4 hf4 => ?_)
  refine seq_one (op_pureW hf4 rfl rfl rfl rfl ca_25 (none_walk hl (hI1.ne (i := 0) (j := 1) rfl rfl (by decide)) (Has.cons (hI1.at 0 rfl) (Has.cons (hI1.at 1 rfl) Has.nil))) hI1 fun ac5 wd1 hI2 hf5 => ?_)
  refine seq_end ?_
  clear ac3 hf3 ac4 hI1 hf4
  refine then_normal ?_
  refine code_if_false hf5 rfl ?_
  refine wp_skip ?_
  refine then_normal ?_
  refine code_seq ?_
  refine code_seq ?_
  refine seq_start (l := [0, 1, 2, 3, 4, 5, 6, 7]) rfl ?_
  refine seq_one (op_val (v := .slice q m caq) hf5 rfl rfl rfl rfl rfl rfl (r_move rfl) fun ac6 hf6 => ?_)
  refine seq_one (op_val (v := .int .i64 (m : Int)) hf6 rfl rfl rfl rfl rfl rfl (r_len sl_23 rfl) fun ac7 hf7 => ?_)
  refine seq_one (op_val (v := .pointer (some ⟨cb, 0, none⟩)) hf7 rfl rfl rfl rfl rfl rfl (r_move rfl) fun ac8 hf8 => ?_)
  refine seq_one (op_val (v := .pointer (some ⟨cb, 0, none⟩)) hf8 rfl rfl rfl rfl rfl rfl (r_nilCheck rfl) fun ac9 hf9 => ?_)
  refine seq_one (op_val (v := .pointer (some ⟨cb, 0, none⟩)) hf9 rfl rfl rfl rfl rfl rfl (r_fieldAddr fi_58_0 rfl rfl) fun ac10 hf10 => ?_)
  refine seq_one (op_val (v := .slice (some ⟨lb, 0, none⟩) n n) hf10 rfl rfl rfl rfl rfl rfl (r_load ag_23 rfl (hI2.at 1 rfl) rfl) fun ac11 hf11 => ?_)
  refine seq_one (op_val (v := .int .i64 (n : Int)) hf11 rfl rfl rfl rfl rfl rfl (r_len sl_23 rfl) fun ac12 hf12 => ?_)
  refine seq_one (op_val (v := .bool ((m : Int) != (n : Int))) hf12 rfl rfl rfl rfl rfl rfl (r_neq rfl rfl) fun ac13 hf13 => ?_)
  refine seq_end ?_
  clear ac5 hf5 ac6 hf6 ac7 hf7 ac8 hf8 ac9 hf9 ac10 hf10 ac11 hf11 ac12 hf12
  refine then_normal ?_
  have hf14 := hf13.know 20 (u := .bool false) rfl (congrArg Value.bool (bne_eq_false_iff_eq.2 (by rw [hm])))
  refine code_if_false hf14 rfl ?_
  refine wp_skip ?_
  refine then_normal ?_
  refine code_seq ?_
  refine seq_start (l := [0]) rfl ?_
  refine seq_one (op_val (v := .slice none 0 0) hf14 rfl rfl rfl rfl rfl rfl (r_assign rfl) fun ac14 hf15 => ?_)
  refine seq_end ?_
  clear hf13 ac13 hf14
  refine then_normal ?_
  refine code_seq ?_
  refine code_seq ?_
  refine seq_start (l := [0, 1, 2, 3, 4, 5]) rfl ?_
  refine seq_one (op_val (v := .pointer (some ⟨cb, 0, none⟩)) hf15 rfl rfl rfl rfl rfl rfl (r_move rfl) fun ac15 hf16 => ?_)
  refine seq_one (op_val (v := .pointer (some ⟨cb, 0, none⟩)) hf16 rfl rfl rfl rfl rfl rfl (r_nilCheck rfl) fun ac16 hf17 => ?_)
  refine seq_one (op_val (v := .pointer (some ⟨cb, 0, none⟩)) hf17 rfl rfl rfl rfl rfl rfl (r_fieldAddr fi_58_0 rfl rfl) fun ac17 hf18 => ?_)
  refine seq_one (op_val (v := .slice (some ⟨lb, 0, none⟩) n n) hf18 rfl rfl rfl rfl rfl rfl (r_load ag_23 rfl (hI2.at 1 rfl) rfl) fun ac18 hf19 => ?_)
  refine seq_one (op_val (v := .int .i64 (n : Int)) hf19 rfl rfl rfl rfl rfl rfl (r_len sl_23 rfl) fun ac19 hf20 => ?_)
  refine seq_one (op_val (v := .int .i64 0) hf20 rfl rfl rfl rfl rfl rfl (r_move rfl) fun ac20 hf21 => ?_)
  refine seq_end ?_
  clear ac14 hf15 ac15 hf16 ac16 hf17 ac17 hf18 ac18 hf19 ac19 hf20
  refine then_normal ?_
  refine wp_block ?_
  refine code_loop (α := Nat × (Option Addr) × Nat × (List Blk)) (fun (x : Nat × (Option Addr) × Nat × (List Blk)) => match x with | (i, p, cap, S) => [(0, .pointer (some ⟨cb, 0, none⟩)), (1, .slice q m caq), (11, .pointer (some ⟨cb, 0, none⟩)), (12, .bool false), (13, .slice q m caq), (14, .int .i64 (m : Int)), (15, .pointer (some ⟨cb, 0, none⟩)), (16, .pointer (some ⟨cb, 0, none⟩)), (17, .pointer (some ⟨cb, 0, none⟩)), (18, .slice (some ⟨lb, 0, none⟩) n n), (19, .int .i64 (n : Int)), (20, .bool false), (21, .pointer (some ⟨cb, 0, none⟩)), (22, .pointer (some ⟨cb, 0, none⟩)), (23, .pointer (some ⟨cb, 0, none⟩)), (24, .slice (some ⟨lb, 0, none⟩) n n), (25, .int .i64 (n : Int)), (6, .slice p ((sinceL xs ws k i).length) cap), (26, .int .i64 (i : Int))]) (fun (x : Nat × (Option Addr) × Nat × (List Blk)) => match x with | (i, p, cap, S) => fun wL => Inv w ([(lb, arr .u64 xs, 24), (cb, #[.slice (some ⟨lb, 0, none⟩) n n, .int .i64 (k : Int)], 58)] ++ S) wL ∧ (Sl 24 .u64 S p cap (sinceL xs ws k i) ∧ (∀ x ∈ S, w.heap.size ≤ x.1) ∧ i ≤ n)) (fun (x : Nat × (Option Addr) × Nat × (List Blk)) => match x with | (i, p, cap, S) => n - i) (0, none, 0, []) (hf21.cons 0 rfl (hf21.cons 1 rfl (hf21.cons 11 rfl (hf21.cons 12 rfl (hf21.cons 13 rfl (hf21.cons 14 rfl (hf21.cons 15 rfl (hf21.cons 16 rfl (hf21.cons 17 rfl (hf21.cons 18 rfl (hf21.cons 19 rfl (hf21.cons 20 rfl (hf21.cons 21 rfl (hf21.cons 22 rfl (hf21.cons 23 rfl (hf21.cons 24 rfl (hf21.cons 25 rfl (hf21.cons 6 rfl (hf21.cons 26 rfl hf21.nil))))))))))))))))))) ⟨hI2, ⟨Sl.nil, (fun _ h => by cases h), Nat.zero_le _⟩⟩ ?_
  intro ⟨i, p, cap, S⟩ ac21 wd2 hf22 hL1
  obtain ⟨hI3, hx1⟩ := hL1
  dsimp only at hf22 hI3 hx1
  clear ac20 wd1 hf21 hI2
  obtain ⟨hs1, hz1, hi1⟩ := hx1
  refine code_seq ?_
  refine seq_start (l := [0]) rfl ?_
  refine seq_one (op_val (v := .bool (decide ((i : Int) < (n : Int)))) hf22 rfl rfl rfl rfl rfl rfl (r_lss rfl rfl) fun ac22 hf23 => ?_)
  refine seq_end ?_
  clear ac21 hf22
  refine then_normal ?_
  refine code_seq ?_
  refine code_if hf23 rfl (fun c27_1 => ?_) (fun c27_1 => ?_)
  · have hf24 := hf23.know 27 (u := .bool true) rfl (congrArg Value.bool c27_1)
    refine wp_skip ?_
    refine then_normal ?_
    refine code_seq ?_
    refine wp_block ?_
    refine code_seq ?_
    refine seq_start (l := [0, 1, 2, 3, 4]) rfl ?_
    refine seq_one (op_val (v := .int .i64 (i : Int)) hf24 rfl rfl rfl rfl rfl rfl (r_move rfl) fun ac23 hf25 => ?_)
    refine seq_one (op_val (v := .pointer (some ⟨lb, i, none⟩)) hf25 rfl rfl rfl rfl rfl rfl (r_indexAddrS (i := i) sl_23 rfl rfl rfl (by have := of_decide_eq_true c27_1; omega) (by rw [Nat.mul_one, Nat.zero_add])) fun ac24 hf26 => ?_)
    refine seq_one (op_val (v := .int .u64 (xs.getD i 0)) hf26 rfl rfl rfl rfl rfl rfl (r_load ag_24 rfl (hI3.at 0 rfl) (arr_get (Nat.lt_of_lt_of_eq (by have := of_decide_eq_true c27_1; omega) (Eq.symm hl)))) fun ac25 hf27 => ?_)
    refine seq_one (op_val (v := .int .i64 (i : Int)) hf27 rfl rfl rfl rfl rfl rfl (r_assign rfl) fun ac26 hf28 => ?_)
    refine seq_one (op_val (v := .int .u64 (xs.getD i 0)) hf28 rfl rfl rfl rfl rfl rfl (r_assign rfl) fun ac27 hf29 => ?_)
    refine seq_end ?_
    clear hf23 ac22 hf24 ac23 hf25 ac24 hf26 ac25 hf27 ac26 hf28
    refine then_normal ?_
    refine code_seq ?_
    refine any_start (fun w => Has [(cb, #[.slice (some ⟨lb, 0, none⟩) n n, .int .i64 (k : Int)], 58)] w) follows (Has.drew (Has.cons (hI3.at 1 rfl) Has.nil)) ?_
    have hS1 : Has [(cb, #[.slice (some ⟨lb, 0, none⟩) n n, .int .i64 (k : Int)], 58)] _ := Has.drew (Has.cons (hI3.at 1 rfl) Has.nil)
    have hI4 := hI3.drew
    refine any_val (i := 0) (v := .int .u64 (xs.getD i 0)) hf29 rfl rfl rfl rfl rfl rfl (fun _ _ _ h => h) (by kernel_rfl) (by kernel_rfl) (by kernel_rfl) (fun wd2 hS1 => (r_move rfl)) hS1 fun ac28 hf30 => ?_
    refine any_val (i := 1) (v := .slice q m caq) hf30 rfl rfl rfl rfl rfl rfl (fun _ _ _ h => h) (by kernel_rfl) (by kernel_rfl) (by kernel_rfl) (fun wd2 hS1 => (r_move rfl)) hS1 fun ac29 hf31 => ?_
    refine any_val (i := 2) (v := .int .i64 (i : Int)) hf31 rfl rfl rfl rfl rfl rfl (fun _ _ _ h => h) (by kernel_rfl) (by kernel_rfl) (by kernel_rfl) (fun wd2 hS1 => (r_move rfl)) hS1 fun ac30 hf32 => ?_
    refine any_val (i := 3) (v := .pointer (slAt q i)) hf32 rfl rfl rfl rfl rfl rfl (fun _ _ _ h => h) (by kernel_rfl) (by kernel_rfl) (by kernel_rfl) (fun wd2 hS1 => (r_indexAddrV (i := i) sl_23 rfl rfl rfl (by have := of_decide_eq_true c27_1; omega) (let r := (Rd.kept (A := [(lb, arr .u64 xs, 24), (cb, #[.slice (some ⟨lb, 0, none⟩) n n, .int .i64 (k : Int)], 58)]) (T := S) hq h0_ hI4 hz1) i (by have := of_decide_eq_true c27_1; omega); ⟨r.choose, r.choose_spec.1⟩))) hS1 fun ac31 hf33 => ?_
    refine any_val (i := 5) (v := .pointer (some ⟨cb, 0, none⟩)) hf33 rfl rfl rfl rfl rfl rfl (fun _ _ _ h => h) (by kernel_rfl) (by kernel_rfl) (by kernel_rfl) (fun wd2 hS1 => (r_move rfl)) hS1 fun ac32 hf34 => ?_
    refine any_val (i := 6) (v := .pointer (some ⟨cb, 0, none⟩)) hf34 rfl rfl rfl rfl rfl rfl (fun _ _ _ h => h) (by kernel_rfl) (by kernel_rfl) (by kernel_rfl) (fun wd2 hS1 => (r_nilCheck rfl)) hS1 fun ac33 hf35 => ?_
    refine any_val (i := 7) (v := .pointer (some ⟨cb, 1, none⟩)) hf35 rfl rfl rfl rfl rfl rfl (fun _ _ _ h => h) (by kernel_rfl) (by kernel_rfl) (by kernel_rfl) (fun wd2 hS1 => (r_fieldAddr fi_58_1 rfl rfl)) hS1 fun ac34 hf36 => ?_
    refine any_val (i := 8) (v := .int .i64 (k : Int)) hf36 rfl rfl rfl rfl rfl rfl (fun _ _ _ h => h) (by kernel_rfl) (by kernel_rfl) (by kernel_rfl) (fun wd2 hS1 => (r_load ag_3 rfl (hS1.at 0 rfl) rfl)) hS1 fun ac35 hf37 => ?_
    refine any_one (i := 4) (by kernel_rfl) ?_
    refine op_val (v := .int .u64 (ws.getD i 0)) hf37 rfl rfl rfl rfl rfl rfl (r_loadV ag_24 rfl (Rd.kept (A := [(lb, arr .u64 xs, 24), (cb, #[.slice (some ⟨lb, 0, none⟩) n n, .int .i64 (k : Int)], 58)]) (T := S) hq h0_ hI4 hz1) (by have := of_decide_eq_true c27_1; omega)) fun ac36 hf38 => ⟨?_, ?_⟩
    · exact (Has.cons (hI4.at 1 rfl) Has.nil)
    have hS2 : Has [(cb, #[.slice (some ⟨lb, 0, none⟩) n n, .int .i64 (k : Int)], 58)] _ := (Has.cons (hI4.at 1 rfl) Has.nil)
    refine any_one (i := 9) (by kernel_rfl) ?_
    refine (op_pure hf38 rfl rfl rfl rfl ca_9 (ahead_pur (xs.getD i 0) (ws.getD i 0) (k : Int)) hI4 fun ac37 wd3 hI5 hf39 => ⟨?_, ?_⟩)
    · exact (Has.cons (hI5.at 1 rfl) Has.nil)
    have hS3 : Has [(cb, #[.slice (some ⟨lb, 0, none⟩) n n, .int .i64 (k : Int)], 58)] _ := (Has.cons (hI5.at 1 rfl) Has.nil)
    refine any_val (i := 10) (v := .tuple #[.int .u64 ((aheadF (xs.getD i 0) (ws.getD i 0) (k : Int)).1), .int .i64 ((aheadF (xs.getD i 0) (ws.getD i 0) (k : Int)).2)]) hf39 rfl rfl rfl rfl rfl rfl (fun _ _ _ h => h) (by kernel_rfl) (by kernel_rfl) (by kernel_rfl) (fun wd3 hS3 => (r_move rfl)) hS3 fun ac38 hf40 => ?_
    refine any_val (i := 11) (v := .int .u64 ((aheadF (xs.getD i 0) (ws.getD i 0) (k : Int)).1)) hf40 rfl rfl rfl rfl rfl rfl (fun _ _ _ h => h) (by kernel_rfl) (by kernel_rfl) (by kernel_rfl) (fun wd3 hS3 => (r_extract rfl rfl)) hS3 fun ac39 hf41 => ?_
    refine any_val (i := 12) (v := .int .i64 ((aheadF (xs.getD i 0) (ws.getD i 0) (k : Int)).2)) hf41 rfl rfl rfl rfl rfl rfl (fun _ _ _ h => h) (by kernel_rfl) (by kernel_rfl) (by kernel_rfl) (fun wd3 hS3 => (r_extract rfl rfl)) hS3 fun ac40 hf42 => ?_
    refine any_val (i := 13) (v := .int .u64 ((aheadF (xs.getD i 0) (ws.getD i 0) (k : Int)).1)) hf42 rfl rfl rfl rfl rfl rfl (fun _ _ _ h => h) (by kernel_rfl) (by kernel_rfl) (by kernel_rfl) (fun wd3 hS3 => (r_assign rfl)) hS3 fun ac41 hf43 => ?_
    refine any_val (i := 14) (v := .int .i64 ((aheadF (xs.getD i 0) (ws.getD i 0) (k : Int)).2)) hf43 rfl rfl rfl rfl rfl rfl (fun _ _ _ h => h) (by kernel_rfl) (by kernel_rfl) (by kernel_rfl) (fun wd3 hS3 => (r_assign rfl)) hS3 fun ac42 hf44 => ?_
    refine any_end (by kernel_rfl) ?_
    clear hI3 ac27 hf29 ac28 hf30 ac29 hf31 ac30 hf32 ac31 hf33 ac32 hf34 ac33 hf35 ac34 hf36 ac35 hf37 hS1 ac36 wd2 hI4 hf38 hS2 ac37 hf39 ac38 hf40 ac39 hf41 ac40 hf42 ac41 hf43 hS3
    refine then_normal ?_
    refine code_seq ?_
    refine code_seq ?_
    refine seq_start (l := [0, 1]) rfl ?_
    refine seq_one (op_val (v := .int .i64 ((aheadF (xs.getD i 0) (ws.getD i 0) (k : Int)).2)) hf44 rfl rfl rfl rfl rfl rfl (r_move rfl) fun ac43 hf45 => ?_)
    refine seq_one (op_val (v := .bool (((aheadF (xs.getD i 0) (ws.getD i 0) (k : Int)).2) != 0)) hf45 rfl rfl rfl rfl rfl rfl (r_neq rfl rfl) fun ac44 hf46 => ?_)
    refine seq_end ?_
    clear ac42 hf44 ac43 hf45
    refine then_normal ?_
    have h45 : (aheadF (xs.getD i 0) (ws.getD i 0) (k : Int)).2 = 0 := hok i (by have := of_decide_eq_true c27_1; omega)
    have hf47 := hf46.know 45 (u := .bool false) rfl (congrArg Value.bool (bne_eq_false_iff_eq.2 h45))
    refine code_if_false hf47 rfl ?_
    refine wp_skip ?_
    refine then_normal ?_
    refine seq_start (l := [0, 1, 2, 3, 4]) rfl ?_
    refine seq_one (op_val (v := .slice p ((sinceL xs ws k i).length) cap) hf47 rfl rfl rfl rfl rfl rfl (r_move rfl) fun ac45 hf48 => ?_)
    refine seq_one (op_val (v := .int .u64 ((aheadF (xs.getD i 0) (ws.getD i 0) (k : Int)).1)) hf48 rfl rfl rfl rfl rfl rfl (r_move rfl) fun ac46 hf49 => ?_)
    refine seq_one (op_bslice (s := 24) (cells := #[.int .u64 ((aheadF (xs.getD i 0) (ws.getD i 0) (k : Int)).1)]) hf49 rfl rfl rfl rfl rfl (fun _ => by kernel_rfl) hI5 fun ac47 b1 wd4 hb1 hI6 hf50 => ?_)
    have hI7 : Inv w ([(lb, arr .u64 xs, 24), (cb, #[.slice (some ⟨lb, 0, none⟩) n n, .int .i64 (k : Int)], 58), (b1, #[.int .u64 ((aheadF (xs.getD i 0) (ws.getD i 0) (k : Int)).1)], 24)] ++ S) wd4 := Inv.tail (A := [(lb, arr .u64 xs, 24), (cb, #[.slice (some ⟨lb, 0, none⟩) n n, .int .i64 (k : Int)], 58)]) (T := S) (N := [(b1, #[.int .u64 ((aheadF (xs.getD i 0) (ws.getD i 0) (k : Int)).1)], 24)]) hI6
    refine seq_one (op_append1 (A := [(lb, arr .u64 xs, 24), (cb, #[.slice (some ⟨lb, 0, none⟩) n n, .int .i64 (k : Int)], 58), (b1, #[.int .u64 ((aheadF (xs.getD i 0) (ws.getD i 0) (k : Int)).1)], 24)]) (S := S) hf50 rfl rfl rfl us_23 if_24 rfl hs1 rfl hI7 hz1 (List.mem_of_getElem? (i := 2) rfl) rfl (by rw [since_len]; simp only [maxLen]; omega) (by rw [since_len]; omega) fun ac48 p2 capp2 Sp2 wd5 hsp2 hzp2 hI8 hf51 => ?_)
    rw [← since_app h45] at hsp2 hf51
    refine seq_one (op_val (v := .slice p2 ((sinceL xs ws k (i + 1)).length) capp2) hf51 rfl rfl rfl rfl rfl rfl (r_assign rfl) fun ac49 hf52 => ?_)
    refine seq_end ?_
    clear hf46 ac44 hf47 ac45 hf48 ac46 wd3 hI5 hf49 hI6 ac47 wd4 hI7 hf50 ac48 hf51
    refine block_normal ?_
    refine then_normal ?_
    refine seq_start (l := [0, 1]) rfl ?_
    refine seq_one (op_val (v := .int .i64 ((i + 1 : Nat) : Int)) hf52 rfl rfl rfl rfl rfl rfl (r_add (c := ((i + 1 : Nat) : Int)) rfl rfl (wrap_i64 (by omega) (by omega))) fun ac50 hf53 => ?_)
    refine seq_one (op_val (v := .int .i64 ((i + 1 : Nat) : Int)) hf53 rfl rfl rfl rfl rfl rfl (r_move rfl) fun ac51 hf54 => ?_)
    refine seq_end ?_
    clear ac49 hf52 ac50 hf53
    refine then_normal ?_
    exact ⟨(i + 1, p2, capp2, Sp2), (hf54.cons 0 rfl (hf54.cons 1 rfl (hf54.cons 11 rfl (hf54.cons 12 rfl (hf54.cons 13 rfl (hf54.cons 14 rfl (hf54.cons 15 rfl (hf54.cons 16 rfl (hf54.cons 17 rfl (hf54.cons 18 rfl (hf54.cons 19 rfl (hf54.cons 20 rfl (hf54.cons 21 rfl (hf54.cons 22 rfl (hf54.cons 23 rfl (hf54.cons 24 rfl (hf54.cons 25 rfl (hf54.cons 6 rfl (hf54.cons 26 rfl hf54.nil))))))))))))))))))), ⟨(Inv.keep (A := [(lb, arr .u64 xs, 24), (cb, #[.slice (some ⟨lb, 0, none⟩) n n, .int .i64 (k : Int)], 58)]) (N := [(b1, #[.int .u64 ((aheadF (xs.getD i 0) (ws.getD i 0) (k : Int)).1)], 24)]) (T := Sp2) hI8 (fresh_keys (ks := [b1]) rfl (fk_cons hb1 fk_nil))), ⟨hsp2, hzp2, by have := of_decide_eq_true c27_1; omega⟩⟩, (by have := of_decide_eq_true c27_1; show n - (i + 1) < n - i; omega)⟩
  · have hf55 := hf23.know 27 (u := .bool false) rfl (congrArg Value.bool c27_1)
    refine wp_exit ?_
    refine then_exit ?_
    refine then_exit ?_
    refine block_here ?_
    refine then_normal ?_
    refine code_seq ?_
    refine seq_start (l := [0, 1, 2]) rfl ?_
    refine seq_one (op_val (v := .slice p ((sinceL xs ws k i).length) cap) hf55 rfl rfl rfl rfl rfl rfl (r_move rfl) fun ac52 hf56 => ?_)
    refine seq_one (op_val (v := .slice p ((sinceL xs ws k i).length) cap) hf56 rfl rfl rfl rfl rfl rfl (r_assign rfl) fun ac53 hf57 => ?_)
    refine seq_one (op_val (v := .int .i64 0) hf57 rfl rfl rfl rfl rfl rfl (r_assign rfl) fun ac54 hf58 => ?_)
    refine seq_end ?_
    clear hf23 ac22 hf55 ac52 hf56 ac53 hf57
    refine then_normal ?_
    refine wp_ret ?_
    have en : n = i := by have := of_decide_eq_false c27_1; omega
    subst en
    exact post2 rfl hf58 rfl rfl ⟨S, p, cap, rfl, hs1, Inv.unreadA (A := [(lb, arr .u64 xs, 24), (cb, #[.slice (some ⟨lb, 0, none⟩) n n, .int .i64 (k : Int)], 58)]) (B := S) hI3 h0_, hz1⟩
set_option maxHeartbeats 8000000 in
theorem since_bad {lb cb : Nat} {xs : List Int} {n k : Nat} (hl : xs.length = n) {q : Option Addr} {m caq : Nat} {ws : List Int} (hw : ws.length = m) (hm : m = n) (hn2 : n ≤ 256) (hbad : ∃ j, j < n ∧ (aheadF (xs.getD j 0) (ws.getD j 0) (k : Int)).2 ≠ 0) (hne : lb ≠ cb) {w : World} (h0_ : Has [(lb, arr .u64 xs, 24), (cb, #[.slice (some ⟨lb, 0, none⟩) n n, .int .i64 (k : Int)], 58)] w) (hq : Rd w .u64 q ws) : Calls Try.prog 18 [.pointer (some ⟨cb, 0, none⟩), .slice q m caq].toArray w fun e w' => e = .returned (.tuple #[.slice none 0 0, .int .i64 2]) ∧ Inv w [] w' := by
  have hI1 := Inv.startS h0_ (by simp [hne])
  refine enter (n := 53) Try.func18 rfl rfl rfl ?_
  intro ac1 hf1
  refine code_seq ?_
  refine seq_start (l := [0, 1]) rfl ?_
  refine seq_one (op_val (v := .slice none 0 0) hf1 rfl rfl rfl rfl rfl rfl (r_assign rfl) fun ac2 hf2 => ?_)
  refine seq_one (op_val (v := .int .i64 0) hf2 rfl rfl rfl rfl rfl rfl (r_assign rfl) fun ac3 hf3 => ?_)
  refine seq_end ?_
  clear ac1 hf1 ac2 hf2
  refine then_normal ?_
  refine code_seq ?_
  refine code_seq ?_
  refine seq_start (l := [0, 1]) rfl ?_
  refine seq_one (op_val (v := .pointer (some ⟨cb, 0, none⟩)) hf3 rfl rfl rfl rfl rfl rfl (r_move rfl) fun ac4 hf4 => ?_)
  refine seq_one (op_pureW hf4 rfl rfl rfl rfl ca_25 (none_walk hl (hI1.ne (i := 0) (j := 1) rfl rfl (by decide)) (Has.cons (hI1.at 0 rfl) (Has.cons (hI1.at 1 rfl) Has.nil))) hI1 fun ac5 wd1 hI2 hf5 => ?_)
  refine seq_end ?_
  clear ac3 hf3 ac4 hI1 hf4
  refine then_normal ?_
  refine code_if_false hf5 rfl ?_
  refine wp_skip ?_
  refine then_normal ?_
  refine code_seq ?_
  refine code_seq ?_
  refine seq_start (l := [0, 1, 2, 3, 4, 5, 6, 7]) rfl ?_
  refine seq_one (op_val (v := .slice q m caq) hf5 rfl rfl rfl rfl rfl rfl (r_move rfl) fun ac6 hf6 => ?_)
  refine seq_one (op_val (v := .int .i64 (m : Int)) hf6 rfl rfl rfl rfl rfl rfl (r_len sl_23 rfl) fun ac7 hf7 => ?_)
  refine seq_one (op_val (v := .pointer (some ⟨cb, 0, none⟩)) hf7 rfl rfl rfl rfl rfl rfl (r_move rfl) fun ac8 hf8 => ?_)
  refine seq_one (op_val (v := .pointer (some ⟨cb, 0, none⟩)) hf8 rfl rfl rfl rfl rfl rfl (r_nilCheck rfl) fun ac9 hf9 => ?_)
  refine seq_one (op_val (v := .pointer (some ⟨cb, 0, none⟩)) hf9 rfl rfl rfl rfl rfl rfl (r_fieldAddr fi_58_0 rfl rfl) fun ac10 hf10 => ?_)
  refine seq_one (op_val (v := .slice (some ⟨lb, 0, none⟩) n n) hf10 rfl rfl rfl rfl rfl rfl (r_load ag_23 rfl (hI2.at 1 rfl) rfl) fun ac11 hf11 => ?_)
  refine seq_one (op_val (v := .int .i64 (n : Int)) hf11 rfl rfl rfl rfl rfl rfl (r_len sl_23 rfl) fun ac12 hf12 => ?_)
  refine seq_one (op_val (v := .bool ((m : Int) != (n : Int))) hf12 rfl rfl rfl rfl rfl rfl (r_neq rfl rfl) fun ac13 hf13 => ?_)
  refine seq_end ?_
  clear ac5 hf5 ac6 hf6 ac7 hf7 ac8 hf8 ac9 hf9 ac10 hf10 ac11 hf11 ac12 hf12
  refine then_normal ?_
  have hf14 := hf13.know 20 (u := .bool false) rfl (congrArg Value.bool (bne_eq_false_iff_eq.2 (by rw [hm])))
  refine code_if_false hf14 rfl ?_
  refine wp_skip ?_
  refine then_normal ?_
  refine code_seq ?_
  refine seq_start (l := [0]) rfl ?_
  refine seq_one (op_val (v := .slice none 0 0) hf14 rfl rfl rfl rfl rfl rfl (r_assign rfl) fun ac14 hf15 => ?_)
  refine seq_end ?_
  clear hf13 ac13 hf14
  refine then_normal ?_
  refine code_seq ?_
  refine code_seq ?_
  refine seq_start (l := [0, 1, 2, 3, 4, 5]) rfl ?_
  refine seq_one (op_val (v := .pointer (some ⟨cb, 0, none⟩)) hf15 rfl rfl rfl rfl rfl rfl (r_move rfl) fun ac15 hf16 => ?_)
  refine seq_one (op_val (v := .pointer (some ⟨cb, 0, none⟩)) hf16 rfl rfl rfl rfl rfl rfl (r_nilCheck rfl) fun ac16 hf17 => ?_)
  refine seq_one (op_val (v := .pointer (some ⟨cb, 0, none⟩)) hf17 rfl rfl rfl rfl rfl rfl (r_fieldAddr fi_58_0 rfl rfl) fun ac17 hf18 => ?_)
  refine seq_one (op_val (v := .slice (some ⟨lb, 0, none⟩) n n) hf18 rfl rfl rfl rfl rfl rfl (r_load ag_23 rfl (hI2.at 1 rfl) rfl) fun ac18 hf19 => ?_)
  refine seq_one (op_val (v := .int .i64 (n : Int)) hf19 rfl rfl rfl rfl rfl rfl (r_len sl_23 rfl) fun ac19 hf20 => ?_)
  refine seq_one (op_val (v := .int .i64 0) hf20 rfl rfl rfl rfl rfl rfl (r_move rfl) fun ac20 hf21 => ?_)
  refine seq_end ?_
  clear ac14 hf15 ac15 hf16 ac16 hf17 ac17 hf18 ac18 hf19 ac19 hf20
  refine then_normal ?_
  refine wp_block ?_
  refine code_loop (α := Nat × (Option Addr) × Nat × (List Blk)) (fun (x : Nat × (Option Addr) × Nat × (List Blk)) => match x with | (i, p, cap, S) => [(0, .pointer (some ⟨cb, 0, none⟩)), (1, .slice q m caq), (11, .pointer (some ⟨cb, 0, none⟩)), (12, .bool false), (13, .slice q m caq), (14, .int .i64 (m : Int)), (15, .pointer (some ⟨cb, 0, none⟩)), (16, .pointer (some ⟨cb, 0, none⟩)), (17, .pointer (some ⟨cb, 0, none⟩)), (18, .slice (some ⟨lb, 0, none⟩) n n), (19, .int .i64 (n : Int)), (20, .bool false), (21, .pointer (some ⟨cb, 0, none⟩)), (22, .pointer (some ⟨cb, 0, none⟩)), (23, .pointer (some ⟨cb, 0, none⟩)), (24, .slice (some ⟨lb, 0, none⟩) n n), (25, .int .i64 (n : Int)), (6, .slice p ((sinceL xs ws k i).length) cap), (26, .int .i64 (i : Int))]) (fun (x : Nat × (Option Addr) × Nat × (List Blk)) => match x with | (i, p, cap, S) => fun wL => Inv w ([(lb, arr .u64 xs, 24), (cb, #[.slice (some ⟨lb, 0, none⟩) n n, .int .i64 (k : Int)], 58)] ++ S) wL ∧ (Sl 24 .u64 S p cap (sinceL xs ws k i) ∧ (∀ x ∈ S, w.heap.size ≤ x.1) ∧ i ≤ n ∧ (∀ j, j < i → (aheadF (xs.getD j 0) (ws.getD j 0) (k : Int)).2 = 0))) (fun (x : Nat × (Option Addr) × Nat × (List Blk)) => match x with | (i, p, cap, S) => n - i) (0, none, 0, []) (hf21.cons 0 rfl (hf21.cons 1 rfl (hf21.cons 11 rfl (hf21.cons 12 rfl (hf21.cons 13 rfl (hf21.cons 14 rfl (hf21.cons 15 rfl (hf21.cons 16 rfl (hf21.cons 17 rfl (hf21.cons 18 rfl (hf21.cons 19 rfl (hf21.cons 20 rfl (hf21.cons 21 rfl (hf21.cons 22 rfl (hf21.cons 23 rfl (hf21.cons 24 rfl (hf21.cons 25 rfl (hf21.cons 6 rfl (hf21.cons 26 rfl hf21.nil))))))))))))))))))) ⟨hI2, ⟨Sl.nil, (fun _ h => by cases h), Nat.zero_le _, fun j h => absurd h (Nat.not_lt_zero j)⟩⟩ ?_
  intro ⟨i, p, cap, S⟩ ac21 wd2 hf22 hL1
  obtain ⟨hI3, hx1⟩ := hL1
  dsimp only at hf22 hI3 hx1
  clear ac20 wd1 hf21 hI2
  obtain ⟨hs1, hz1, hi1, ho1⟩ := hx1
  refine code_seq ?_
  refine seq_start (l := [0]) rfl ?_
  refine seq_one (op_val (v := .bool (decide ((i : Int) < (n : Int)))) hf22 rfl rfl rfl rfl rfl rfl (r_lss rfl rfl) fun ac22 hf23 => ?_)
  refine seq_end ?_
  clear ac21 hf22
  refine then_normal ?_
  refine code_seq ?_
  refine code_if hf23 rfl (fun c27_1 => ?_) (fun c27_1 => ?_)
  · have hf24 := hf23.know 27 (u := .bool true) rfl (congrArg Value.bool c27_1)
    refine wp_skip ?_
    refine then_normal ?_
    refine code_seq ?_
    refine wp_block ?_
    refine code_seq ?_
    refine seq_start (l := [0, 1, 2, 3, 4]) rfl ?_
    refine seq_one (op_val (v := .int .i64 (i : Int)) hf24 rfl rfl rfl rfl rfl rfl (r_move rfl) fun ac23 hf25 => ?_)
    refine seq_one (op_val (v := .pointer (some ⟨lb, i, none⟩)) hf25 rfl rfl rfl rfl rfl rfl (r_indexAddrS (i := i) sl_23 rfl rfl rfl (by have := of_decide_eq_true c27_1; omega) (by rw [Nat.mul_one, Nat.zero_add])) fun ac24 hf26 => ?_)
    refine seq_one (op_val (v := .int .u64 (xs.getD i 0)) hf26 rfl rfl rfl rfl rfl rfl (r_load ag_24 rfl (hI3.at 0 rfl) (arr_get (Nat.lt_of_lt_of_eq (by have := of_decide_eq_true c27_1; omega) (Eq.symm hl)))) fun ac25 hf27 => ?_)
    refine seq_one (op_val (v := .int .i64 (i : Int)) hf27 rfl rfl rfl rfl rfl rfl (r_assign rfl) fun ac26 hf28 => ?_)
    refine seq_one (op_val (v := .int .u64 (xs.getD i 0)) hf28 rfl rfl rfl rfl rfl rfl (r_assign rfl) fun ac27 hf29 => ?_)
    refine seq_end ?_
    clear hf23 ac22 hf24 ac23 hf25 ac24 hf26 ac25 hf27 ac26 hf28
    refine then_normal ?_
    refine code_seq ?_
    refine any_start (fun w => Has [(cb, #[.slice (some ⟨lb, 0, none⟩) n n, .int .i64 (k : Int)], 58)] w) follows (Has.drew (Has.cons (hI3.at 1 rfl) Has.nil)) ?_
    have hS1 : Has [(cb, #[.slice (some ⟨lb, 0, none⟩) n n, .int .i64 (k : Int)], 58)] _ := Has.drew (Has.cons (hI3.at 1 rfl) Has.nil)
    have hI4 := hI3.drew
    refine any_val (i := 0) (v := .int .u64 (xs.getD i 0)) hf29 rfl rfl rfl rfl rfl rfl (fun _ _ _ h => h) (by kernel_rfl) (by kernel_rfl) (by kernel_rfl) (fun wd2 hS1 => (r_move rfl)) hS1 fun ac28 hf30 => ?_
    refine any_val (i := 1) (v := .slice q m caq) hf30 rfl rfl rfl rfl rfl rfl (fun _ _ _ h => h) (by kernel_rfl) (by kernel_rfl) (by kernel_rfl) (fun wd2 hS1 => (r_move rfl)) hS1 fun ac29 hf31 => ?_
    refine any_val (i := 2) (v := .int .i64 (i : Int)) hf31 rfl rfl rfl rfl rfl rfl (fun _ _ _ h => h) (by kernel_rfl) (by kernel_rfl) (by kernel_rfl) (fun wd2 hS1 => (r_move rfl)) hS1 fun ac30 hf32 => ?_
    refine any_val (i := 3) (v := .pointer (slAt q i)) hf32 rfl rfl rfl rfl rfl rfl (fun _ _ _ h => h) (by kernel_rfl) (by kernel_rfl) (by kernel_rfl) (fun wd2 hS1 => (r_indexAddrV (i := i) sl_23 rfl rfl rfl (by have := of_decide_eq_true c27_1; omega) (let r := (Rd.kept (A := [(lb, arr .u64 xs, 24), (cb, #[.slice (some ⟨lb, 0, none⟩) n n, .int .i64 (k : Int)], 58)]) (T := S) hq h0_ hI4 hz1) i (by have := of_decide_eq_true c27_1; omega); ⟨r.choose, r.choose_spec.1⟩))) hS1 fun ac31 hf33 => ?_
    refine any_val (i := 5) (v := .pointer (some ⟨cb, 0, none⟩)) hf33 rfl rfl rfl rfl rfl rfl (fun _ _ _ h => h) (by kernel_rfl) (by kernel_rfl) (by kernel_rfl) (fun wd2 hS1 => (r_move rfl)) hS1 fun ac32 hf34 => ?_
    refine any_val (i := 6) (v := .pointer (some ⟨cb, 0, none⟩)) hf34 rfl rfl rfl rfl rfl rfl (fun _ _ _ h => h) (by kernel_rfl) (by kernel_rfl) (by kernel_rfl) (fun wd2 hS1 => (r_nilCheck rfl)) hS1 fun ac33 hf35 => ?_
    refine any_val (i := 7) (v := .pointer (some ⟨cb, 1, none⟩)) hf35 rfl rfl rfl rfl rfl rfl (fun _ _ _ h => h) (by kernel_rfl) (by kernel_rfl) (by kernel_rfl) (fun wd2 hS1 => (r_fieldAddr fi_58_1 rfl rfl)) hS1 fun ac34 hf36 => ?_
    refine any_val (i := 8) (v := .int .i64 (k : Int)) hf36 rfl rfl rfl rfl rfl rfl (fun _ _ _ h => h) (by kernel_rfl) (by kernel_rfl) (by kernel_rfl) (fun wd2 hS1 => (r_load ag_3 rfl (hS1.at 0 rfl) rfl)) hS1 fun ac35 hf37 => ?_
    refine any_one (i := 4) (by kernel_rfl) ?_
    refine op_val (v := .int .u64 (ws.getD i 0)) hf37 rfl rfl rfl rfl rfl rfl (r_loadV ag_24 rfl (Rd.kept (A := [(lb, arr .u64 xs, 24), (cb, #[.slice (some ⟨lb, 0, none⟩) n n, .int .i64 (k : Int)], 58)]) (T := S) hq h0_ hI4 hz1) (by have := of_decide_eq_true c27_1; omega)) fun ac36 hf38 => ⟨?_, ?_⟩
    · exact (Has.cons (hI4.at 1 rfl) Has.nil)
    have hS2 : Has [(cb, #[.slice (some ⟨lb, 0, none⟩) n n, .int .i64 (k : Int)], 58)] _ := (Has.cons (hI4.at 1 rfl) Has.nil)
    refine any_one (i := 9) (by kernel_rfl) ?_
    refine (op_pure hf38 rfl rfl rfl rfl ca_9 (ahead_pur (xs.getD i 0) (ws.getD i 0) (k : Int)) hI4 fun ac37 wd3 hI5 hf39 => ⟨?_, ?_⟩)
    · exact (Has.cons (hI5.at 1 rfl) Has.nil)
    have hS3 : Has [(cb, #[.slice (some ⟨lb, 0, none⟩) n n, .int .i64 (k : Int)], 58)] _ := (Has.cons (hI5.at 1 rfl) Has.nil)
    refine any_val (i := 10) (v := .tuple #[.int .u64 ((aheadF (xs.getD i 0) (ws.getD i 0) (k : Int)).1), .int .i64 ((aheadF (xs.getD i 0) (ws.getD i 0) (k : Int)).2)]) hf39 rfl rfl rfl rfl rfl rfl (fun _ _ _ h => h) (by kernel_rfl) (by kernel_rfl) (by kernel_rfl) (fun wd3 hS3 => (r_move rfl)) hS3 fun ac38 hf40 => ?_
    refine any_val (i := 11) (v := .int .u64 ((aheadF (xs.getD i 0) (ws.getD i 0) (k : Int)).1)) hf40 rfl rfl rfl rfl rfl rfl (fun _ _ _ h => h) (by kernel_rfl) (by kernel_rfl) (by kernel_rfl) (fun wd3 hS3 => (r_extract rfl rfl)) hS3 fun ac39 hf41 => ?_
    refine any_val (i := 12) (v := .int .i64 ((aheadF (xs.getD i 0) (ws.getD i 0) (k : Int)).2)) hf41 rfl rfl rfl rfl rfl rfl (fun _ _ _ h => h) (by kernel_rfl) (by kernel_rfl) (by kernel_rfl) (fun wd3 hS3 => (r_extract rfl rfl)) hS3 fun ac40 hf42 => ?_
    refine any_val (i := 13) (v := .int .u64 ((aheadF (xs.getD i 0) (ws.getD i 0) (k : Int)).1)) hf42 rfl rfl rfl rfl rfl rfl (fun _ _ _ h => h) (by kernel_rfl) (by kernel_rfl) (by kernel_rfl) (fun wd3 hS3 => (r_assign rfl)) hS3 fun ac41 hf43 => ?_
    refine any_val (i := 14) (v := .int .i64 ((aheadF (xs.getD i 0) (ws.getD i 0) (k : Int)).2)) hf43 rfl rfl rfl rfl rfl rfl (fun _ _ _ h => h) (by kernel_rfl) (by kernel_rfl) (by kernel_rfl) (fun wd3 hS3 => (r_assign rfl)) hS3 fun ac42 hf44 => ?_
    refine any_end (by kernel_rfl) ?_
    clear hI3 ac27 hf29 ac28 hf30 ac29 hf31 ac30 hf32 ac31 hf33 ac32 hf34 ac33 hf35 ac34 hf36 ac35 hf37 hS1 ac36 wd2 hI4 hf38 hS2 ac37 hf39 ac38 hf40 ac39 hf41 ac40 hf42 ac41 hf43 hS3
    refine then_normal ?_
    refine code_seq ?_
    refine code_seq ?_
    refine seq_start (l := [0, 1]) rfl ?_
    refine seq_one (op_val (v := .int .i64 ((aheadF (xs.getD i 0) (ws.getD i 0) (k : Int)).2)) hf44 rfl rfl rfl rfl rfl rfl (r_move rfl) fun ac43 hf45 => ?_)
    refine seq_one (op_val (v := .bool (((aheadF (xs.getD i 0) (ws.getD i 0) (k : Int)).2) != 0)) hf45 rfl rfl rfl rfl rfl rfl (r_neq rfl rfl) fun ac44 hf46 => ?_)
    refine seq_end ?_
    clear ac42 hf44 ac43 hf45
    refine then_normal ?_
    refine code_if hf46 rfl (fun c45_2 => ?_) (fun c45_2 => ?_)
    · have hf47 := hf46.know 45 (u := .bool true) rfl (congrArg Value.bool c45_2)
      refine code_seq ?_
      refine seq_start (l := [0, 1, 2]) rfl ?_
      refine seq_one (op_val (v := .int .i64 ((aheadF (xs.getD i 0) (ws.getD i 0) (k : Int)).2)) hf47 rfl rfl rfl rfl rfl rfl (r_move rfl) fun ac45 hf48 => ?_)
      refine seq_one (op_val (v := .slice none 0 0) hf48 rfl rfl rfl rfl rfl rfl (r_assign rfl) fun ac46 hf49 => ?_)
      refine seq_one (op_val (v := .int .i64 ((aheadF (xs.getD i 0) (ws.getD i 0) (k : Int)).2)) hf49 rfl rfl rfl rfl rfl rfl (r_assign rfl) fun ac47 hf50 => ?_)
      refine seq_end ?_
      clear hf46 ac44 hf47 ac45 hf48 ac46 hf49
      refine then_normal ?_
      refine wp_ret ?_
      refine then_ret ?_
      refine block_ret ?_
      refine then_ret ?_
      refine then_ret ?_
      refine block_ret ?_
      refine then_ret ?_
      refine post2 rfl hf50 rfl rfl ⟨?_, (Inv.drop (A := [(lb, arr .u64 xs, 24), (cb, #[.slice (some ⟨lb, 0, none⟩) n n, .int .i64 (k : Int)], 58)]) (B := S) hI5 hz1).unread h0_⟩
      rw [ahead2 (bne_iff_ne.1 c45_2)]
    · have hf51 := hf46.know 45 (u := .bool false) rfl (congrArg Value.bool c45_2)
      refine wp_skip ?_
      refine then_normal ?_
      refine seq_start (l := [0, 1, 2, 3, 4]) rfl ?_
      refine seq_one (op_val (v := .slice p ((sinceL xs ws k i).length) cap) hf51 rfl rfl rfl rfl rfl rfl (r_move rfl) fun ac48 hf52 => ?_)
      refine seq_one (op_val (v := .int .u64 ((aheadF (xs.getD i 0) (ws.getD i 0) (k : Int)).1)) hf52 rfl rfl rfl rfl rfl rfl (r_move rfl) fun ac49 hf53 => ?_)
      refine seq_one (op_bslice (s := 24) (cells := #[.int .u64 ((aheadF (xs.getD i 0) (ws.getD i 0) (k : Int)).1)]) hf53 rfl rfl rfl rfl rfl (fun _ => by kernel_rfl) hI5 fun ac50 b1 wd4 hb1 hI6 hf54 => ?_)
      have hI7 : Inv w ([(lb, arr .u64 xs, 24), (cb, #[.slice (some ⟨lb, 0, none⟩) n n, .int .i64 (k : Int)], 58), (b1, #[.int .u64 ((aheadF (xs.getD i 0) (ws.getD i 0) (k : Int)).1)], 24)] ++ S) wd4 := Inv.tail (A := [(lb, arr .u64 xs, 24), (cb, #[.slice (some ⟨lb, 0, none⟩) n n, .int .i64 (k : Int)], 58)]) (T := S) (N := [(b1, #[.int .u64 ((aheadF (xs.getD i 0) (ws.getD i 0) (k : Int)).1)], 24)]) hI6
      refine seq_one (op_append1 (A := [(lb, arr .u64 xs, 24), (cb, #[.slice (some ⟨lb, 0, none⟩) n n, .int .i64 (k : Int)], 58), (b1, #[.int .u64 ((aheadF (xs.getD i 0) (ws.getD i 0) (k : Int)).1)], 24)]) (S := S) hf54 rfl rfl rfl us_23 if_24 rfl hs1 rfl hI7 hz1 (List.mem_of_getElem? (i := 2) rfl) rfl (by rw [since_len]; simp only [maxLen]; omega) (by rw [since_len]; omega) fun ac51 p2 capp2 Sp2 wd5 hsp2 hzp2 hI8 hf55 => ?_)
      rw [← since_app (bne_eq_false_iff_eq.1 c45_2)] at hsp2 hf55
      refine seq_one (op_val (v := .slice p2 ((sinceL xs ws k (i + 1)).length) capp2) hf55 rfl rfl rfl rfl rfl rfl (r_assign rfl) fun ac52 hf56 => ?_)
      refine seq_end ?_
      clear hf46 ac44 hf51 ac48 hf52 ac49 wd3 hI5 hf53 hI6 ac50 wd4 hI7 hf54 ac51 hf55
      refine block_normal ?_
      refine then_normal ?_
      refine seq_start (l := [0, 1]) rfl ?_
      refine seq_one (op_val (v := .int .i64 ((i + 1 : Nat) : Int)) hf56 rfl rfl rfl rfl rfl rfl (r_add (c := ((i + 1 : Nat) : Int)) rfl rfl (wrap_i64 (by omega) (by omega))) fun ac53 hf57 => ?_)
      refine seq_one (op_val (v := .int .i64 ((i + 1 : Nat) : Int)) hf57 rfl rfl rfl rfl rfl rfl (r_move rfl) fun ac54 hf58 => ?_)
      refine seq_end ?_
      clear ac52 hf56 ac53 hf57
      refine then_normal ?_
      exact ⟨(i + 1, p2, capp2, Sp2), (hf58.cons 0 rfl (hf58.cons 1 rfl (hf58.cons 11 rfl (hf58.cons 12 rfl (hf58.cons 13 rfl (hf58.cons 14 rfl (hf58.cons 15 rfl (hf58.cons 16 rfl (hf58.cons 17 rfl (hf58.cons 18 rfl (hf58.cons 19 rfl (hf58.cons 20 rfl (hf58.cons 21 rfl (hf58.cons 22 rfl (hf58.cons 23 rfl (hf58.cons 24 rfl (hf58.cons 25 rfl (hf58.cons 6 rfl (hf58.cons 26 rfl hf58.nil))))))))))))))))))), ⟨(Inv.keep (A := [(lb, arr .u64 xs, 24), (cb, #[.slice (some ⟨lb, 0, none⟩) n n, .int .i64 (k : Int)], 58)]) (N := [(b1, #[.int .u64 ((aheadF (xs.getD i 0) (ws.getD i 0) (k : Int)).1)], 24)]) (T := Sp2) hI8 (fresh_keys (ks := [b1]) rfl (fk_cons hb1 fk_nil))), ⟨hsp2, hzp2, by have := of_decide_eq_true c27_1; omega, fun j hj => by rcases Nat.lt_succ_iff_lt_or_eq.1 hj with h | rfl; exact ho1 j h; exact bne_eq_false_iff_eq.1 c45_2⟩⟩, (by have := of_decide_eq_true c27_1; show n - (i + 1) < n - i; omega)⟩
  · have hf59 := hf23.know 27 (u := .bool false) rfl (congrArg Value.bool c27_1)
    refine wp_exit ?_
    refine then_exit ?_
    refine then_exit ?_
    refine block_here ?_
    refine then_normal ?_
    refine code_seq ?_
    refine seq_start (l := [0, 1, 2]) rfl ?_
    refine seq_one (op_val (v := .slice p ((sinceL xs ws k i).length) cap) hf59 rfl rfl rfl rfl rfl rfl (r_move rfl) fun ac55 hf60 => ?_)
    refine seq_one (op_val (v := .slice p ((sinceL xs ws k i).length) cap) hf60 rfl rfl rfl rfl rfl rfl (r_assign rfl) fun ac56 hf61 => ?_)
    refine seq_one (op_val (v := .int .i64 0) hf61 rfl rfl rfl rfl rfl rfl (r_assign rfl) fun ac57 hf62 => ?_)
    refine seq_end ?_
    clear hf23 ac22 hf59 ac55 hf60 ac56 hf61
    refine then_normal ?_
    refine wp_ret ?_
    exfalso
    obtain ⟨j, h1, h2⟩ := hbad
    have := of_decide_eq_false c27_1
    exact h2 (ho1 j (by omega))
set_option maxHeartbeats 8000000 in
theorem since_n {lb cb : Nat} {xs : List Int} {n : Nat} {k : Int} (hl : xs.length = n) {q : Option Addr} {m caq : Nat} (hm : m ≠ n) (hne : lb ≠ cb) {w : World} (h0_ : Has [(lb, arr .u64 xs, 24), (cb, #[.slice (some ⟨lb, 0, none⟩) n n, .int .i64 k], 58)] w) : Calls Try.prog 18 [.pointer (some ⟨cb, 0, none⟩), .slice q m caq].toArray w fun e w' => e = .returned (.tuple #[.slice none 0 0, .int .i64 2]) ∧ Inv w [] w' := by
  have hI1 := Inv.startS h0_ (by simp [hne])
  refine enter (n := 53) Try.func18 rfl rfl rfl ?_
  intro ac1 hf1
  refine code_seq ?_
  refine seq_start (l := [0, 1]) rfl ?_
  refine seq_one (op_val (v := .slice none 0 0) hf1 rfl rfl rfl rfl rfl rfl (r_assign rfl) fun ac2 hf2 => ?_)
  refine seq_one (op_val (v := .int .i64 0) hf2 rfl rfl rfl rfl rfl rfl (r_assign rfl) fun ac3 hf3 => ?_)
  refine seq_end ?_
  clear ac1 hf1 ac2 hf2
  refine then_normal ?_
  refine code_seq ?_
  refine code_seq ?_
  refine seq_start (l := [0, 1]) rfl ?_
  refine seq_one (op_val (v := .pointer (some ⟨cb, 0, none⟩)) hf3 rfl rfl rfl rfl rfl rfl (r_move rfl) fun ac4 hf4 => ?_)
  refine seq_one (op_pureW hf4 rfl rfl rfl rfl ca_25 (none_walk hl (hI1.ne (i := 0) (j := 1) rfl rfl (by decide)) (Has.cons (hI1.at 0 rfl) (Has.cons (hI1.at 1 rfl) Has.nil))) hI1 fun ac5 wd1 hI2 hf5 => ?_)
  refine seq_end ?_
  clear ac3 hf3 ac4 hI1 hf4
  refine then_normal ?_
  refine code_if_false hf5 rfl ?_
  refine wp_skip ?_
  refine then_normal ?_
  refine code_seq ?_
  refine code_seq ?_
  refine seq_start (l := [0, 1, 2, 3, 4, 5, 6, 7]) rfl ?_
  refine seq_one (op_val (v := .slice q m caq) hf5 rfl rfl rfl rfl rfl rfl (r_move rfl) fun ac6 hf6 => ?_)
  refine seq_one (op_val (v := .int .i64 (m : Int)) hf6 rfl rfl rfl rfl rfl rfl (r_len sl_23 rfl) fun ac7 hf7 => ?_)
  refine seq_one (op_val (v := .pointer (some ⟨cb, 0, none⟩)) hf7 rfl rfl rfl rfl rfl rfl (r_move rfl) fun ac8 hf8 => ?_)
  refine seq_one (op_val (v := .pointer (some ⟨cb, 0, none⟩)) hf8 rfl rfl rfl rfl rfl rfl (r_nilCheck rfl) fun ac9 hf9 => ?_)
  refine seq_one (op_val (v := .pointer (some ⟨cb, 0, none⟩)) hf9 rfl rfl rfl rfl rfl rfl (r_fieldAddr fi_58_0 rfl rfl) fun ac10 hf10 => ?_)
  refine seq_one (op_val (v := .slice (some ⟨lb, 0, none⟩) n n) hf10 rfl rfl rfl rfl rfl rfl (r_load ag_23 rfl (hI2.at 1 rfl) rfl) fun ac11 hf11 => ?_)
  refine seq_one (op_val (v := .int .i64 (n : Int)) hf11 rfl rfl rfl rfl rfl rfl (r_len sl_23 rfl) fun ac12 hf12 => ?_)
  refine seq_one (op_val (v := .bool ((m : Int) != (n : Int))) hf12 rfl rfl rfl rfl rfl rfl (r_neq rfl rfl) fun ac13 hf13 => ?_)
  refine seq_end ?_
  clear ac5 hf5 ac6 hf6 ac7 hf7 ac8 hf8 ac9 hf9 ac10 hf10 ac11 hf11 ac12 hf12
  refine then_normal ?_
  have hf14 := hf13.know 20 (u := .bool true) rfl (congrArg Value.bool (bne_iff_ne.2 (by omega)))
  refine code_if_true hf14 rfl ?_
  refine code_seq ?_
  refine seq_start (l := [0, 1]) rfl ?_
  refine seq_one (op_val (v := .slice none 0 0) hf14 rfl rfl rfl rfl rfl rfl (r_assign rfl) fun ac14 hf15 => ?_)
  refine seq_one (op_val (v := .int .i64 2) hf15 rfl rfl rfl rfl rfl rfl (r_assign rfl) fun ac15 hf16 => ?_)
  refine seq_end ?_
  clear hf13 ac13 hf14 ac14 hf15
  refine then_normal ?_
  refine wp_ret ?_
  refine then_ret ?_
  exact post2 rfl hf16 rfl rfl ⟨rfl, hI2.unread h0_⟩
end Go.Proofs.Ytohkdjaobdgenaa
