/-
  The walk of CountDrain.
-/
import Derived.Test.YtohkdjaobdgenaaPlain4
namespace Go.Proofs.Ytohkdjaobdgenaa
set_option linter.unusedVariables false
set_option linter.unusedSimpArgs false
set_option maxRecDepth 100000
open Go.RowKit
set_option maxHeartbeats 8000000 in
theorem countDrain_walk {a b : Int} {n k : Nat} (ta : 0 ≤ a.tmod 20 ∧ a.tmod 20 ≤ 19) (tb : 0 ≤ b.tmod 64 ∧ b.tmod 64 ≤ 63) (en : 1 + a.tmod 20 = (n : Int)) (ek : 1 + b.tmod 64 = (k : Int)) (hn1 : 1 ≤ n) (hn20 : n ≤ 20) (hk1 : 1 ≤ k) (hk2 : k ≤ 64) {p : Option Addr} {L cap : Nat} {rows : List (List Value)} (hl : rows.length = L) (hc : L ≤ cap) (ho : ∀ row ∈ rows, Oks opKinds row) (hL : cap ≤ maxLen) {w : World} (hr : Rows_ w p 3 rows) : Calls Try.prog 6 [.int .u8 a, .int .u8 b, .slice p L cap].toArray w fun e w' => e = .returned (.bool true) ∧ Inv w [] w' := by
  have hn2 : n ≤ 256 := by omega
  simp only [maxLen] at hL
  have hI1 := Inv.start w
  refine enter (n := 153) Try.func6 rfl rfl rfl ?_
  intro ac1 hf1
  refine code_seq ?_
  refine seq_start (l := [0]) rfl ?_
  refine seq_one (op_val (v := .bool false) hf1 rfl rfl rfl rfl rfl rfl (r_assign rfl) fun ac2 hf2 => ?_)
  refine seq_end ?_
  clear ac1 hf1
  refine then_normal ?_
  refine code_seq ?_
  refine seq_start (l := [0, 1, 2, 3, 4, 5, 6, 7, 8, 9, 10, 11]) rfl ?_
  refine seq_one (op_val (v := .int .u8 a) hf2 rfl rfl rfl rfl rfl rfl (r_move rfl) fun ac3 hf3 => ?_)
  refine seq_one (op_val (v := .int .u8 b) hf3 rfl rfl rfl rfl rfl rfl (r_move rfl) fun ac4 hf4 => ?_)
  refine seq_one (op_call (R := fun v w' => ∃ lb cb, Array.size (World.heap w) ≤ lb ∧ Array.size (World.heap w) ≤ cb ∧ v = .tuple #[.pointer (some ⟨cb, 0, none⟩), .int .i64 (n : Int), .int .u64 (pw k - 1), .bool true] ∧ Inv w [(lb, arr .u64 (List.replicate n 0), 24), (cb, #[.slice (some ⟨lb, 0, none⟩) n n, .int .i64 (k : Int)], 58)] w') hf4 rfl rfl rfl rfl ca_22 ((made_walk ta tb en ek hn1 hn2 hk1 hk2 _).mono fun e w' ⟨lb, cb, h1, h2, h3, h4⟩ => ⟨_, h3, lb, cb, h1, h2, rfl, h4⟩) fun ac5 v wd1 hR hf5 => ?_)
  obtain ⟨b1, b2, hqb1, hqb2, rfl, hwb1⟩ := hR
  have hb1 := Nat.le_trans hI1.size hqb1
  have hb2 := Nat.le_trans hI1.size hqb2
  have hI2 : Inv w [(b1, arr .u64 (List.replicate n 0), 24), (b2, #[.slice (some ⟨b1, 0, none⟩) n n, .int .i64 (k : Int)], 58)] _ := hI1.callN hwb1 (fun x hx => by simp only [List.mem_cons, List.mem_nil_iff, or_false] at hx; rcases hx with rfl | rfl <;> assumption)
  refine seq_one (op_val (v := .tuple #[.pointer (some ⟨b2, 0, none⟩), .int .i64 (n : Int), .int .u64 (pw k - 1), .bool true]) hf5 rfl rfl rfl rfl rfl rfl (r_move rfl) fun ac6 hf6 => ?_)
  refine seq_one (op_val (v := .pointer (some ⟨b2, 0, none⟩)) hf6 rfl rfl rfl rfl rfl rfl (r_extract rfl rfl) fun ac7 hf7 => ?_)
  refine seq_one (op_val (v := .int .i64 (n : Int)) hf7 rfl rfl rfl rfl rfl rfl (r_extract rfl rfl) fun ac8 hf8 => ?_)
  refine seq_one (op_val (v := .int .u64 (pw k - 1)) hf8 rfl rfl rfl rfl rfl rfl (r_extract rfl rfl) fun ac9 hf9 => ?_)
  refine seq_one (op_val (v := .bool true) hf9 rfl rfl rfl rfl rfl rfl (r_extract rfl rfl) fun ac10 hf10 => ?_)
  refine seq_one (op_val (v := .pointer (some ⟨b2, 0, none⟩)) hf10 rfl rfl rfl rfl rfl rfl (r_assign rfl) fun ac11 hf11 => ?_)
  refine seq_one (op_val (v := .int .i64 (n : Int)) hf11 rfl rfl rfl rfl rfl rfl (r_assign rfl) fun ac12 hf12 => ?_)
  refine seq_one (op_val (v := .int .u64 (pw k - 1)) hf12 rfl rfl rfl rfl rfl rfl (r_assign rfl) fun ac13 hf13 => ?_)
  refine seq_one (op_val (v := .bool true) hf13 rfl rfl rfl rfl rfl rfl (r_assign rfl) fun ac14 hf14 => ?_)
  refine seq_end ?_
  clear ac2 hf2 ac3 hf3 ac4 hf4 hI1 hwb1 hqb1 hqb2 ac5 hf5 ac6 hf6 ac7 hf7 ac8 hf8 ac9 hf9 ac10 hf10 ac11 hf11 ac12 hf12 ac13 hf13
  refine then_normal ?_
  refine code_seq ?_
  refine seq_start (l := [0, 1, 2, 3, 4, 5, 6, 7, 8, 9, 10, 11]) rfl ?_
  refine seq_one (op_val (v := .int .u8 a) hf14 rfl rfl rfl rfl rfl rfl (r_move rfl) fun ac15 hf15 => ?_)
  refine seq_one (op_val (v := .int .u8 b) hf15 rfl rfl rfl rfl rfl rfl (r_move rfl) fun ac16 hf16 => ?_)
  refine seq_one (op_call (R := fun v w' => ∃ lb cb, Array.size (World.heap wd1) ≤ lb ∧ Array.size (World.heap wd1) ≤ cb ∧ v = .tuple #[.pointer (some ⟨cb, 0, none⟩), .int .i64 (n : Int), .int .u64 (pw k - 1), .bool true] ∧ Inv wd1 [(lb, arr .u64 (List.replicate n 0), 24), (cb, #[.slice (some ⟨lb, 0, none⟩) n n, .int .i64 (k : Int)], 58)] w') hf16 rfl rfl rfl rfl ca_22 ((made_walk ta tb en ek hn1 hn2 hk1 hk2 _).mono fun e w' ⟨lb, cb, h1, h2, h3, h4⟩ => ⟨_, h3, lb, cb, h1, h2, rfl, h4⟩) fun ac17 v wd2 hR hf17 => ?_)
  obtain ⟨b3, b4, hqb3, hqb4, rfl, hwb3⟩ := hR
  have hb3 := Nat.le_trans hI2.size hqb3
  have hb4 := Nat.le_trans hI2.size hqb4
  have hI3 : Inv w [(b1, arr .u64 (List.replicate n 0), 24), (b2, #[.slice (some ⟨b1, 0, none⟩) n n, .int .i64 (k : Int)], 58), (b3, arr .u64 (List.replicate n 0), 24), (b4, #[.slice (some ⟨b3, 0, none⟩) n n, .int .i64 (k : Int)], 58)] _ := hI2.callN hwb3 (fun x hx => by simp only [List.mem_cons, List.mem_nil_iff, or_false] at hx; rcases hx with rfl | rfl <;> assumption)
  refine seq_one (op_val (v := .tuple #[.pointer (some ⟨b4, 0, none⟩), .int .i64 (n : Int), .int .u64 (pw k - 1), .bool true]) hf17 rfl rfl rfl rfl rfl rfl (r_move rfl) fun ac18 hf18 => ?_)
  refine seq_one (op_val (v := .pointer (some ⟨b4, 0, none⟩)) hf18 rfl rfl rfl rfl rfl rfl (r_extract rfl rfl) fun ac19 hf19 => ?_)
  refine seq_one (op_val (v := .int .i64 (n : Int)) hf19 rfl rfl rfl rfl rfl rfl (r_extract rfl rfl) fun ac20 hf20 => ?_)
  refine seq_one (op_val (v := .int .u64 (pw k - 1)) hf20 rfl rfl rfl rfl rfl rfl (r_extract rfl rfl) fun ac21 hf21 => ?_)
  refine seq_one (op_val (v := .bool true) hf21 rfl rfl rfl rfl rfl rfl (r_extract rfl rfl) fun ac22 hf22 => ?_)
  refine seq_one (op_val (v := .pointer (some ⟨b4, 0, none⟩)) hf22 rfl rfl rfl rfl rfl rfl (r_assign rfl) fun ac23 hf23 => ?_)
  refine seq_one (op_val (v := .int .i64 (n : Int)) hf23 rfl rfl rfl rfl rfl rfl (r_assign rfl) fun ac24 hf24 => ?_)
  refine seq_one (op_val (v := .int .u64 (pw k - 1)) hf24 rfl rfl rfl rfl rfl rfl (r_assign rfl) fun ac25 hf25 => ?_)
  refine seq_one (op_val (v := .bool true) hf25 rfl rfl rfl rfl rfl rfl (r_assign rfl) fun ac26 hf26 => ?_)
  refine seq_end ?_
  clear ac14 hf14 ac15 hf15 ac16 wd1 hf16 hI2 hwb3 hqb3 hqb4 ac17 hf17 ac18 hf18 ac19 hf19 ac20 hf20 ac21 hf21 ac22 hf22 ac23 hf23 ac24 hf24 ac25 hf25
  refine then_normal ?_
  refine code_seq ?_
  refine code_seq ?_
  refine seq_start (l := [0, 1, 2, 3, 4, 5]) rfl ?_
  refine seq_one (op_val (v := .bool true) hf26 rfl rfl rfl rfl rfl rfl (r_move rfl) fun ac27 hf27 => ?_)
  refine seq_one (op_val (v := .bool false) hf27 rfl rfl rfl rfl rfl rfl ((r_not (b := true) rfl).trans rfl) fun ac28 hf28 => ?_)
  refine seq_one (op_val (v := .bool false) hf28 rfl rfl rfl rfl rfl rfl (r_move rfl) fun ac29 hf29 => ?_)
  refine seq_one (op_val (v := .bool true) hf29 rfl rfl rfl rfl rfl rfl (r_move rfl) fun ac30 hf30 => ?_)
  refine seq_one (op_val (v := .bool false) hf30 rfl rfl rfl rfl rfl rfl ((r_not (b := true) rfl).trans rfl) fun ac31 hf31 => ?_)
  refine seq_one (op_val (v := .bool false) hf31 rfl rfl rfl rfl rfl rfl (r_pickF rfl rfl) fun ac32 hf32 => ?_)
  refine seq_end ?_
  clear ac26 hf26 ac27 hf27 ac28 hf28 ac29 hf29 ac30 hf30 ac31 hf31
  refine then_normal ?_
  refine code_if_false hf32 rfl ?_
  refine wp_skip ?_
  refine then_normal ?_
  refine code_seq ?_
  refine seq_start (l := [0, 1, 2]) rfl ?_
  refine seq_one (op_val (v := .int .i64 (n : Int)) hf32 rfl rfl rfl rfl rfl rfl (r_move rfl) fun ac33 hf33 => ?_)
  refine seq_one (op_make (m := n) hf33 rfl rfl rfl us_23 if_24 rfl rfl rfl (by omega) (by omega) hI3 fun ac34 b5 wd3 hb5 hI4 hf34 => ?_)
  rw [arr_rep] at hI4
  have hI5 : Inv w [(b1, arr .u64 (List.replicate n 0), 24), (b2, #[.slice (some ⟨b1, 0, none⟩) n n, .int .i64 (k : Int)], 58), (b3, arr .u64 (List.replicate n 0), 24), (b4, #[.slice (some ⟨b3, 0, none⟩) n n, .int .i64 (k : Int)], 58), (b5, arr .u64 (List.replicate n 0), 24)] wd3 := hI4
  refine seq_one (op_val (v := .slice (some ⟨b5, 0, none⟩) n n) hf34 rfl rfl rfl rfl rfl rfl (r_assign rfl) fun ac35 hf35 => ?_)
  refine seq_end ?_
  clear ac32 hf32 ac33 wd2 hI3 hf33 hI4 ac34 hf34
  refine then_normal ?_
  refine code_seq ?_
  refine code_seq ?_
  refine seq_start (l := [0]) rfl ?_
  refine seq_one (op_val (v := .int .i64 0) hf35 rfl rfl rfl rfl rfl rfl (r_assign rfl) fun ac36 hf36 => ?_)
  refine seq_end ?_
  clear ac35 hf35
  refine then_normal ?_
  refine wp_block ?_
  refine code_loop (α := Nat × (List Int) × (List Int) × (List Int)) (fun (x : Nat × (List Int) × (List Int) × (List Int)) => match x with | (i, xs, ys, zs) => [(0, .int .u8 a), (1, .int .u8 b), (2, .slice p L cap), (7, .pointer (some ⟨b2, 0, none⟩)), (8, .int .i64 (n : Int)), (9, .int .u64 (pw k - 1)), (10, .bool true), (11, .pointer (some ⟨b4, 0, none⟩)), (12, .int .i64 (n : Int)), (13, .int .u64 (pw k - 1)), (14, .bool true), (15, .slice (some ⟨b5, 0, none⟩) n n), (23, .tuple #[.pointer (some ⟨b2, 0, none⟩), .int .i64 (n : Int), .int .u64 (pw k - 1), .bool true]), (24, .int .u8 a), (25, .int .u8 b), (26, .tuple #[.pointer (some ⟨b2, 0, none⟩), .int .i64 (n : Int), .int .u64 (pw k - 1), .bool true]), (27, .pointer (some ⟨b2, 0, none⟩)), (28, .int .i64 (n : Int)), (29, .int .u64 (pw k - 1)), (30, .bool true), (31, .tuple #[.pointer (some ⟨b4, 0, none⟩), .int .i64 (n : Int), .int .u64 (pw k - 1), .bool true]), (32, .int .u8 a), (33, .int .u8 b), (34, .tuple #[.pointer (some ⟨b4, 0, none⟩), .int .i64 (n : Int), .int .u64 (pw k - 1), .bool true]), (35, .pointer (some ⟨b4, 0, none⟩)), (36, .int .i64 (n : Int)), (37, .int .u64 (pw k - 1)), (38, .bool true), (39, .bool true), (40, .bool false), (41, .bool false), (42, .bool true), (43, .bool false), (44, .bool false), (45, .int .i64 (n : Int)), (46, .slice (some ⟨b5, 0, none⟩) n n), (16, .int .i64 (i : Int))]) (fun (x : Nat × (List Int) × (List Int) × (List Int)) => match x with | (i, xs, ys, zs) => fun wL => Inv w [(b1, arr .u64 xs, 24), (b2, #[.slice (some ⟨b1, 0, none⟩) n n, .int .i64 (k : Int)], 58), (b3, arr .u64 ys, 24), (b4, #[.slice (some ⟨b3, 0, none⟩) n n, .int .i64 (k : Int)], 58), (b5, arr .u64 zs, 24)] wL ∧ (i ≤ L ∧ Dr xs ys zs n k)) (fun (x : Nat × (List Int) × (List Int) × (List Int)) => match x with | (i, xs, ys, zs) => L - i) (0, List.replicate n 0, List.replicate n 0, List.replicate n 0) (hf36.cons 0 rfl (hf36.cons 1 rfl (hf36.cons 2 rfl (hf36.cons 7 rfl (hf36.cons 8 rfl (hf36.cons 9 rfl (hf36.cons 10 rfl (hf36.cons 11 rfl (hf36.cons 12 rfl (hf36.cons 13 rfl (hf36.cons 14 rfl (hf36.cons 15 rfl (hf36.cons 23 rfl (hf36.cons 24 rfl (hf36.cons 25 rfl (hf36.cons 26 rfl (hf36.cons 27 rfl (hf36.cons 28 rfl (hf36.cons 29 rfl (hf36.cons 30 rfl (hf36.cons 31 rfl (hf36.cons 32 rfl (hf36.cons 33 rfl (hf36.cons 34 rfl (hf36.cons 35 rfl (hf36.cons 36 rfl (hf36.cons 37 rfl (hf36.cons 38 rfl (hf36.cons 39 rfl (hf36.cons 40 rfl (hf36.cons 41 rfl (hf36.cons 42 rfl (hf36.cons 43 rfl (hf36.cons 44 rfl (hf36.cons 45 rfl (hf36.cons 46 rfl (hf36.cons 16 rfl hf36.nil))))))))))))))))))))))))))))))))))))) ⟨hI5, ⟨Nat.zero_le _, Dr.init⟩⟩ ?_
  intro ⟨i, xs, ys, zs⟩ ac37 wd4 hf37 hL1
  obtain ⟨hI6, hx1⟩ := hL1
  dsimp only at hf37 hI6 hx1
  clear ac36 wd3 hf36 hI5
  refine code_seq ?_
  refine code_seq ?_
  refine seq_start (l := [0, 1, 2, 3, 4, 5, 6, 7]) rfl ?_
  refine seq_one (op_val (v := .int .i64 (i : Int)) hf37 rfl rfl rfl rfl rfl rfl (r_move rfl) fun ac38 hf38 => ?_)
  refine seq_one (op_val (v := .slice p L cap) hf38 rfl rfl rfl rfl rfl rfl (r_move rfl) fun ac39 hf39 => ?_)
  refine seq_one (op_val (v := .int .i64 (L : Int)) hf39 rfl rfl rfl rfl rfl rfl (r_len sl_22 rfl) fun ac40 hf40 => ?_)
  refine seq_one (op_val (v := .bool (decide ((i : Int) < (L : Int)))) hf40 rfl rfl rfl rfl rfl rfl (r_lss rfl rfl) fun ac41 hf41 => ?_)
  refine seq_one (op_val (v := .bool (decide ((i : Int) < (L : Int)))) hf41 rfl rfl rfl rfl rfl rfl (r_move rfl) fun ac42 hf42 => ?_)
  rcases Bool.eq_false_or_eq_true (decide ((i : Int) < (L : Int)) : Bool) with g51_1 | g51_1
  · have hf43 := hf42.know 51 (u := .bool true) rfl (congrArg Value.bool g51_1)
    refine seq_one (op_val (v := .int .i64 (i : Int)) hf43 rfl rfl rfl rfl rfl rfl (r_move rfl) fun ac43 hf44 => ?_)
    refine seq_one (op_val (v := .bool (decide ((i : Int) < 40))) hf44 rfl rfl rfl rfl rfl rfl (r_lss rfl rfl) fun ac44 hf45 => ?_)
    refine seq_one (op_val (v := .bool (decide ((i : Int) < 40))) hf45 rfl rfl rfl rfl rfl rfl (r_pickT rfl rfl) fun ac45 hf46 => ?_)
    refine seq_end ?_
    clear ac37 hf37 ac38 hf38 ac39 hf39 ac40 hf40 ac41 hf41 hf42 ac42 hf43 ac43 hf44 ac44 hf45
    refine then_normal ?_
    refine code_if hf46 rfl (fun c54_2 => ?_) (fun c54_2 => ?_)
    · have hf47 := hf46.know 54 (u := .bool true) rfl (congrArg Value.bool c54_2)
      refine wp_skip ?_
      refine then_normal ?_
      refine code_seq ?_
      refine wp_block ?_
      refine code_seq ?_
      refine code_seq ?_
      refine seq_start (l := [0, 1, 2, 3, 4, 5]) rfl ?_
      refine seq_one (op_val (v := .slice p L cap) hf47 rfl rfl rfl rfl rfl rfl (r_move rfl) fun ac46 hf48 => ?_)
      refine seq_one (op_val (v := .int .i64 (i : Int)) hf48 rfl rfl rfl rfl rfl rfl (r_move rfl) fun ac47 hf49 => ?_)
      obtain ⟨kd6, ii6, nn6, hri6, hnn6, hii6, ek6, ei6, en6⟩ := op_row (i := i) ho (by have := of_decide_eq_true g51_1; omega)
      refine seq_one (op_val (v := .pointer (slAt p (i * 3))) hf49 rfl rfl rfl rfl rfl rfl (r_indexAddrR (i := i) (sz := 3) sl_22 rfl rfl rfl (by have := of_decide_eq_true g51_1; omega) rfl ⟨_, ((hr.old hI6 (fresh_keys (ks := [b1, b2, b3, b4, b5]) rfl (fk_cons hb1 (fk_cons hb2 (fk_cons hb3 (fk_cons hb4 (fk_cons hb5 fk_nil))))))) _ _ hri6).choose_spec.1⟩) fun ac48 hf50 => ?_)
      refine seq_one (op_val (v := .pointer (slAt p (i * 3 + 0))) hf50 rfl rfl rfl rfl rfl rfl (r_fieldAddrR fi_39_0 rfl ⟨_, ((hr.old hI6 (fresh_keys (ks := [b1, b2, b3, b4, b5]) rfl (fk_cons hb1 (fk_cons hb2 (fk_cons hb3 (fk_cons hb4 (fk_cons hb5 fk_nil))))))) _ _ hri6).choose_spec.1⟩) fun ac49 hf51 => ?_)
      refine seq_one (op_val (v := .int .u8 kd6) hf51 rfl rfl rfl rfl rfl rfl (r_loadF ag_5 rfl (hr.old hI6 (fresh_keys (ks := [b1, b2, b3, b4, b5]) rfl (fk_cons hb1 (fk_cons hb2 (fk_cons hb3 (fk_cons hb4 (fk_cons hb5 fk_nil))))))) hri6 rfl) fun ac50 hf52 => ?_)
      refine seq_one (op_val (v := .bool (kd6 != 1)) hf52 rfl rfl rfl rfl rfl rfl (r_neq rfl rfl) fun ac51 hf53 => ?_)
      refine seq_end ?_
      clear hf46 ac45 hf47 ac46 hf48 ac47 hf49 ac48 hf50 ac49 hf51 ac50 hf52
      refine then_normal ?_
      refine code_if hf53 rfl (fun c62_3 => ?_) (fun c62_3 => ?_)
      · have hf54 := hf53.know 62 (u := .bool true) rfl (congrArg Value.bool c62_3)
        refine code_seq ?_
        refine code_seq ?_
        have hrd7_0 := (hr.old hI6 (fresh_keys (ks := [b1, b2, b3, b4, b5]) rfl (fk_cons hb1 (fk_cons hb2 (fk_cons hb3 (fk_cons hb4 (fk_cons hb5 fk_nil)))))))
        refine any_start (fun w => Has [] w ∧ Rows_ w p 3 rows) follows ⟨Has.drew (hI6.has0), hrd7_0⟩ ?_
        have hS1 : Has [] _ ∧ Rows_ _ p 3 rows := ⟨Has.drew (hI6.has0), hrd7_0⟩
        have hI7 := hI6.drew
        refine any_val (i := 0) (v := .pointer (some ⟨b2, 0, none⟩)) hf54 rfl rfl rfl rfl rfl rfl (fun _ _ _ h => h) (by kernel_rfl) (by kernel_rfl) (by kernel_rfl) (fun wd4 hS1 => (r_move rfl)) hS1 fun ac52 hf55 => ?_
        refine any_val (i := 1) (v := .slice p L cap) hf55 rfl rfl rfl rfl rfl rfl (fun _ _ _ h => h) (by kernel_rfl) (by kernel_rfl) (by kernel_rfl) (fun wd4 hS1 => (r_move rfl)) hS1 fun ac53 hf56 => ?_
        refine any_val (i := 2) (v := .int .i64 (i : Int)) hf56 rfl rfl rfl rfl rfl rfl (fun _ _ _ h => h) (by kernel_rfl) (by kernel_rfl) (by kernel_rfl) (fun wd4 hS1 => (r_move rfl)) hS1 fun ac54 hf57 => ?_
        refine any_val (i := 3) (v := .pointer (slAt p (i * 3))) hf57 rfl rfl rfl rfl rfl rfl (fun _ _ _ h => h) (by kernel_rfl) (by kernel_rfl) (by kernel_rfl) (fun wd4 hS1 => (r_indexAddrR (i := i) (sz := 3) sl_22 rfl rfl rfl (by have := of_decide_eq_true g51_1; omega) rfl ⟨_, ((hr.old hI7 (fresh_keys (ks := [b1, b2, b3, b4, b5]) rfl (fk_cons hb1 (fk_cons hb2 (fk_cons hb3 (fk_cons hb4 (fk_cons hb5 fk_nil))))))) _ _ hri6).choose_spec.1⟩)) hS1 fun ac55 hf58 => ?_
        refine any_val (i := 4) (v := .pointer (slAt p (i * 3 + 1))) hf58 rfl rfl rfl rfl rfl rfl (fun _ _ _ h => h) (by kernel_rfl) (by kernel_rfl) (by kernel_rfl) (fun wd4 hS1 => (r_fieldAddrR fi_39_1 rfl ⟨_, ((hr.old hI7 (fresh_keys (ks := [b1, b2, b3, b4, b5]) rfl (fk_cons hb1 (fk_cons hb2 (fk_cons hb3 (fk_cons hb4 (fk_cons hb5 fk_nil))))))) _ _ hri6).choose_spec.1⟩)) hS1 fun ac56 hf59 => ?_
        refine any_val (i := 5) (v := .int .i64 ii6) hf59 rfl rfl rfl rfl rfl rfl (fun _ _ _ h => h) (by kernel_rfl) (by kernel_rfl) (by kernel_rfl) (fun wd4 hS1 => (r_loadF ag_3 rfl hS1.2 hri6 rfl)) hS1 fun ac57 hf60 => ?_
        refine any_val (i := 6) (v := .slice p L cap) hf60 rfl rfl rfl rfl rfl rfl (fun _ _ _ h => h) (by kernel_rfl) (by kernel_rfl) (by kernel_rfl) (fun wd4 hS1 => (r_move rfl)) hS1 fun ac58 hf61 => ?_
        refine any_val (i := 7) (v := .int .i64 (i : Int)) hf61 rfl rfl rfl rfl rfl rfl (fun _ _ _ h => h) (by kernel_rfl) (by kernel_rfl) (by kernel_rfl) (fun wd4 hS1 => (r_move rfl)) hS1 fun ac59 hf62 => ?_
        refine any_val (i := 8) (v := .pointer (slAt p (i * 3))) hf62 rfl rfl rfl rfl rfl rfl (fun _ _ _ h => h) (by kernel_rfl) (by kernel_rfl) (by kernel_rfl) (fun wd4 hS1 => (r_indexAddrR (i := i) (sz := 3) sl_22 rfl rfl rfl (by have := of_decide_eq_true g51_1; omega) rfl ⟨_, ((hr.old hI7 (fresh_keys (ks := [b1, b2, b3, b4, b5]) rfl (fk_cons hb1 (fk_cons hb2 (fk_cons hb3 (fk_cons hb4 (fk_cons hb5 fk_nil))))))) _ _ hri6).choose_spec.1⟩)) hS1 fun ac60 hf63 => ?_
        refine any_val (i := 9) (v := .pointer (slAt p (i * 3 + 2))) hf63 rfl rfl rfl rfl rfl rfl (fun _ _ _ h => h) (by kernel_rfl) (by kernel_rfl) (by kernel_rfl) (fun wd4 hS1 => (r_fieldAddrR fi_39_2 rfl ⟨_, ((hr.old hI7 (fresh_keys (ks := [b1, b2, b3, b4, b5]) rfl (fk_cons hb1 (fk_cons hb2 (fk_cons hb3 (fk_cons hb4 (fk_cons hb5 fk_nil))))))) _ _ hri6).choose_spec.1⟩)) hS1 fun ac61 hf64 => ?_
        refine any_val (i := 10) (v := .int .u64 nn6) hf64 rfl rfl rfl rfl rfl rfl (fun _ _ _ h => h) (by kernel_rfl) (by kernel_rfl) (by kernel_rfl) (fun wd4 hS1 => (r_loadF ag_24 rfl hS1.2 hri6 rfl)) hS1 fun ac62 hf65 => ?_
        refine any_val (i := 12) (v := .pointer (some ⟨b4, 0, none⟩)) hf65 rfl rfl rfl rfl rfl rfl (fun _ _ _ h => h) (by kernel_rfl) (by kernel_rfl) (by kernel_rfl) (fun wd4 hS1 => (r_move rfl)) hS1 fun ac63 hf66 => ?_
        refine any_val (i := 13) (v := .slice p L cap) hf66 rfl rfl rfl rfl rfl rfl (fun _ _ _ h => h) (by kernel_rfl) (by kernel_rfl) (by kernel_rfl) (fun wd4 hS1 => (r_move rfl)) hS1 fun ac64 hf67 => ?_
        refine any_val (i := 14) (v := .int .i64 (i : Int)) hf67 rfl rfl rfl rfl rfl rfl (fun _ _ _ h => h) (by kernel_rfl) (by kernel_rfl) (by kernel_rfl) (fun wd4 hS1 => (r_move rfl)) hS1 fun ac65 hf68 => ?_
        refine any_val (i := 15) (v := .pointer (slAt p (i * 3))) hf68 rfl rfl rfl rfl rfl rfl (fun _ _ _ h => h) (by kernel_rfl) (by kernel_rfl) (by kernel_rfl) (fun wd4 hS1 => (r_indexAddrR (i := i) (sz := 3) sl_22 rfl rfl rfl (by have := of_decide_eq_true g51_1; omega) rfl ⟨_, ((hr.old hI7 (fresh_keys (ks := [b1, b2, b3, b4, b5]) rfl (fk_cons hb1 (fk_cons hb2 (fk_cons hb3 (fk_cons hb4 (fk_cons hb5 fk_nil))))))) _ _ hri6).choose_spec.1⟩)) hS1 fun ac66 hf69 => ?_
        refine any_val (i := 16) (v := .pointer (slAt p (i * 3 + 1))) hf69 rfl rfl rfl rfl rfl rfl (fun _ _ _ h => h) (by kernel_rfl) (by kernel_rfl) (by kernel_rfl) (fun wd4 hS1 => (r_fieldAddrR fi_39_1 rfl ⟨_, ((hr.old hI7 (fresh_keys (ks := [b1, b2, b3, b4, b5]) rfl (fk_cons hb1 (fk_cons hb2 (fk_cons hb3 (fk_cons hb4 (fk_cons hb5 fk_nil))))))) _ _ hri6).choose_spec.1⟩)) hS1 fun ac67 hf70 => ?_
        refine any_val (i := 17) (v := .int .i64 ii6) hf70 rfl rfl rfl rfl rfl rfl (fun _ _ _ h => h) (by kernel_rfl) (by kernel_rfl) (by kernel_rfl) (fun wd4 hS1 => (r_loadF ag_3 rfl hS1.2 hri6 rfl)) hS1 fun ac68 hf71 => ?_
        refine any_val (i := 18) (v := .slice p L cap) hf71 rfl rfl rfl rfl rfl rfl (fun _ _ _ h => h) (by kernel_rfl) (by kernel_rfl) (by kernel_rfl) (fun wd4 hS1 => (r_move rfl)) hS1 fun ac69 hf72 => ?_
        refine any_val (i := 19) (v := .int .i64 (i : Int)) hf72 rfl rfl rfl rfl rfl rfl (fun _ _ _ h => h) (by kernel_rfl) (by kernel_rfl) (by kernel_rfl) (fun wd4 hS1 => (r_move rfl)) hS1 fun ac70 hf73 => ?_
        refine any_val (i := 20) (v := .pointer (slAt p (i * 3))) hf73 rfl rfl rfl rfl rfl rfl (fun _ _ _ h => h) (by kernel_rfl) (by kernel_rfl) (by kernel_rfl) (fun wd4 hS1 => (r_indexAddrR (i := i) (sz := 3) sl_22 rfl rfl rfl (by have := of_decide_eq_true g51_1; omega) rfl ⟨_, ((hr.old hI7 (fresh_keys (ks := [b1, b2, b3, b4, b5]) rfl (fk_cons hb1 (fk_cons hb2 (fk_cons hb3 (fk_cons hb4 (fk_cons hb5 fk_nil))))))) _ _ hri6).choose_spec.1⟩)) hS1 fun ac71 hf74 => ?_
        refine any_val (i := 21) (v := .pointer (slAt p (i * 3 + 2))) hf74 rfl rfl rfl rfl rfl rfl (fun _ _ _ h => h) (by kernel_rfl) (by kernel_rfl) (by kernel_rfl) (fun wd4 hS1 => (r_fieldAddrR fi_39_2 rfl ⟨_, ((hr.old hI7 (fresh_keys (ks := [b1, b2, b3, b4, b5]) rfl (fk_cons hb1 (fk_cons hb2 (fk_cons hb3 (fk_cons hb4 (fk_cons hb5 fk_nil))))))) _ _ hri6).choose_spec.1⟩)) hS1 fun ac72 hf75 => ?_
        refine any_val (i := 22) (v := .int .u64 nn6) hf75 rfl rfl rfl rfl rfl rfl (fun _ _ _ h => h) (by kernel_rfl) (by kernel_rfl) (by kernel_rfl) (fun wd4 hS1 => (r_loadF ag_24 rfl hS1.2 hri6 rfl)) hS1 fun ac73 hf76 => ?_
        refine any_one (i := 11) (by kernel_rfl) ?_
        refine (op_call (R := fun v w' => v = .int .i64 (addE n ii6) ∧ Inv _ [(b1, arr .u64 (addX xs n k ii6 nn6), 24), (b2, #[.slice (some ⟨b1, 0, none⟩) n n, .int .i64 (k : Int)], 58)] w') hf76 rfl rfl rfl rfl ca_16 ((add_any hx1.2.lx hk1 hk2 (hI7.ne (i := 0) (j := 1) rfl rfl (by decide)) (Has.cons (hI7.at 0 rfl) (Has.cons (hI7.at 1 rfl) Has.nil))).mono fun _ _ h => ⟨_, h.1, rfl, h.2⟩) fun ac74 v wd5 hR8 hf77 => ?_)
        obtain ⟨rfl, hR8⟩ := hR8
        have hI8 : Inv w [(b1, arr .u64 (addX xs n k ii6 nn6), 24), (b2, #[.slice (some ⟨b1, 0, none⟩) n n, .int .i64 (k : Int)], 58), (b3, arr .u64 ys, 24), (b4, #[.slice (some ⟨b3, 0, none⟩) n n, .int .i64 (k : Int)], 58), (b5, arr .u64 zs, 24)] _ := Inv.callS (A := []) (S := [(b1, arr .u64 xs, 24), (b2, #[.slice (some ⟨b1, 0, none⟩) n n, .int .i64 (k : Int)], 58)]) (S' := [(b1, arr .u64 (addX xs n k ii6 nn6), 24), (b2, #[.slice (some ⟨b1, 0, none⟩) n n, .int .i64 (k : Int)], 58)]) (L := [(b3, arr .u64 ys, 24), (b4, #[.slice (some ⟨b3, 0, none⟩) n n, .int .i64 (k : Int)], 58), (b5, arr .u64 zs, 24)]) (N := []) hI7 hR8 rfl (fun _ h => by cases h)
        refine ⟨?_, ?_⟩
        · exact ⟨(hI8.has0), (hr.old hI8 (fresh_keys (ks := [b1, b2, b3, b4, b5]) rfl (fk_cons hb1 (fk_cons hb2 (fk_cons hb3 (fk_cons hb4 (fk_cons hb5 fk_nil)))))))⟩
        have hS2 : Has [] _ ∧ Rows_ _ p 3 rows := ⟨(hI8.has0), (hr.old hI8 (fresh_keys (ks := [b1, b2, b3, b4, b5]) rfl (fk_cons hb1 (fk_cons hb2 (fk_cons hb3 (fk_cons hb4 (fk_cons hb5 fk_nil)))))))⟩
        refine any_one (i := 23) (by kernel_rfl) ?_
        refine (op_call (R := fun v w' => v = .int .i64 (addE n ii6) ∧ Inv _ [(b3, arr .u64 (addX ys n k ii6 nn6), 24), (b4, #[.slice (some ⟨b3, 0, none⟩) n n, .int .i64 (k : Int)], 58)] w') hf77 rfl rfl rfl rfl ca_16 ((add_any hx1.2.ly hk1 hk2 (hI8.ne (i := 2) (j := 3) rfl rfl (by decide)) (Has.cons (hI8.at 2 rfl) (Has.cons (hI8.at 3 rfl) Has.nil))).mono fun _ _ h => ⟨_, h.1, rfl, h.2⟩) fun ac75 v wd6 hR9 hf78 => ?_)
        obtain ⟨rfl, hR9⟩ := hR9
        have hI9 : Inv w [(b1, arr .u64 (addX xs n k ii6 nn6), 24), (b2, #[.slice (some ⟨b1, 0, none⟩) n n, .int .i64 (k : Int)], 58), (b3, arr .u64 (addX ys n k ii6 nn6), 24), (b4, #[.slice (some ⟨b3, 0, none⟩) n n, .int .i64 (k : Int)], 58), (b5, arr .u64 zs, 24)] _ := Inv.callS (A := [(b1, arr .u64 (addX xs n k ii6 nn6), 24), (b2, #[.slice (some ⟨b1, 0, none⟩) n n, .int .i64 (k : Int)], 58)]) (S := [(b3, arr .u64 ys, 24), (b4, #[.slice (some ⟨b3, 0, none⟩) n n, .int .i64 (k : Int)], 58)]) (S' := [(b3, arr .u64 (addX ys n k ii6 nn6), 24), (b4, #[.slice (some ⟨b3, 0, none⟩) n n, .int .i64 (k : Int)], 58)]) (L := [(b5, arr .u64 zs, 24)]) (N := []) hI8 hR9 rfl (fun _ h => by cases h)
        refine ⟨?_, ?_⟩
        · exact ⟨(hI9.has0), (hr.old hI9 (fresh_keys (ks := [b1, b2, b3, b4, b5]) rfl (fk_cons hb1 (fk_cons hb2 (fk_cons hb3 (fk_cons hb4 (fk_cons hb5 fk_nil)))))))⟩
        have hS3 : Has [] _ ∧ Rows_ _ p 3 rows := ⟨(hI9.has0), (hr.old hI9 (fresh_keys (ks := [b1, b2, b3, b4, b5]) rfl (fk_cons hb1 (fk_cons hb2 (fk_cons hb3 (fk_cons hb4 (fk_cons hb5 fk_nil)))))))⟩
        refine any_val (i := 24) (v := .bool ((addE n ii6) != (addE n ii6))) hf78 rfl rfl rfl rfl rfl rfl (fun _ _ _ h => h) (by kernel_rfl) (by kernel_rfl) (by kernel_rfl) (fun wd6 hS3 => (r_neq rfl rfl)) hS3 fun ac76 hf79 => ?_
        refine any_end (by kernel_rfl) ?_
        clear hf53 hrd7_0 hI6 ac51 hf54 ac52 hf55 ac53 hf56 ac54 hf57 ac55 hf58 ac56 hf59 ac57 hf60 ac58 hf61 ac59 hf62 ac60 hf63 ac61 hf64 ac62 hf65 ac63 hf66 ac64 hf67 ac65 hf68 ac66 hf69 ac67 hf70 ac68 hf71 ac69 hf72 ac70 hf73 ac71 hf74 ac72 hf75 ac73 wd4 hf76 hI7 hR8 hS1 ac74 wd5 hf77 hI8 hR9 hS2 ac75 hf78 hS3
        refine then_normal ?_
        have hf80 := hf79.know 87 (u := .bool false) rfl (congrArg Value.bool (bne_self_eq_false _))
        refine code_if_false hf80 rfl ?_
        refine wp_skip ?_
        refine then_normal ?_
        refine wp_exit ?_
        refine then_exit ?_
        refine block_here ?_
        refine then_normal ?_
        refine seq_start (l := [0, 1, 2]) rfl ?_
        refine seq_one (op_val (v := .int .i64 (i : Int)) hf80 rfl rfl rfl rfl rfl rfl (r_move rfl) fun ac77 hf81 => ?_)
        refine seq_one (op_val (v := .int .i64 ((i + 1 : Nat) : Int)) hf81 rfl rfl rfl rfl rfl rfl (r_add (c := ((i + 1 : Nat) : Int)) rfl rfl (wrap_i64 (by omega) (by have := of_decide_eq_true g51_1; omega))) fun ac78 hf82 => ?_)
        refine seq_one (op_val (v := .int .i64 ((i + 1 : Nat) : Int)) hf82 rfl rfl rfl rfl rfl rfl (r_assign rfl) fun ac79 hf83 => ?_)
        refine seq_end ?_
        clear hf79 ac76 hf80 ac77 hf81 ac78 hf82
        refine then_normal ?_
        exact ⟨(i + 1, (addX xs n k ii6 nn6), (addX ys n k ii6 nn6), zs), (hf83.cons 0 rfl (hf83.cons 1 rfl (hf83.cons 2 rfl (hf83.cons 7 rfl (hf83.cons 8 rfl (hf83.cons 9 rfl (hf83.cons 10 rfl (hf83.cons 11 rfl (hf83.cons 12 rfl (hf83.cons 13 rfl (hf83.cons 14 rfl (hf83.cons 15 rfl (hf83.cons 23 rfl (hf83.cons 24 rfl (hf83.cons 25 rfl (hf83.cons 26 rfl (hf83.cons 27 rfl (hf83.cons 28 rfl (hf83.cons 29 rfl (hf83.cons 30 rfl (hf83.cons 31 rfl (hf83.cons 32 rfl (hf83.cons 33 rfl (hf83.cons 34 rfl (hf83.cons 35 rfl (hf83.cons 36 rfl (hf83.cons 37 rfl (hf83.cons 38 rfl (hf83.cons 39 rfl (hf83.cons 40 rfl (hf83.cons 41 rfl (hf83.cons 42 rfl (hf83.cons 43 rfl (hf83.cons 44 rfl (hf83.cons 45 rfl (hf83.cons 46 rfl (hf83.cons 16 rfl hf83.nil))))))))))))))))))))))))))))))))))))), ⟨hI9, ⟨by have := of_decide_eq_true g51_1; omega, hx1.2.add⟩⟩, (by have := of_decide_eq_true g51_1; show L - (i + 1) < L - i; omega)⟩
      · have hf84 := hf53.know 62 (u := .bool false) rfl (congrArg Value.bool c62_3)
        refine wp_skip ?_
        refine then_normal ?_
        refine code_seq ?_
        refine seq_start (l := [0, 1, 2]) rfl ?_
        refine seq_one (op_val (v := .pointer (some ⟨b2, 0, none⟩)) hf84 rfl rfl rfl rfl rfl rfl (r_move rfl) fun ac80 hf85 => ?_)
        refine seq_one (op_call (R := fun v w' => ∃ b m, Array.size (World.heap _) ≤ b ∧ n + m ≤ maxLen ∧ v = .slice (some ⟨b, 0, none⟩) n (n + m) ∧ Inv _ [(b1, arr .u64 (List.replicate n 0), 24), (b2, #[.slice (some ⟨b1, 0, none⟩) n n, .int .i64 (k : Int)], 58), (b, arr .u64 (xs ++ List.replicate m 0), 24)] w') hf85 rfl rfl rfl rfl ca_14 ((drain_walk hx1.2.lx hn1 hn2 (hI6.ne (i := 0) (j := 1) rfl rfl (by decide)) (Has.cons (hI6.at 0 rfl) (Has.cons (hI6.at 1 rfl) Has.nil))).mono fun e w' ⟨b, m, h1, h2, h3, h4⟩ => ⟨_, h3, b, m, h1, h2, rfl, h4⟩) fun ac81 v wd7 hR hf86 => ?_)
        obtain ⟨b7, m7, hqb7, hm7, rfl, hwb7⟩ := hR
        have hb7 := Nat.le_trans hI6.size hqb7
        have hI10 : Inv w [(b1, arr .u64 (List.replicate n 0), 24), (b2, #[.slice (some ⟨b1, 0, none⟩) n n, .int .i64 (k : Int)], 58), (b3, arr .u64 ys, 24), (b4, #[.slice (some ⟨b3, 0, none⟩) n n, .int .i64 (k : Int)], 58), (b5, arr .u64 zs, 24), (b7, arr .u64 (xs ++ List.replicate m7 0), 24)] _ := Inv.callS (A := []) (S := [(b1, arr .u64 xs, 24), (b2, #[.slice (some ⟨b1, 0, none⟩) n n, .int .i64 (k : Int)], 58)]) (S' := [(b1, arr .u64 (List.replicate n 0), 24), (b2, #[.slice (some ⟨b1, 0, none⟩) n n, .int .i64 (k : Int)], 58)]) (L := [(b3, arr .u64 ys, 24), (b4, #[.slice (some ⟨b3, 0, none⟩) n n, .int .i64 (k : Int)], 58), (b5, arr .u64 zs, 24)]) (N := [(b7, arr .u64 (xs ++ List.replicate m7 0), 24)]) hI6 hwb7 rfl (fun x hx => by simp only [List.mem_singleton] at hx; subst hx; exact hqb7)
        refine seq_one (op_val (v := .slice (some ⟨b7, 0, none⟩) n (n + m7)) hf86 rfl rfl rfl rfl rfl rfl (r_assign rfl) fun ac82 hf87 => ?_)
        refine seq_end ?_
        clear hf53 ac51 hf84 ac80 wd4 hf85 hI6 hwb7 hqb7 ac81 hf86
        refine then_normal ?_
        refine code_seq ?_
        refine code_seq ?_
        refine code_join 153 ([(0, .int .u8 a), (1, .int .u8 b), (2, .slice p L cap), (7, .pointer (some ⟨b2, 0, none⟩)), (8, .int .i64 (n : Int)), (9, .int .u64 (pw k - 1)), (10, .bool true), (11, .pointer (some ⟨b4, 0, none⟩)), (12, .int .i64 (n : Int)), (13, .int .u64 (pw k - 1)), (14, .bool true), (15, .slice (some ⟨b5, 0, none⟩) n n), (16, .int .i64 (i : Int)), (17, .slice (some ⟨b7, 0, none⟩) n (n + m7)), (23, .tuple #[.pointer (some ⟨b2, 0, none⟩), .int .i64 (n : Int), .int .u64 (pw k - 1), .bool true]), (24, .int .u8 a), (25, .int .u8 b), (26, .tuple #[.pointer (some ⟨b2, 0, none⟩), .int .i64 (n : Int), .int .u64 (pw k - 1), .bool true]), (27, .pointer (some ⟨b2, 0, none⟩)), (28, .int .i64 (n : Int)), (29, .int .u64 (pw k - 1)), (30, .bool true), (31, .tuple #[.pointer (some ⟨b4, 0, none⟩), .int .i64 (n : Int), .int .u64 (pw k - 1), .bool true]), (32, .int .u8 a), (33, .int .u8 b), (34, .tuple #[.pointer (some ⟨b4, 0, none⟩), .int .i64 (n : Int), .int .u64 (pw k - 1), .bool true]), (35, .pointer (some ⟨b4, 0, none⟩)), (36, .int .i64 (n : Int)), (37, .int .u64 (pw k - 1)), (38, .bool true), (39, .bool true), (40, .bool false), (41, .bool false), (42, .bool true), (43, .bool false), (44, .bool false), (45, .int .i64 (n : Int)), (46, .slice (some ⟨b5, 0, none⟩) n n), (47, .int .i64 (i : Int)), (48, .slice p L cap), (49, .int .i64 (L : Int)), (50, .bool (decide ((i : Int) < (L : Int)))), (51, .bool true), (52, .int .i64 (i : Int)), (53, .bool (decide ((i : Int) < 40))), (54, .bool true), (57, .slice p L cap), (58, .int .i64 (i : Int)), (59, .pointer (slAt p (i * 3))), (60, .pointer (slAt p (i * 3 + 0))), (61, .int .u8 kd6), (62, .bool false), (88, .pointer (some ⟨b2, 0, none⟩)), (89, .slice (some ⟨b7, 0, none⟩) n (n + m7)), (101, .bool false)]) (fun w' => Inv w [(b1, arr .u64 (List.replicate n 0), 24), (b2, #[.slice (some ⟨b1, 0, none⟩) n n, .int .i64 (k : Int)], 58), (b3, arr .u64 ys, 24), (b4, #[.slice (some ⟨b3, 0, none⟩) n n, .int .i64 (k : Int)], 58), (b5, arr .u64 zs, 24), (b7, arr .u64 (xs ++ List.replicate m7 0), 24)] w') ?_ ?_
        ·
          refine any_start (fun w => Has [] w) follows (Has.drew Has.nil) ?_
          have hS4 : ∀ {w : World}, Has [] w := Has.nil
          have hI11 := hI10.drew
          refine any_val (i := 0) (v := .slice (some ⟨b7, 0, none⟩) n (n + m7)) hf87 rfl rfl rfl rfl rfl rfl (fun _ _ _ h => h) (by kernel_rfl) (by kernel_rfl) (by kernel_rfl) (fun wd7 hS4 => (r_move rfl)) hS4 fun ac83 hf88 => ?_
          refine any_val (i := 1) (v := .int .i64 (n : Int)) hf88 rfl rfl rfl rfl rfl rfl (fun _ _ _ h => h) (by kernel_rfl) (by kernel_rfl) (by kernel_rfl) (fun wd7 hS4 => (r_len sl_23 rfl)) hS4 fun ac84 hf89 => ?_
          refine any_val (i := 2) (v := .int .i64 (n : Int)) hf89 rfl rfl rfl rfl rfl rfl (fun _ _ _ h => h) (by kernel_rfl) (by kernel_rfl) (by kernel_rfl) (fun wd7 hS4 => (r_move rfl)) hS4 fun ac85 hf90 => ?_
          refine any_val (i := 3) (v := .bool ((n : Int) != (n : Int))) hf90 rfl rfl rfl rfl rfl rfl (fun _ _ _ h => h) (by kernel_rfl) (by kernel_rfl) (by kernel_rfl) (fun wd7 hS4 => (r_neq rfl rfl)) hS4 fun ac86 hf91 => ?_
          refine any_val (i := 4) (v := .bool ((n : Int) != (n : Int))) hf91 rfl rfl rfl rfl rfl rfl (fun _ _ _ h => h) (by kernel_rfl) (by kernel_rfl) (by kernel_rfl) (fun wd7 hS4 => (r_move rfl)) hS4 fun ac87 hf92 => ?_
          have hf93 := hf92.know 94 (u := .bool false) rfl (congrArg Value.bool (bne_self_eq_false _))
          refine any_val (i := 5) (v := .pointer (some ⟨b2, 0, none⟩)) hf93 rfl rfl rfl rfl rfl rfl (fun _ _ _ h => h) (by kernel_rfl) (by kernel_rfl) (by kernel_rfl) (fun wd7 hS4 => (r_move rfl)) hS4 fun ac88 hf94 => ?_
          refine any_val (i := 7) (v := .int .i64 (n : Int)) hf94 rfl rfl rfl rfl rfl rfl (fun _ _ _ h => h) (by kernel_rfl) (by kernel_rfl) (by kernel_rfl) (fun wd7 hS4 => (r_move rfl)) hS4 fun ac89 hf95 => ?_
          refine any_two (i := 6) (j := 8) (by kernel_rfl) ?_ ?_
          ·
            refine (op_call (R := fun v w' => ∃ b m, Array.size (World.heap _) ≤ b ∧ n + m ≤ maxLen ∧ v = .slice (some ⟨b, 0, none⟩) n (n + m) ∧ Inv _ [(b, arr .u64 (List.replicate n 0 ++ List.replicate m 0), 24)] w') hf95 rfl rfl rfl rfl ca_20 ((all_walk (len_rep n) hn1 hn2 (hI11.ne (i := 0) (j := 1) rfl rfl (by decide)) (Has.cons (hI11.at 0 rfl) (Has.cons (hI11.at 1 rfl) Has.nil))).mono fun e w' ⟨b, m, h1, h2, h3, h4⟩ => ⟨_, h3, b, m, h1, h2, rfl, h4⟩) fun ac90 v wd8 hR hf96 => ?_)
            obtain ⟨b8, m8, hqb8, hm8, rfl, hwb8⟩ := hR
            have hb8 := Nat.le_trans hI11.size hqb8
            have hI12 : Inv w [(b1, arr .u64 (List.replicate n 0), 24), (b2, #[.slice (some ⟨b1, 0, none⟩) n n, .int .i64 (k : Int)], 58), (b3, arr .u64 ys, 24), (b4, #[.slice (some ⟨b3, 0, none⟩) n n, .int .i64 (k : Int)], 58), (b5, arr .u64 zs, 24), (b7, arr .u64 (xs ++ List.replicate m7 0), 24), (b8, arr .u64 (List.replicate n 0 ++ List.replicate m8 0), 24)] _ := hI11.callN hwb8 (fun x hx => by simp only [List.mem_singleton] at hx; subst hx; exact hqb8)
            refine ⟨?_, ?_⟩
            · exact Has.nil
            have hS5 : ∀ {w : World}, Has [] w := Has.nil
            refine any_one (i := 8) (by kernel_rfl) ?_
            refine (op_make (m := n) hf96 rfl rfl rfl us_23 if_24 rfl rfl rfl (by omega) (by omega) hI12 fun ac91 b9 wd9 hb9 hI13 hf97 => ?_)
            rw [arr_rep] at hI13
            refine ⟨?_, ?_⟩
            · exact Has.nil
            have hI14 : Inv w [(b1, arr .u64 (List.replicate n 0), 24), (b2, #[.slice (some ⟨b1, 0, none⟩) n n, .int .i64 (k : Int)], 58), (b3, arr .u64 ys, 24), (b4, #[.slice (some ⟨b3, 0, none⟩) n n, .int .i64 (k : Int)], 58), (b5, arr .u64 zs, 24), (b7, arr .u64 (xs ++ List.replicate m7 0), 24), (b8, arr .u64 (List.replicate n 0 ++ List.replicate m8 0), 24), (b9, arr .u64 (List.replicate n 0), 24)] wd9 := hI13
            have hS6 : ∀ {w : World}, Has [] w := Has.nil
            refine any_one (i := 9) (by kernel_rfl) ?_
            refine (op_pureW hf97 rfl rfl rfl rfl ca_15 (same_walk (xs := List.replicate n 0) (ys := List.replicate n 0) (len_rep n) (len_rep n) (by omega) (Rd.blk (xs := List.replicate n 0) (hI14.at 6 rfl) arr_take2) (Rd.blk (xs := List.replicate n 0) (hI14.at 7 rfl) arr_take)) hI14 fun ac92 wd10 hI15 hf98 => ⟨?_, ?_⟩)
            · exact Has.nil
            have hS7 : ∀ {w : World}, Has [] w := Has.nil
            refine any_val (i := 10) (v := .bool (!((List.replicate n 0) == (List.replicate n 0)))) hf98 rfl rfl rfl rfl rfl rfl (fun _ _ _ h => h) (by kernel_rfl) (by kernel_rfl) (by kernel_rfl) (fun wd10 hS7 => (r_not rfl)) hS7 fun ac93 hf99 => ?_
            refine any_val (i := 11) (v := .bool (!((List.replicate n 0) == (List.replicate n 0)))) hf99 rfl rfl rfl rfl rfl rfl (fun _ _ _ h => h) (by kernel_rfl) (by kernel_rfl) (by kernel_rfl) (fun wd10 hS7 => (r_pickF rfl rfl)) hS7 fun ac94 hf100 => ?_
            refine any_end (by kernel_rfl) ?_
            clear hI10 ac82 hf87 ac83 hf88 ac84 hf89 ac85 hf90 ac86 hf91 hf92 ac87 hf93 ac88 hf94 ac89 wd7 hf95 hI11 hwb8 hqb8 hS4 ac90 wd8 hI12 hf96 hI13 hS5 ac91 wd9 hI14 hf97 hS6 ac92 hf98 ac93 hf99 hS7
            refine then_normal ?_
            have hf101 := hf100.know 101 (u := .bool false) rfl (congrArg Value.bool (by rw [beq_self_eq_true]; rfl))
            clear hf100
            exact ⟨(hf101.cons 0 rfl (hf101.cons 1 rfl (hf101.cons 2 rfl (hf101.cons 7 rfl (hf101.cons 8 rfl (hf101.cons 9 rfl (hf101.cons 10 rfl (hf101.cons 11 rfl (hf101.cons 12 rfl (hf101.cons 13 rfl (hf101.cons 14 rfl (hf101.cons 15 rfl (hf101.cons 16 rfl (hf101.cons 17 rfl (hf101.cons 23 rfl (hf101.cons 24 rfl (hf101.cons 25 rfl (hf101.cons 26 rfl (hf101.cons 27 rfl (hf101.cons 28 rfl (hf101.cons 29 rfl (hf101.cons 30 rfl (hf101.cons 31 rfl (hf101.cons 32 rfl (hf101.cons 33 rfl (hf101.cons 34 rfl (hf101.cons 35 rfl (hf101.cons 36 rfl (hf101.cons 37 rfl (hf101.cons 38 rfl (hf101.cons 39 rfl (hf101.cons 40 rfl (hf101.cons 41 rfl (hf101.cons 42 rfl (hf101.cons 43 rfl (hf101.cons 44 rfl (hf101.cons 45 rfl (hf101.cons 46 rfl (hf101.cons 47 rfl (hf101.cons 48 rfl (hf101.cons 49 rfl (hf101.cons 50 rfl (hf101.cons 51 rfl (hf101.cons 52 rfl (hf101.cons 53 rfl (hf101.cons 54 rfl (hf101.cons 57 rfl (hf101.cons 58 rfl (hf101.cons 59 rfl (hf101.cons 60 rfl (hf101.cons 61 rfl (hf101.cons 62 rfl (hf101.cons 88 rfl (hf101.cons 89 rfl (hf101.cons 101 rfl hf101.nil))))))))))))))))))))))))))))))))))))))))))))))))))))))), (Inv.drop (A := [(b1, arr .u64 (List.replicate n 0), 24), (b2, #[.slice (some ⟨b1, 0, none⟩) n n, .int .i64 (k : Int)], 58), (b3, arr .u64 ys, 24), (b4, #[.slice (some ⟨b3, 0, none⟩) n n, .int .i64 (k : Int)], 58), (b5, arr .u64 zs, 24), (b7, arr .u64 (xs ++ List.replicate m7 0), 24)]) (B := [(b8, arr .u64 (List.replicate n 0 ++ List.replicate m8 0), 24), (b9, arr .u64 (List.replicate n 0), 24)]) hI15 (fresh_keys (ks := [b8, b9]) rfl (fk_cons hb8 (fk_cons hb9 fk_nil))))⟩
          ·
            refine (op_make (m := n) hf95 rfl rfl rfl us_23 if_24 rfl rfl rfl (by omega) (by omega) hI11 fun ac95 b8 wd11 hb8 hI16 hf102 => ?_)
            rw [arr_rep] at hI16
            refine ⟨?_, ?_⟩
            · exact Has.nil
            have hI17 : Inv w [(b1, arr .u64 (List.replicate n 0), 24), (b2, #[.slice (some ⟨b1, 0, none⟩) n n, .int .i64 (k : Int)], 58), (b3, arr .u64 ys, 24), (b4, #[.slice (some ⟨b3, 0, none⟩) n n, .int .i64 (k : Int)], 58), (b5, arr .u64 zs, 24), (b7, arr .u64 (xs ++ List.replicate m7 0), 24), (b8, arr .u64 (List.replicate n 0), 24)] wd11 := hI16
            have hS8 : ∀ {w : World}, Has [] w := Has.nil
            refine any_one (i := 6) (by kernel_rfl) ?_
            refine (op_call (R := fun v w' => ∃ b m, Array.size (World.heap _) ≤ b ∧ n + m ≤ maxLen ∧ v = .slice (some ⟨b, 0, none⟩) n (n + m) ∧ Inv _ [(b, arr .u64 (List.replicate n 0 ++ List.replicate m 0), 24)] w') hf102 rfl rfl rfl rfl ca_20 ((all_walk (len_rep n) hn1 hn2 (hI17.ne (i := 0) (j := 1) rfl rfl (by decide)) (Has.cons (hI17.at 0 rfl) (Has.cons (hI17.at 1 rfl) Has.nil))).mono fun e w' ⟨b, m, h1, h2, h3, h4⟩ => ⟨_, h3, b, m, h1, h2, rfl, h4⟩) fun ac96 v wd12 hR hf103 => ?_)
            obtain ⟨b9, m9, hqb9, hm9, rfl, hwb9⟩ := hR
            have hb9 := Nat.le_trans hI17.size hqb9
            have hI18 : Inv w [(b1, arr .u64 (List.replicate n 0), 24), (b2, #[.slice (some ⟨b1, 0, none⟩) n n, .int .i64 (k : Int)], 58), (b3, arr .u64 ys, 24), (b4, #[.slice (some ⟨b3, 0, none⟩) n n, .int .i64 (k : Int)], 58), (b5, arr .u64 zs, 24), (b7, arr .u64 (xs ++ List.replicate m7 0), 24), (b8, arr .u64 (List.replicate n 0), 24), (b9, arr .u64 (List.replicate n 0 ++ List.replicate m9 0), 24)] _ := hI17.callN hwb9 (fun x hx => by simp only [List.mem_singleton] at hx; subst hx; exact hqb9)
            refine ⟨?_, ?_⟩
            · exact Has.nil
            have hS9 : ∀ {w : World}, Has [] w := Has.nil
            refine any_one (i := 9) (by kernel_rfl) ?_
            refine (op_pureW hf103 rfl rfl rfl rfl ca_15 (same_walk (xs := List.replicate n 0) (ys := List.replicate n 0) (len_rep n) (len_rep n) (by omega) (Rd.blk (xs := List.replicate n 0) (hI18.at 7 rfl) arr_take2) (Rd.blk (xs := List.replicate n 0) (hI18.at 6 rfl) arr_take)) hI18 fun ac97 wd13 hI19 hf104 => ⟨?_, ?_⟩)
            · exact Has.nil
            have hS10 : ∀ {w : World}, Has [] w := Has.nil
            refine any_val (i := 10) (v := .bool (!((List.replicate n 0) == (List.replicate n 0)))) hf104 rfl rfl rfl rfl rfl rfl (fun _ _ _ h => h) (by kernel_rfl) (by kernel_rfl) (by kernel_rfl) (fun wd13 hS10 => (r_not rfl)) hS10 fun ac98 hf105 => ?_
            refine any_val (i := 11) (v := .bool (!((List.replicate n 0) == (List.replicate n 0)))) hf105 rfl rfl rfl rfl rfl rfl (fun _ _ _ h => h) (by kernel_rfl) (by kernel_rfl) (by kernel_rfl) (fun wd13 hS10 => (r_pickF rfl rfl)) hS10 fun ac99 hf106 => ?_
            refine any_end (by kernel_rfl) ?_
            clear hI10 ac82 hf87 ac83 hf88 ac84 hf89 ac85 hf90 ac86 hf91 hf92 ac87 hf93 ac88 hf94 ac89 wd7 hI11 hf95 hI16 hS4 ac95 wd11 hf102 hI17 hwb9 hqb9 hS8 ac96 wd12 hI18 hf103 hS9 ac97 hf104 ac98 hf105 hS10
            refine then_normal ?_
            have hf107 := hf106.know 101 (u := .bool false) rfl (congrArg Value.bool (by rw [beq_self_eq_true]; rfl))
            clear hf106
            exact ⟨(hf107.cons 0 rfl (hf107.cons 1 rfl (hf107.cons 2 rfl (hf107.cons 7 rfl (hf107.cons 8 rfl (hf107.cons 9 rfl (hf107.cons 10 rfl (hf107.cons 11 rfl (hf107.cons 12 rfl (hf107.cons 13 rfl (hf107.cons 14 rfl (hf107.cons 15 rfl (hf107.cons 16 rfl (hf107.cons 17 rfl (hf107.cons 23 rfl (hf107.cons 24 rfl (hf107.cons 25 rfl (hf107.cons 26 rfl (hf107.cons 27 rfl (hf107.cons 28 rfl (hf107.cons 29 rfl (hf107.cons 30 rfl (hf107.cons 31 rfl (hf107.cons 32 rfl (hf107.cons 33 rfl (hf107.cons 34 rfl (hf107.cons 35 rfl (hf107.cons 36 rfl (hf107.cons 37 rfl (hf107.cons 38 rfl (hf107.cons 39 rfl (hf107.cons 40 rfl (hf107.cons 41 rfl (hf107.cons 42 rfl (hf107.cons 43 rfl (hf107.cons 44 rfl (hf107.cons 45 rfl (hf107.cons 46 rfl (hf107.cons 47 rfl (hf107.cons 48 rfl (hf107.cons 49 rfl (hf107.cons 50 rfl (hf107.cons 51 rfl (hf107.cons 52 rfl (hf107.cons 53 rfl (hf107.cons 54 rfl (hf107.cons 57 rfl (hf107.cons 58 rfl (hf107.cons 59 rfl (hf107.cons 60 rfl (hf107.cons 61 rfl (hf107.cons 62 rfl (hf107.cons 88 rfl (hf107.cons 89 rfl (hf107.cons 101 rfl hf107.nil))))))))))))))))))))))))))))))))))))))))))))))))))))))), (Inv.drop (A := [(b1, arr .u64 (List.replicate n 0), 24), (b2, #[.slice (some ⟨b1, 0, none⟩) n n, .int .i64 (k : Int)], 58), (b3, arr .u64 ys, 24), (b4, #[.slice (some ⟨b3, 0, none⟩) n n, .int .i64 (k : Int)], 58), (b5, arr .u64 zs, 24), (b7, arr .u64 (xs ++ List.replicate m7 0), 24)]) (B := [(b8, arr .u64 (List.replicate n 0), 24), (b9, arr .u64 (List.replicate n 0 ++ List.replicate m9 0), 24)]) hI19 (fresh_keys (ks := [b8, b9]) rfl (fk_cons hb8 (fk_cons hb9 fk_nil))))⟩
        ·
          intro ac100 wd14 hf108 hI20
          clear ac82 wd7 hf87 hI10
          refine then_normal ?_
          refine code_if_false hf108 rfl ?_
          refine wp_skip ?_
          refine then_normal ?_
          refine code_seq ?_
          refine seq_start (l := [0, 1, 2]) rfl ?_
          refine seq_one (op_val (v := .slice (some ⟨b7, 0, none⟩) n (n + m7)) hf108 rfl rfl rfl rfl rfl rfl (r_move rfl) fun ac101 hf109 => ?_)
          refine seq_one (op_val (v := .int .i64 (n : Int)) hf109 rfl rfl rfl rfl rfl rfl (r_len sl_23 rfl) fun ac102 hf110 => ?_)
          refine seq_one (op_val (v := .int .i64 0) hf110 rfl rfl rfl rfl rfl rfl (r_move rfl) fun ac103 hf111 => ?_)
          refine seq_end ?_
          clear ac100 hf108 ac101 hf109 ac102 hf110
          refine then_normal ?_
          refine wp_block ?_
          refine code_loop (α := Nat × (List Int)) (fun (x : Nat × (List Int)) => match x with | (d, ts) => [(0, .int .u8 a), (1, .int .u8 b), (2, .slice p L cap), (7, .pointer (some ⟨b2, 0, none⟩)), (8, .int .i64 (n : Int)), (9, .int .u64 (pw k - 1)), (10, .bool true), (11, .pointer (some ⟨b4, 0, none⟩)), (12, .int .i64 (n : Int)), (13, .int .u64 (pw k - 1)), (14, .bool true), (15, .slice (some ⟨b5, 0, none⟩) n n), (16, .int .i64 (i : Int)), (17, .slice (some ⟨b7, 0, none⟩) n (n + m7)), (23, .tuple #[.pointer (some ⟨b2, 0, none⟩), .int .i64 (n : Int), .int .u64 (pw k - 1), .bool true]), (24, .int .u8 a), (25, .int .u8 b), (26, .tuple #[.pointer (some ⟨b2, 0, none⟩), .int .i64 (n : Int), .int .u64 (pw k - 1), .bool true]), (27, .pointer (some ⟨b2, 0, none⟩)), (28, .int .i64 (n : Int)), (29, .int .u64 (pw k - 1)), (30, .bool true), (31, .tuple #[.pointer (some ⟨b4, 0, none⟩), .int .i64 (n : Int), .int .u64 (pw k - 1), .bool true]), (32, .int .u8 a), (33, .int .u8 b), (34, .tuple #[.pointer (some ⟨b4, 0, none⟩), .int .i64 (n : Int), .int .u64 (pw k - 1), .bool true]), (35, .pointer (some ⟨b4, 0, none⟩)), (36, .int .i64 (n : Int)), (37, .int .u64 (pw k - 1)), (38, .bool true), (39, .bool true), (40, .bool false), (41, .bool false), (42, .bool true), (43, .bool false), (44, .bool false), (45, .int .i64 (n : Int)), (46, .slice (some ⟨b5, 0, none⟩) n n), (47, .int .i64 (i : Int)), (48, .slice p L cap), (49, .int .i64 (L : Int)), (50, .bool (decide ((i : Int) < (L : Int)))), (51, .bool true), (52, .int .i64 (i : Int)), (53, .bool (decide ((i : Int) < 40))), (54, .bool true), (57, .slice p L cap), (58, .int .i64 (i : Int)), (59, .pointer (slAt p (i * 3))), (60, .pointer (slAt p (i * 3 + 0))), (61, .int .u8 kd6), (62, .bool false), (88, .pointer (some ⟨b2, 0, none⟩)), (89, .slice (some ⟨b7, 0, none⟩) n (n + m7)), (101, .bool false), (102, .slice (some ⟨b7, 0, none⟩) n (n + m7)), (103, .int .i64 (n : Int)), (104, .int .i64 (d : Int))]) (fun (x : Nat × (List Int)) => match x with | (d, ts) => fun wL => Inv w [(b1, arr .u64 (List.replicate n 0), 24), (b2, #[.slice (some ⟨b1, 0, none⟩) n n, .int .i64 (k : Int)], 58), (b3, arr .u64 ys, 24), (b4, #[.slice (some ⟨b3, 0, none⟩) n n, .int .i64 (k : Int)], 58), (b5, arr .u64 ts, 24), (b7, arr .u64 (xs ++ List.replicate m7 0), 24)] wL ∧ (Dl zs ts xs n k d)) (fun (x : Nat × (List Int)) => match x with | (d, ts) => n - d) (0, zs) (hf111.cons 0 rfl (hf111.cons 1 rfl (hf111.cons 2 rfl (hf111.cons 7 rfl (hf111.cons 8 rfl (hf111.cons 9 rfl (hf111.cons 10 rfl (hf111.cons 11 rfl (hf111.cons 12 rfl (hf111.cons 13 rfl (hf111.cons 14 rfl (hf111.cons 15 rfl (hf111.cons 16 rfl (hf111.cons 17 rfl (hf111.cons 23 rfl (hf111.cons 24 rfl (hf111.cons 25 rfl (hf111.cons 26 rfl (hf111.cons 27 rfl (hf111.cons 28 rfl (hf111.cons 29 rfl (hf111.cons 30 rfl (hf111.cons 31 rfl (hf111.cons 32 rfl (hf111.cons 33 rfl (hf111.cons 34 rfl (hf111.cons 35 rfl (hf111.cons 36 rfl (hf111.cons 37 rfl (hf111.cons 38 rfl (hf111.cons 39 rfl (hf111.cons 40 rfl (hf111.cons 41 rfl (hf111.cons 42 rfl (hf111.cons 43 rfl (hf111.cons 44 rfl (hf111.cons 45 rfl (hf111.cons 46 rfl (hf111.cons 47 rfl (hf111.cons 48 rfl (hf111.cons 49 rfl (hf111.cons 50 rfl (hf111.cons 51 rfl (hf111.cons 52 rfl (hf111.cons 53 rfl (hf111.cons 54 rfl (hf111.cons 57 rfl (hf111.cons 58 rfl (hf111.cons 59 rfl (hf111.cons 60 rfl (hf111.cons 61 rfl (hf111.cons 62 rfl (hf111.cons 88 rfl (hf111.cons 89 rfl (hf111.cons 101 rfl (hf111.cons 102 rfl (hf111.cons 103 rfl (hf111.cons 104 rfl hf111.nil)))))))))))))))))))))))))))))))))))))))))))))))))))))))))) ⟨hI20, (Dl.init hx1.2.lz)⟩ ?_
          intro ⟨d, ts⟩ ac104 wd15 hf112 hL2
          obtain ⟨hI21, hx2⟩ := hL2
          dsimp only at hf112 hI21 hx2
          clear ac103 wd14 hf111 hI20
          refine code_seq ?_
          refine seq_start (l := [0]) rfl ?_
          refine seq_one (op_val (v := .bool (decide ((d : Int) < (n : Int)))) hf112 rfl rfl rfl rfl rfl rfl (r_lss rfl rfl) fun ac105 hf113 => ?_)
          refine seq_end ?_
          clear ac104 hf112
          refine then_normal ?_
          refine code_seq ?_
          refine code_if hf113 rfl (fun c105_4 => ?_) (fun c105_4 => ?_)
          · have hf114 := hf113.know 105 (u := .bool true) rfl (congrArg Value.bool c105_4)
            refine wp_skip ?_
            refine then_normal ?_
            refine code_seq ?_
            refine wp_block ?_
            refine code_seq ?_
            refine seq_start (l := [0, 1, 2, 3, 4]) rfl ?_
            refine seq_one (op_val (v := .int .i64 (d : Int)) hf114 rfl rfl rfl rfl rfl rfl (r_move rfl) fun ac106 hf115 => ?_)
            refine seq_one (op_val (v := .pointer (some ⟨b7, d, none⟩)) hf115 rfl rfl rfl rfl rfl rfl (r_indexAddrS (i := d) sl_23 rfl rfl rfl (by have := of_decide_eq_true c105_4; omega) (by rw [Nat.mul_one, Nat.zero_add])) fun ac107 hf116 => ?_)
            refine seq_one (op_val (v := .int .u64 ((xs ++ List.replicate m7 0).getD d 0)) hf116 rfl rfl rfl rfl rfl rfl (r_load ag_24 rfl (hI21.at 5 rfl) (arr_get (Nat.lt_of_lt_of_eq (by have := of_decide_eq_true c105_4; omega) (Eq.symm ((by rw [List.length_append, List.length_replicate, hx1.2.lx]) : (xs ++ List.replicate m7 0).length = n + m7))))) fun ac108 hf117 => ?_)
            refine seq_one (op_val (v := .int .i64 (d : Int)) hf117 rfl rfl rfl rfl rfl rfl (r_assign rfl) fun ac109 hf118 => ?_)
            refine seq_one (op_val (v := .int .u64 ((xs ++ List.replicate m7 0).getD d 0)) hf118 rfl rfl rfl rfl rfl rfl (r_assign rfl) fun ac110 hf119 => ?_)
            refine seq_end ?_
            clear hf113 ac105 hf114 ac106 hf115 ac107 hf116 ac108 hf117 ac109 hf118
            refine then_normal ?_
            refine seq_start (l := [0, 1, 2, 3, 4, 5, 6, 7, 8, 9, 10, 11]) rfl ?_
            refine seq_one (op_val (v := .slice (some ⟨b5, 0, none⟩) n n) hf119 rfl rfl rfl rfl rfl rfl (r_move rfl) fun ac111 hf120 => ?_)
            refine seq_one (op_val (v := .int .i64 (d : Int)) hf120 rfl rfl rfl rfl rfl rfl (r_move rfl) fun ac112 hf121 => ?_)
            refine seq_one (op_val (v := .slice (some ⟨b5, 0, none⟩) n n) hf121 rfl rfl rfl rfl rfl rfl (r_move rfl) fun ac113 hf122 => ?_)
            refine seq_one (op_val (v := .int .i64 (d : Int)) hf122 rfl rfl rfl rfl rfl rfl (r_move rfl) fun ac114 hf123 => ?_)
            refine seq_one (op_val (v := .pointer (some ⟨b5, d, none⟩)) hf123 rfl rfl rfl rfl rfl rfl (r_indexAddrS (i := d) sl_23 rfl rfl rfl (by have := of_decide_eq_true c105_4; omega) (by rw [Nat.mul_one, Nat.zero_add])) fun ac115 hf124 => ?_)
            refine seq_one (op_val (v := .int .u64 (ts.getD d 0)) hf124 rfl rfl rfl rfl rfl rfl (r_load ag_24 rfl (hI21.at 4 rfl) (arr_get (Nat.lt_of_lt_of_eq (by have := of_decide_eq_true c105_4; omega) (Eq.symm hx2.len)))) fun ac116 hf125 => ?_)
            refine seq_one (op_val (v := .int .u64 ((xs ++ List.replicate m7 0).getD d 0)) hf125 rfl rfl rfl rfl rfl rfl (r_move rfl) fun ac117 hf126 => ?_)
            refine seq_one (op_val (v := .int .u64 (IntKind.wrap .u64 ((ts.getD d 0) + ((xs ++ List.replicate m7 0).getD d 0)))) hf126 rfl rfl rfl rfl rfl rfl (r_add rfl rfl rfl) fun ac118 hf127 => ?_)
            refine seq_one (op_val (v := .int .u64 (pw k - 1)) hf127 rfl rfl rfl rfl rfl rfl (r_move rfl) fun ac119 hf128 => ?_)
            refine seq_one (op_val (v := .int .u64 (((ts.getD d 0) + ((xs ++ List.replicate m7 0).getD d 0)) % pw k)) hf128 rfl rfl rfl rfl rfl rfl (r_and (c := (((ts.getD d 0) + ((xs ++ List.replicate m7 0).getD d 0)) % pw k)) rfl rfl (and_wr hk1 hk2)) fun ac120 hf129 => ?_)
            refine seq_one (op_val (v := .pointer (some ⟨b5, d, none⟩)) hf129 rfl rfl rfl rfl rfl rfl (r_indexAddrS (i := d) sl_23 rfl rfl rfl (by have := of_decide_eq_true c105_4; omega) (by rw [Nat.mul_one, Nat.zero_add])) fun ac121 hf130 => ?_)
            refine seq_one (op_store (cs' := arr .u64 (ts.set d (((ts.getD d 0) + ((xs ++ List.replicate m7 0).getD d 0)) % pw k))) 4 hf130 rfl rfl rfl rfl rfl sz_24 hI21 rfl (Nat.lt_of_lt_of_eq (by have := of_decide_eq_true c105_4; omega) (Eq.symm (arr_size hx2.len))) arr_set fun wd16 hI22 => ?_)
            have hI23 : Inv w [(b1, arr .u64 (List.replicate n 0), 24), (b2, #[.slice (some ⟨b1, 0, none⟩) n n, .int .i64 (k : Int)], 58), (b3, arr .u64 ys, 24), (b4, #[.slice (some ⟨b3, 0, none⟩) n n, .int .i64 (k : Int)], 58), (b5, arr .u64 (ts.set d (((ts.getD d 0) + ((xs ++ List.replicate m7 0).getD d 0)) % pw k)), 24), (b7, arr .u64 (xs ++ List.replicate m7 0), 24)] wd16 := hI22
            refine seq_end ?_
            clear ac110 hf119 ac111 hf120 ac112 hf121 ac113 hf122 ac114 hf123 ac115 hf124 ac116 hf125 ac117 hf126 ac118 hf127 ac119 hf128 ac120 hf129 wd15 hI21 hI22
            refine block_normal ?_
            refine then_normal ?_
            refine seq_start (l := [0, 1]) rfl ?_
            refine seq_one (op_val (v := .int .i64 ((d + 1 : Nat) : Int)) hf130 rfl rfl rfl rfl rfl rfl (r_add (c := ((d + 1 : Nat) : Int)) rfl rfl (wrap_i64 (by omega) (by have := hx2.le; omega))) fun ac122 hf131 => ?_)
            refine seq_one (op_val (v := .int .i64 ((d + 1 : Nat) : Int)) hf131 rfl rfl rfl rfl rfl rfl (r_move rfl) fun ac123 hf132 => ?_)
            refine seq_end ?_
            clear ac121 hf130 ac122 hf131
            refine then_normal ?_
            exact ⟨(d + 1, (ts.set d (((ts.getD d 0) + ((xs ++ List.replicate m7 0).getD d 0)) % pw k))), (hf132.cons 0 rfl (hf132.cons 1 rfl (hf132.cons 2 rfl (hf132.cons 7 rfl (hf132.cons 8 rfl (hf132.cons 9 rfl (hf132.cons 10 rfl (hf132.cons 11 rfl (hf132.cons 12 rfl (hf132.cons 13 rfl (hf132.cons 14 rfl (hf132.cons 15 rfl (hf132.cons 16 rfl (hf132.cons 17 rfl (hf132.cons 23 rfl (hf132.cons 24 rfl (hf132.cons 25 rfl (hf132.cons 26 rfl (hf132.cons 27 rfl (hf132.cons 28 rfl (hf132.cons 29 rfl (hf132.cons 30 rfl (hf132.cons 31 rfl (hf132.cons 32 rfl (hf132.cons 33 rfl (hf132.cons 34 rfl (hf132.cons 35 rfl (hf132.cons 36 rfl (hf132.cons 37 rfl (hf132.cons 38 rfl (hf132.cons 39 rfl (hf132.cons 40 rfl (hf132.cons 41 rfl (hf132.cons 42 rfl (hf132.cons 43 rfl (hf132.cons 44 rfl (hf132.cons 45 rfl (hf132.cons 46 rfl (hf132.cons 47 rfl (hf132.cons 48 rfl (hf132.cons 49 rfl (hf132.cons 50 rfl (hf132.cons 51 rfl (hf132.cons 52 rfl (hf132.cons 53 rfl (hf132.cons 54 rfl (hf132.cons 57 rfl (hf132.cons 58 rfl (hf132.cons 59 rfl (hf132.cons 60 rfl (hf132.cons 61 rfl (hf132.cons 62 rfl (hf132.cons 88 rfl (hf132.cons 89 rfl (hf132.cons 101 rfl (hf132.cons 102 rfl (hf132.cons 103 rfl (hf132.cons 104 rfl hf132.nil)))))))))))))))))))))))))))))))))))))))))))))))))))))))))), ⟨hI23, (hx2.step hx1.2.lx (by have := of_decide_eq_true c105_4; omega))⟩, (by have := of_decide_eq_true c105_4; show n - (d + 1) < n - d; omega)⟩
          · have hf133 := hf113.know 105 (u := .bool false) rfl (congrArg Value.bool c105_4)
            refine wp_exit ?_
            refine then_exit ?_
            refine then_exit ?_
            refine block_here ?_
            refine block_normal ?_
            refine then_normal ?_
            refine seq_start (l := [0, 1, 2]) rfl ?_
            refine seq_one (op_val (v := .int .i64 (i : Int)) hf133 rfl rfl rfl rfl rfl rfl (r_move rfl) fun ac124 hf134 => ?_)
            refine seq_one (op_val (v := .int .i64 ((i + 1 : Nat) : Int)) hf134 rfl rfl rfl rfl rfl rfl (r_add (c := ((i + 1 : Nat) : Int)) rfl rfl (wrap_i64 (by omega) (by have := of_decide_eq_true g51_1; omega))) fun ac125 hf135 => ?_)
            refine seq_one (op_val (v := .int .i64 ((i + 1 : Nat) : Int)) hf135 rfl rfl rfl rfl rfl rfl (r_assign rfl) fun ac126 hf136 => ?_)
            refine seq_end ?_
            clear hf113 ac105 hf133 ac124 hf134 ac125 hf135
            refine then_normal ?_
            exact ⟨(i + 1, List.replicate n 0, ys, ts), (hf136.cons 0 rfl (hf136.cons 1 rfl (hf136.cons 2 rfl (hf136.cons 7 rfl (hf136.cons 8 rfl (hf136.cons 9 rfl (hf136.cons 10 rfl (hf136.cons 11 rfl (hf136.cons 12 rfl (hf136.cons 13 rfl (hf136.cons 14 rfl (hf136.cons 15 rfl (hf136.cons 23 rfl (hf136.cons 24 rfl (hf136.cons 25 rfl (hf136.cons 26 rfl (hf136.cons 27 rfl (hf136.cons 28 rfl (hf136.cons 29 rfl (hf136.cons 30 rfl (hf136.cons 31 rfl (hf136.cons 32 rfl (hf136.cons 33 rfl (hf136.cons 34 rfl (hf136.cons 35 rfl (hf136.cons 36 rfl (hf136.cons 37 rfl (hf136.cons 38 rfl (hf136.cons 39 rfl (hf136.cons 40 rfl (hf136.cons 41 rfl (hf136.cons 42 rfl (hf136.cons 43 rfl (hf136.cons 44 rfl (hf136.cons 45 rfl (hf136.cons 46 rfl (hf136.cons 16 rfl hf136.nil))))))))))))))))))))))))))))))))))))), ⟨(Inv.drop (A := [(b1, arr .u64 (List.replicate n 0), 24), (b2, #[.slice (some ⟨b1, 0, none⟩) n n, .int .i64 (k : Int)], 58), (b3, arr .u64 ys, 24), (b4, #[.slice (some ⟨b3, 0, none⟩) n n, .int .i64 (k : Int)], 58), (b5, arr .u64 ts, 24)]) (B := [(b7, arr .u64 (xs ++ List.replicate m7 0), 24)]) hI21 (fresh_keys (ks := [b7]) rfl (fk_cons hb7 fk_nil))), ⟨by have := of_decide_eq_true g51_1; omega, (hx1.2.drain hk1 hk2 hx2 (by have := of_decide_eq_false c105_4; omega))⟩⟩, (by have := of_decide_eq_true g51_1; show L - (i + 1) < L - i; omega)⟩
    · have hf137 := hf46.know 54 (u := .bool false) rfl (congrArg Value.bool c54_2)
      refine wp_exit ?_
      refine then_exit ?_
      refine then_exit ?_
      refine block_here ?_
      refine then_normal ?_
      refine code_seq ?_
      refine seq_start (l := [0, 1, 2]) rfl ?_
      refine seq_one (op_val (v := .pointer (some ⟨b2, 0, none⟩)) hf137 rfl rfl rfl rfl rfl rfl (r_move rfl) fun ac127 hf138 => ?_)
      refine seq_one (op_call (R := fun v w' => ∃ b m, Array.size (World.heap _) ≤ b ∧ n + m ≤ maxLen ∧ v = .slice (some ⟨b, 0, none⟩) n (n + m) ∧ Inv _ [(b, arr .u64 (xs ++ List.replicate m 0), 24)] w') hf138 rfl rfl rfl rfl ca_20 ((all_walk hx1.2.lx hn1 hn2 (hI6.ne (i := 0) (j := 1) rfl rfl (by decide)) (Has.cons (hI6.at 0 rfl) (Has.cons (hI6.at 1 rfl) Has.nil))).mono fun e w' ⟨b, m, h1, h2, h3, h4⟩ => ⟨_, h3, b, m, h1, h2, rfl, h4⟩) fun ac128 v wd17 hR hf139 => ?_)
      obtain ⟨b6, m6, hqb6, hm6, rfl, hwb6⟩ := hR
      have hb6 := Nat.le_trans hI6.size hqb6
      have hI24 : Inv w [(b1, arr .u64 xs, 24), (b2, #[.slice (some ⟨b1, 0, none⟩) n n, .int .i64 (k : Int)], 58), (b3, arr .u64 ys, 24), (b4, #[.slice (some ⟨b3, 0, none⟩) n n, .int .i64 (k : Int)], 58), (b5, arr .u64 zs, 24), (b6, arr .u64 (xs ++ List.replicate m6 0), 24)] _ := hI6.callN hwb6 (fun x hx => by simp only [List.mem_singleton] at hx; subst hx; exact hqb6)
      refine seq_one (op_val (v := .slice (some ⟨b6, 0, none⟩) n (n + m6)) hf139 rfl rfl rfl rfl rfl rfl (r_assign rfl) fun ac129 hf140 => ?_)
      refine seq_end ?_
      clear hf46 ac45 hf137 ac127 wd4 hf138 hI6 hwb6 hqb6 ac128 hf139
      refine then_normal ?_
      refine code_seq ?_
      refine code_seq ?_
      refine seq_start (l := [0, 1, 2, 3]) rfl ?_
      refine seq_one (op_val (v := .slice (some ⟨b6, 0, none⟩) n (n + m6)) hf140 rfl rfl rfl rfl rfl rfl (r_move rfl) fun ac130 hf141 => ?_)
      refine seq_one (op_val (v := .int .i64 (n : Int)) hf141 rfl rfl rfl rfl rfl rfl (r_len sl_23 rfl) fun ac131 hf142 => ?_)
      refine seq_one (op_val (v := .int .i64 (n : Int)) hf142 rfl rfl rfl rfl rfl rfl (r_move rfl) fun ac132 hf143 => ?_)
      refine seq_one (op_val (v := .bool ((n : Int) != (n : Int))) hf143 rfl rfl rfl rfl rfl rfl (r_neq rfl rfl) fun ac133 hf144 => ?_)
      refine seq_end ?_
      clear ac129 hf140 ac130 hf141 ac131 hf142 ac132 hf143
      refine then_normal ?_
      have hf145 := hf144.know 126 (u := .bool false) rfl (congrArg Value.bool (bne_self_eq_false _))
      refine code_if_false hf145 rfl ?_
      refine wp_skip ?_
      refine then_normal ?_
      refine code_seq ?_
      refine code_seq ?_
      refine seq_start (l := [0, 1, 2]) rfl ?_
      refine seq_one (op_val (v := .slice (some ⟨b6, 0, none⟩) n (n + m6)) hf145 rfl rfl rfl rfl rfl rfl (r_move rfl) fun ac134 hf146 => ?_)
      refine seq_one (op_val (v := .int .i64 (n : Int)) hf146 rfl rfl rfl rfl rfl rfl (r_len sl_23 rfl) fun ac135 hf147 => ?_)
      refine seq_one (op_val (v := .int .i64 0) hf147 rfl rfl rfl rfl rfl rfl (r_move rfl) fun ac136 hf148 => ?_)
      refine seq_end ?_
      clear hf144 ac133 hf145 ac134 hf146 ac135 hf147
      refine then_normal ?_
      refine wp_block ?_
      refine code_loop (α := Nat × (List Int)) (fun (x : Nat × (List Int)) => match x with | (d, ts) => [(0, .int .u8 a), (1, .int .u8 b), (2, .slice p L cap), (7, .pointer (some ⟨b2, 0, none⟩)), (8, .int .i64 (n : Int)), (9, .int .u64 (pw k - 1)), (10, .bool true), (11, .pointer (some ⟨b4, 0, none⟩)), (12, .int .i64 (n : Int)), (13, .int .u64 (pw k - 1)), (14, .bool true), (15, .slice (some ⟨b5, 0, none⟩) n n), (16, .int .i64 (i : Int)), (20, .slice (some ⟨b6, 0, none⟩) n (n + m6)), (23, .tuple #[.pointer (some ⟨b2, 0, none⟩), .int .i64 (n : Int), .int .u64 (pw k - 1), .bool true]), (24, .int .u8 a), (25, .int .u8 b), (26, .tuple #[.pointer (some ⟨b2, 0, none⟩), .int .i64 (n : Int), .int .u64 (pw k - 1), .bool true]), (27, .pointer (some ⟨b2, 0, none⟩)), (28, .int .i64 (n : Int)), (29, .int .u64 (pw k - 1)), (30, .bool true), (31, .tuple #[.pointer (some ⟨b4, 0, none⟩), .int .i64 (n : Int), .int .u64 (pw k - 1), .bool true]), (32, .int .u8 a), (33, .int .u8 b), (34, .tuple #[.pointer (some ⟨b4, 0, none⟩), .int .i64 (n : Int), .int .u64 (pw k - 1), .bool true]), (35, .pointer (some ⟨b4, 0, none⟩)), (36, .int .i64 (n : Int)), (37, .int .u64 (pw k - 1)), (38, .bool true), (39, .bool true), (40, .bool false), (41, .bool false), (42, .bool true), (43, .bool false), (44, .bool false), (45, .int .i64 (n : Int)), (46, .slice (some ⟨b5, 0, none⟩) n n), (47, .int .i64 (i : Int)), (48, .slice p L cap), (49, .int .i64 (L : Int)), (50, .bool (decide ((i : Int) < (L : Int)))), (51, .bool true), (52, .int .i64 (i : Int)), (53, .bool (decide ((i : Int) < 40))), (54, .bool false), (121, .pointer (some ⟨b2, 0, none⟩)), (122, .slice (some ⟨b6, 0, none⟩) n (n + m6)), (123, .slice (some ⟨b6, 0, none⟩) n (n + m6)), (124, .int .i64 (n : Int)), (125, .int .i64 (n : Int)), (126, .bool false), (127, .slice (some ⟨b6, 0, none⟩) n (n + m6)), (128, .int .i64 (n : Int)), (129, .int .i64 (d : Int))]) (fun (x : Nat × (List Int)) => match x with | (d, ts) => fun wL => Inv w [(b1, arr .u64 xs, 24), (b2, #[.slice (some ⟨b1, 0, none⟩) n n, .int .i64 (k : Int)], 58), (b3, arr .u64 ys, 24), (b4, #[.slice (some ⟨b3, 0, none⟩) n n, .int .i64 (k : Int)], 58), (b5, arr .u64 ts, 24), (b6, arr .u64 (xs ++ List.replicate m6 0), 24)] wL ∧ (Dl zs ts xs n k d)) (fun (x : Nat × (List Int)) => match x with | (d, ts) => n - d) (0, zs) (hf148.cons 0 rfl (hf148.cons 1 rfl (hf148.cons 2 rfl (hf148.cons 7 rfl (hf148.cons 8 rfl (hf148.cons 9 rfl (hf148.cons 10 rfl (hf148.cons 11 rfl (hf148.cons 12 rfl (hf148.cons 13 rfl (hf148.cons 14 rfl (hf148.cons 15 rfl (hf148.cons 16 rfl (hf148.cons 20 rfl (hf148.cons 23 rfl (hf148.cons 24 rfl (hf148.cons 25 rfl (hf148.cons 26 rfl (hf148.cons 27 rfl (hf148.cons 28 rfl (hf148.cons 29 rfl (hf148.cons 30 rfl (hf148.cons 31 rfl (hf148.cons 32 rfl (hf148.cons 33 rfl (hf148.cons 34 rfl (hf148.cons 35 rfl (hf148.cons 36 rfl (hf148.cons 37 rfl (hf148.cons 38 rfl (hf148.cons 39 rfl (hf148.cons 40 rfl (hf148.cons 41 rfl (hf148.cons 42 rfl (hf148.cons 43 rfl (hf148.cons 44 rfl (hf148.cons 45 rfl (hf148.cons 46 rfl (hf148.cons 47 rfl (hf148.cons 48 rfl (hf148.cons 49 rfl (hf148.cons 50 rfl (hf148.cons 51 rfl (hf148.cons 52 rfl (hf148.cons 53 rfl (hf148.cons 54 rfl (hf148.cons 121 rfl (hf148.cons 122 rfl (hf148.cons 123 rfl (hf148.cons 124 rfl (hf148.cons 125 rfl (hf148.cons 126 rfl (hf148.cons 127 rfl (hf148.cons 128 rfl (hf148.cons 129 rfl hf148.nil))))))))))))))))))))))))))))))))))))))))))))))))))))))) ⟨hI24, (Dl.init hx1.2.lz)⟩ ?_
      intro ⟨d, ts⟩ ac137 wd18 hf149 hL3
      obtain ⟨hI25, hx3⟩ := hL3
      dsimp only at hf149 hI25 hx3
      clear ac136 wd17 hf148 hI24
      refine code_seq ?_
      refine seq_start (l := [0]) rfl ?_
      refine seq_one (op_val (v := .bool (decide ((d : Int) < (n : Int)))) hf149 rfl rfl rfl rfl rfl rfl (r_lss rfl rfl) fun ac138 hf150 => ?_)
      refine seq_end ?_
      clear ac137 hf149
      refine then_normal ?_
      refine code_seq ?_
      refine code_if hf150 rfl (fun c130_5 => ?_) (fun c130_5 => ?_)
      · have hf151 := hf150.know 130 (u := .bool true) rfl (congrArg Value.bool c130_5)
        refine wp_skip ?_
        refine then_normal ?_
        refine code_seq ?_
        refine wp_block ?_
        refine code_seq ?_
        refine seq_start (l := [0, 1, 2, 3, 4]) rfl ?_
        refine seq_one (op_val (v := .int .i64 (d : Int)) hf151 rfl rfl rfl rfl rfl rfl (r_move rfl) fun ac139 hf152 => ?_)
        refine seq_one (op_val (v := .pointer (some ⟨b6, d, none⟩)) hf152 rfl rfl rfl rfl rfl rfl (r_indexAddrS (i := d) sl_23 rfl rfl rfl (by have := of_decide_eq_true c130_5; omega) (by rw [Nat.mul_one, Nat.zero_add])) fun ac140 hf153 => ?_)
        refine seq_one (op_val (v := .int .u64 ((xs ++ List.replicate m6 0).getD d 0)) hf153 rfl rfl rfl rfl rfl rfl (r_load ag_24 rfl (hI25.at 5 rfl) (arr_get (Nat.lt_of_lt_of_eq (by have := of_decide_eq_true c130_5; omega) (Eq.symm ((by rw [List.length_append, List.length_replicate, hx1.2.lx]) : (xs ++ List.replicate m6 0).length = n + m6))))) fun ac141 hf154 => ?_)
        refine seq_one (op_val (v := .int .i64 (d : Int)) hf154 rfl rfl rfl rfl rfl rfl (r_assign rfl) fun ac142 hf155 => ?_)
        refine seq_one (op_val (v := .int .u64 ((xs ++ List.replicate m6 0).getD d 0)) hf155 rfl rfl rfl rfl rfl rfl (r_assign rfl) fun ac143 hf156 => ?_)
        refine seq_end ?_
        clear hf150 ac138 hf151 ac139 hf152 ac140 hf153 ac141 hf154 ac142 hf155
        refine then_normal ?_
        refine seq_start (l := [0, 1, 2, 3, 4, 5, 6, 7, 8, 9, 10, 11]) rfl ?_
        refine seq_one (op_val (v := .slice (some ⟨b5, 0, none⟩) n n) hf156 rfl rfl rfl rfl rfl rfl (r_move rfl) fun ac144 hf157 => ?_)
        refine seq_one (op_val (v := .int .i64 (d : Int)) hf157 rfl rfl rfl rfl rfl rfl (r_move rfl) fun ac145 hf158 => ?_)
        refine seq_one (op_val (v := .slice (some ⟨b5, 0, none⟩) n n) hf158 rfl rfl rfl rfl rfl rfl (r_move rfl) fun ac146 hf159 => ?_)
        refine seq_one (op_val (v := .int .i64 (d : Int)) hf159 rfl rfl rfl rfl rfl rfl (r_move rfl) fun ac147 hf160 => ?_)
        refine seq_one (op_val (v := .pointer (some ⟨b5, d, none⟩)) hf160 rfl rfl rfl rfl rfl rfl (r_indexAddrS (i := d) sl_23 rfl rfl rfl (by have := of_decide_eq_true c130_5; omega) (by rw [Nat.mul_one, Nat.zero_add])) fun ac148 hf161 => ?_)
        refine seq_one (op_val (v := .int .u64 (ts.getD d 0)) hf161 rfl rfl rfl rfl rfl rfl (r_load ag_24 rfl (hI25.at 4 rfl) (arr_get (Nat.lt_of_lt_of_eq (by have := of_decide_eq_true c130_5; omega) (Eq.symm hx3.len)))) fun ac149 hf162 => ?_)
        refine seq_one (op_val (v := .int .u64 ((xs ++ List.replicate m6 0).getD d 0)) hf162 rfl rfl rfl rfl rfl rfl (r_move rfl) fun ac150 hf163 => ?_)
        refine seq_one (op_val (v := .int .u64 (IntKind.wrap .u64 ((ts.getD d 0) + ((xs ++ List.replicate m6 0).getD d 0)))) hf163 rfl rfl rfl rfl rfl rfl (r_add rfl rfl rfl) fun ac151 hf164 => ?_)
        refine seq_one (op_val (v := .int .u64 (pw k - 1)) hf164 rfl rfl rfl rfl rfl rfl (r_move rfl) fun ac152 hf165 => ?_)
        refine seq_one (op_val (v := .int .u64 (((ts.getD d 0) + ((xs ++ List.replicate m6 0).getD d 0)) % pw k)) hf165 rfl rfl rfl rfl rfl rfl (r_and (c := (((ts.getD d 0) + ((xs ++ List.replicate m6 0).getD d 0)) % pw k)) rfl rfl (and_wr hk1 hk2)) fun ac153 hf166 => ?_)
        refine seq_one (op_val (v := .pointer (some ⟨b5, d, none⟩)) hf166 rfl rfl rfl rfl rfl rfl (r_indexAddrS (i := d) sl_23 rfl rfl rfl (by have := of_decide_eq_true c130_5; omega) (by rw [Nat.mul_one, Nat.zero_add])) fun ac154 hf167 => ?_)
        refine seq_one (op_store (cs' := arr .u64 (ts.set d (((ts.getD d 0) + ((xs ++ List.replicate m6 0).getD d 0)) % pw k))) 4 hf167 rfl rfl rfl rfl rfl sz_24 hI25 rfl (Nat.lt_of_lt_of_eq (by have := of_decide_eq_true c130_5; omega) (Eq.symm (arr_size hx3.len))) arr_set fun wd19 hI26 => ?_)
        have hI27 : Inv w [(b1, arr .u64 xs, 24), (b2, #[.slice (some ⟨b1, 0, none⟩) n n, .int .i64 (k : Int)], 58), (b3, arr .u64 ys, 24), (b4, #[.slice (some ⟨b3, 0, none⟩) n n, .int .i64 (k : Int)], 58), (b5, arr .u64 (ts.set d (((ts.getD d 0) + ((xs ++ List.replicate m6 0).getD d 0)) % pw k)), 24), (b6, arr .u64 (xs ++ List.replicate m6 0), 24)] wd19 := hI26
        refine seq_end ?_
        clear ac143 hf156 ac144 hf157 ac145 hf158 ac146 hf159 ac147 hf160 ac148 hf161 ac149 hf162 ac150 hf163 ac151 hf164 ac152 hf165 ac153 hf166 wd18 hI25 hI26
        refine block_normal ?_
        refine then_normal ?_
        refine seq_start (l := [0, 1]) rfl ?_
        refine seq_one (op_val (v := .int .i64 ((d + 1 : Nat) : Int)) hf167 rfl rfl rfl rfl rfl rfl (r_add (c := ((d + 1 : Nat) : Int)) rfl rfl (wrap_i64 (by omega) (by have := hx3.le; omega))) fun ac155 hf168 => ?_)
        refine seq_one (op_val (v := .int .i64 ((d + 1 : Nat) : Int)) hf168 rfl rfl rfl rfl rfl rfl (r_move rfl) fun ac156 hf169 => ?_)
        refine seq_end ?_
        clear ac154 hf167 ac155 hf168
        refine then_normal ?_
        exact ⟨(d + 1, (ts.set d (((ts.getD d 0) + ((xs ++ List.replicate m6 0).getD d 0)) % pw k))), (hf169.cons 0 rfl (hf169.cons 1 rfl (hf169.cons 2 rfl (hf169.cons 7 rfl (hf169.cons 8 rfl (hf169.cons 9 rfl (hf169.cons 10 rfl (hf169.cons 11 rfl (hf169.cons 12 rfl (hf169.cons 13 rfl (hf169.cons 14 rfl (hf169.cons 15 rfl (hf169.cons 16 rfl (hf169.cons 20 rfl (hf169.cons 23 rfl (hf169.cons 24 rfl (hf169.cons 25 rfl (hf169.cons 26 rfl (hf169.cons 27 rfl (hf169.cons 28 rfl (hf169.cons 29 rfl (hf169.cons 30 rfl (hf169.cons 31 rfl (hf169.cons 32 rfl (hf169.cons 33 rfl (hf169.cons 34 rfl (hf169.cons 35 rfl (hf169.cons 36 rfl (hf169.cons 37 rfl (hf169.cons 38 rfl (hf169.cons 39 rfl (hf169.cons 40 rfl (hf169.cons 41 rfl (hf169.cons 42 rfl (hf169.cons 43 rfl (hf169.cons 44 rfl (hf169.cons 45 rfl (hf169.cons 46 rfl (hf169.cons 47 rfl (hf169.cons 48 rfl (hf169.cons 49 rfl (hf169.cons 50 rfl (hf169.cons 51 rfl (hf169.cons 52 rfl (hf169.cons 53 rfl (hf169.cons 54 rfl (hf169.cons 121 rfl (hf169.cons 122 rfl (hf169.cons 123 rfl (hf169.cons 124 rfl (hf169.cons 125 rfl (hf169.cons 126 rfl (hf169.cons 127 rfl (hf169.cons 128 rfl (hf169.cons 129 rfl hf169.nil))))))))))))))))))))))))))))))))))))))))))))))))))))))), ⟨hI27, (hx3.step hx1.2.lx (by have := of_decide_eq_true c130_5; omega))⟩, (by have := of_decide_eq_true c130_5; show n - (d + 1) < n - d; omega)⟩
      · have hf170 := hf150.know 130 (u := .bool false) rfl (congrArg Value.bool c130_5)
        refine wp_exit ?_
        refine then_exit ?_
        refine then_exit ?_
        refine block_here ?_
        refine then_normal ?_
        refine code_seq ?_
        refine seq_start (l := [0, 1, 2, 3, 4, 5, 6, 7]) rfl ?_
        refine seq_one (op_val (v := .slice (some ⟨b5, 0, none⟩) n n) hf170 rfl rfl rfl rfl rfl rfl (r_move rfl) fun ac157 hf171 => ?_)
        refine seq_one (op_val (v := .pointer (some ⟨b4, 0, none⟩)) hf171 rfl rfl rfl rfl rfl rfl (r_move rfl) fun ac158 hf172 => ?_)
        refine seq_one (op_call (R := fun v w' => ∃ b m, Array.size (World.heap _) ≤ b ∧ n + m ≤ maxLen ∧ v = .slice (some ⟨b, 0, none⟩) n (n + m) ∧ Inv _ [(b, arr .u64 (ys ++ List.replicate m 0), 24)] w') hf172 rfl rfl rfl rfl ca_20 ((all_walk hx1.2.ly hn1 hn2 (hI25.ne (i := 2) (j := 3) rfl rfl (by decide)) (Has.cons (hI25.at 2 rfl) (Has.cons (hI25.at 3 rfl) Has.nil))).mono fun e w' ⟨b, m, h1, h2, h3, h4⟩ => ⟨_, h3, b, m, h1, h2, rfl, h4⟩) fun ac159 v wd20 hR hf173 => ?_)
        obtain ⟨b7, m7, hqb7, hm7, rfl, hwb7⟩ := hR
        have hb7 := Nat.le_trans hI25.size hqb7
        have hI28 : Inv w [(b1, arr .u64 xs, 24), (b2, #[.slice (some ⟨b1, 0, none⟩) n n, .int .i64 (k : Int)], 58), (b3, arr .u64 ys, 24), (b4, #[.slice (some ⟨b3, 0, none⟩) n n, .int .i64 (k : Int)], 58), (b5, arr .u64 ts, 24), (b6, arr .u64 (xs ++ List.replicate m6 0), 24), (b7, arr .u64 (ys ++ List.replicate m7 0), 24)] _ := hI25.callN hwb7 (fun x hx => by simp only [List.mem_singleton] at hx; subst hx; exact hqb7)
        refine seq_one (op_pureW hf173 rfl rfl rfl rfl ca_15 (same_walk (xs := ts) (ys := ys) hx3.len hx1.2.ly (by omega) (Rd.blk (xs := ts) (hI28.at 4 rfl) arr_take) (Rd.blk (xs := ys) (hI28.at 6 rfl) arr_take2)) hI28 fun ac160 wd21 hI29 hf174 => ?_)
        refine seq_one (op_val (v := .bool (ts == ys)) hf174 rfl rfl rfl rfl rfl rfl (r_move rfl) fun ac161 hf175 => ?_)
        have hf176 := hf175.know 150 (u := .bool true) rfl (congrArg Value.bool (hx1.2.end_ hx3 (by have := of_decide_eq_false c130_5; omega)))
        refine seq_one (op_pure hf176 rfl rfl rfl rfl ca_13 awake_pur hI29 fun ac162 wd22 hI30 hf177 => ?_)
        refine seq_one (op_val (v := .bool true) hf177 rfl rfl rfl rfl rfl rfl (r_pickT rfl rfl) fun ac163 hf178 => ?_)
        refine seq_one (op_val (v := .bool true) hf178 rfl rfl rfl rfl rfl rfl (r_assign rfl) fun ac164 hf179 => ?_)
        refine seq_end ?_
        clear hf150 ac138 hf170 ac157 hf171 ac158 wd18 hf172 hI25 hwb7 hqb7 ac159 wd20 hI28 hf173 ac160 hf174 hf175 ac161 wd21 hI29 hf176 ac162 hf177 ac163 hf178
        refine then_normal ?_
        refine wp_ret ?_
        refine post1 rfl hf179 rfl ⟨?_, hI30.done (fresh_keys (ks := [b1, b2, b3, b4, b5, b6, b7]) rfl (fk_cons hb1 (fk_cons hb2 (fk_cons hb3 (fk_cons hb4 (fk_cons hb5 (fk_cons hb6 (fk_cons hb7 fk_nil))))))))⟩
        rfl
  · have hf180 := hf42.know 51 (u := .bool false) rfl (congrArg Value.bool g51_1)
    refine seq_one (op_skip hf180 rfl rfl rfl rfl fun ac165 hf181 => ?_)
    refine seq_one (op_skip hf181 rfl rfl rfl rfl fun ac166 hf182 => ?_)
    refine seq_one (op_val (v := .bool false) hf182 rfl rfl rfl rfl rfl rfl (r_pickF rfl rfl) fun ac167 hf183 => ?_)
    refine seq_end ?_
    clear ac37 hf37 ac38 hf38 ac39 hf39 ac40 hf40 ac41 hf41 hf42 ac42 hf180 ac165 hf181 ac166 hf182
    refine then_normal ?_
    refine code_if_false hf183 rfl ?_
    refine wp_exit ?_
    refine then_exit ?_
    refine then_exit ?_
    refine block_here ?_
    refine then_normal ?_
    refine code_seq ?_
    refine seq_start (l := [0, 1, 2]) rfl ?_
    refine seq_one (op_val (v := .pointer (some ⟨b2, 0, none⟩)) hf183 rfl rfl rfl rfl rfl rfl (r_move rfl) fun ac168 hf184 => ?_)
    refine seq_one (op_call (R := fun v w' => ∃ b m, Array.size (World.heap _) ≤ b ∧ n + m ≤ maxLen ∧ v = .slice (some ⟨b, 0, none⟩) n (n + m) ∧ Inv _ [(b, arr .u64 (xs ++ List.replicate m 0), 24)] w') hf184 rfl rfl rfl rfl ca_20 ((all_walk hx1.2.lx hn1 hn2 (hI6.ne (i := 0) (j := 1) rfl rfl (by decide)) (Has.cons (hI6.at 0 rfl) (Has.cons (hI6.at 1 rfl) Has.nil))).mono fun e w' ⟨b, m, h1, h2, h3, h4⟩ => ⟨_, h3, b, m, h1, h2, rfl, h4⟩) fun ac169 v wd23 hR hf185 => ?_)
    obtain ⟨b6, m6, hqb6, hm6, rfl, hwb6⟩ := hR
    have hb6 := Nat.le_trans hI6.size hqb6
    have hI31 : Inv w [(b1, arr .u64 xs, 24), (b2, #[.slice (some ⟨b1, 0, none⟩) n n, .int .i64 (k : Int)], 58), (b3, arr .u64 ys, 24), (b4, #[.slice (some ⟨b3, 0, none⟩) n n, .int .i64 (k : Int)], 58), (b5, arr .u64 zs, 24), (b6, arr .u64 (xs ++ List.replicate m6 0), 24)] _ := hI6.callN hwb6 (fun x hx => by simp only [List.mem_singleton] at hx; subst hx; exact hqb6)
    refine seq_one (op_val (v := .slice (some ⟨b6, 0, none⟩) n (n + m6)) hf185 rfl rfl rfl rfl rfl rfl (r_assign rfl) fun ac170 hf186 => ?_)
    refine seq_end ?_
    clear ac167 hf183 ac168 wd4 hf184 hI6 hwb6 hqb6 ac169 hf185
    refine then_normal ?_
    refine code_seq ?_
    refine code_seq ?_
    refine seq_start (l := [0, 1, 2, 3]) rfl ?_
    refine seq_one (op_val (v := .slice (some ⟨b6, 0, none⟩) n (n + m6)) hf186 rfl rfl rfl rfl rfl rfl (r_move rfl) fun ac171 hf187 => ?_)
    refine seq_one (op_val (v := .int .i64 (n : Int)) hf187 rfl rfl rfl rfl rfl rfl (r_len sl_23 rfl) fun ac172 hf188 => ?_)
    refine seq_one (op_val (v := .int .i64 (n : Int)) hf188 rfl rfl rfl rfl rfl rfl (r_move rfl) fun ac173 hf189 => ?_)
    refine seq_one (op_val (v := .bool ((n : Int) != (n : Int))) hf189 rfl rfl rfl rfl rfl rfl (r_neq rfl rfl) fun ac174 hf190 => ?_)
    refine seq_end ?_
    clear ac170 hf186 ac171 hf187 ac172 hf188 ac173 hf189
    refine then_normal ?_
    have hf191 := hf190.know 126 (u := .bool false) rfl (congrArg Value.bool (bne_self_eq_false _))
    refine code_if_false hf191 rfl ?_
    refine wp_skip ?_
    refine then_normal ?_
    refine code_seq ?_
    refine code_seq ?_
    refine seq_start (l := [0, 1, 2]) rfl ?_
    refine seq_one (op_val (v := .slice (some ⟨b6, 0, none⟩) n (n + m6)) hf191 rfl rfl rfl rfl rfl rfl (r_move rfl) fun ac175 hf192 => ?_)
    refine seq_one (op_val (v := .int .i64 (n : Int)) hf192 rfl rfl rfl rfl rfl rfl (r_len sl_23 rfl) fun ac176 hf193 => ?_)
    refine seq_one (op_val (v := .int .i64 0) hf193 rfl rfl rfl rfl rfl rfl (r_move rfl) fun ac177 hf194 => ?_)
    refine seq_end ?_
    clear hf190 ac174 hf191 ac175 hf192 ac176 hf193
    refine then_normal ?_
    refine wp_block ?_
    refine code_loop (α := Nat × (List Int)) (fun (x : Nat × (List Int)) => match x with | (d, ts) => [(0, .int .u8 a), (1, .int .u8 b), (2, .slice p L cap), (7, .pointer (some ⟨b2, 0, none⟩)), (8, .int .i64 (n : Int)), (9, .int .u64 (pw k - 1)), (10, .bool true), (11, .pointer (some ⟨b4, 0, none⟩)), (12, .int .i64 (n : Int)), (13, .int .u64 (pw k - 1)), (14, .bool true), (15, .slice (some ⟨b5, 0, none⟩) n n), (16, .int .i64 (i : Int)), (20, .slice (some ⟨b6, 0, none⟩) n (n + m6)), (23, .tuple #[.pointer (some ⟨b2, 0, none⟩), .int .i64 (n : Int), .int .u64 (pw k - 1), .bool true]), (24, .int .u8 a), (25, .int .u8 b), (26, .tuple #[.pointer (some ⟨b2, 0, none⟩), .int .i64 (n : Int), .int .u64 (pw k - 1), .bool true]), (27, .pointer (some ⟨b2, 0, none⟩)), (28, .int .i64 (n : Int)), (29, .int .u64 (pw k - 1)), (30, .bool true), (31, .tuple #[.pointer (some ⟨b4, 0, none⟩), .int .i64 (n : Int), .int .u64 (pw k - 1), .bool true]), (32, .int .u8 a), (33, .int .u8 b), (34, .tuple #[.pointer (some ⟨b4, 0, none⟩), .int .i64 (n : Int), .int .u64 (pw k - 1), .bool true]), (35, .pointer (some ⟨b4, 0, none⟩)), (36, .int .i64 (n : Int)), (37, .int .u64 (pw k - 1)), (38, .bool true), (39, .bool true), (40, .bool false), (41, .bool false), (42, .bool true), (43, .bool false), (44, .bool false), (45, .int .i64 (n : Int)), (46, .slice (some ⟨b5, 0, none⟩) n n), (47, .int .i64 (i : Int)), (48, .slice p L cap), (49, .int .i64 (L : Int)), (50, .bool (decide ((i : Int) < (L : Int)))), (51, .bool false), (54, .bool false), (121, .pointer (some ⟨b2, 0, none⟩)), (122, .slice (some ⟨b6, 0, none⟩) n (n + m6)), (123, .slice (some ⟨b6, 0, none⟩) n (n + m6)), (124, .int .i64 (n : Int)), (125, .int .i64 (n : Int)), (126, .bool false), (127, .slice (some ⟨b6, 0, none⟩) n (n + m6)), (128, .int .i64 (n : Int)), (129, .int .i64 (d : Int))]) (fun (x : Nat × (List Int)) => match x with | (d, ts) => fun wL => Inv w [(b1, arr .u64 xs, 24), (b2, #[.slice (some ⟨b1, 0, none⟩) n n, .int .i64 (k : Int)], 58), (b3, arr .u64 ys, 24), (b4, #[.slice (some ⟨b3, 0, none⟩) n n, .int .i64 (k : Int)], 58), (b5, arr .u64 ts, 24), (b6, arr .u64 (xs ++ List.replicate m6 0), 24)] wL ∧ (Dl zs ts xs n k d)) (fun (x : Nat × (List Int)) => match x with | (d, ts) => n - d) (0, zs) (hf194.cons 0 rfl (hf194.cons 1 rfl (hf194.cons 2 rfl (hf194.cons 7 rfl (hf194.cons 8 rfl (hf194.cons 9 rfl (hf194.cons 10 rfl (hf194.cons 11 rfl (hf194.cons 12 rfl (hf194.cons 13 rfl (hf194.cons 14 rfl (hf194.cons 15 rfl (hf194.cons 16 rfl (hf194.cons 20 rfl (hf194.cons 23 rfl (hf194.cons 24 rfl (hf194.cons 25 rfl (hf194.cons 26 rfl (hf194.cons 27 rfl (hf194.cons 28 rfl (hf194.cons 29 rfl (hf194.cons 30 rfl (hf194.cons 31 rfl (hf194.cons 32 rfl (hf194.cons 33 rfl (hf194.cons 34 rfl (hf194.cons 35 rfl (hf194.cons 36 rfl (hf194.cons 37 rfl (hf194.cons 38 rfl (hf194.cons 39 rfl (hf194.cons 40 rfl (hf194.cons 41 rfl (hf194.cons 42 rfl (hf194.cons 43 rfl (hf194.cons 44 rfl (hf194.cons 45 rfl (hf194.cons 46 rfl (hf194.cons 47 rfl (hf194.cons 48 rfl (hf194.cons 49 rfl (hf194.cons 50 rfl (hf194.cons 51 rfl (hf194.cons 54 rfl (hf194.cons 121 rfl (hf194.cons 122 rfl (hf194.cons 123 rfl (hf194.cons 124 rfl (hf194.cons 125 rfl (hf194.cons 126 rfl (hf194.cons 127 rfl (hf194.cons 128 rfl (hf194.cons 129 rfl hf194.nil))))))))))))))))))))))))))))))))))))))))))))))))))))) ⟨hI31, (Dl.init hx1.2.lz)⟩ ?_
    intro ⟨d, ts⟩ ac178 wd24 hf195 hL3
    obtain ⟨hI32, hx3⟩ := hL3
    dsimp only at hf195 hI32 hx3
    clear ac177 wd23 hf194 hI31
    refine code_seq ?_
    refine seq_start (l := [0]) rfl ?_
    refine seq_one (op_val (v := .bool (decide ((d : Int) < (n : Int)))) hf195 rfl rfl rfl rfl rfl rfl (r_lss rfl rfl) fun ac179 hf196 => ?_)
    refine seq_end ?_
    clear ac178 hf195
    refine then_normal ?_
    refine code_seq ?_
    refine code_if hf196 rfl (fun c130_6 => ?_) (fun c130_6 => ?_)
    · have hf197 := hf196.know 130 (u := .bool true) rfl (congrArg Value.bool c130_6)
      refine wp_skip ?_
      refine then_normal ?_
      refine code_seq ?_
      refine wp_block ?_
      refine code_seq ?_
      refine seq_start (l := [0, 1, 2, 3, 4]) rfl ?_
      refine seq_one (op_val (v := .int .i64 (d : Int)) hf197 rfl rfl rfl rfl rfl rfl (r_move rfl) fun ac180 hf198 => ?_)
      refine seq_one (op_val (v := .pointer (some ⟨b6, d, none⟩)) hf198 rfl rfl rfl rfl rfl rfl (r_indexAddrS (i := d) sl_23 rfl rfl rfl (by have := of_decide_eq_true c130_6; omega) (by rw [Nat.mul_one, Nat.zero_add])) fun ac181 hf199 => ?_)
      refine seq_one (op_val (v := .int .u64 ((xs ++ List.replicate m6 0).getD d 0)) hf199 rfl rfl rfl rfl rfl rfl (r_load ag_24 rfl (hI32.at 5 rfl) (arr_get (Nat.lt_of_lt_of_eq (by have := of_decide_eq_true c130_6; omega) (Eq.symm ((by rw [List.length_append, List.length_replicate, hx1.2.lx]) : (xs ++ List.replicate m6 0).length = n + m6))))) fun ac182 hf200 => ?_)
      refine seq_one (op_val (v := .int .i64 (d : Int)) hf200 rfl rfl rfl rfl rfl rfl (r_assign rfl) fun ac183 hf201 => ?_)
      refine seq_one (op_val (v := .int .u64 ((xs ++ List.replicate m6 0).getD d 0)) hf201 rfl rfl rfl rfl rfl rfl (r_assign rfl) fun ac184 hf202 => ?_)
      refine seq_end ?_
      clear hf196 ac179 hf197 ac180 hf198 ac181 hf199 ac182 hf200 ac183 hf201
      refine then_normal ?_
      refine seq_start (l := [0, 1, 2, 3, 4, 5, 6, 7, 8, 9, 10, 11]) rfl ?_
      refine seq_one (op_val (v := .slice (some ⟨b5, 0, none⟩) n n) hf202 rfl rfl rfl rfl rfl rfl (r_move rfl) fun ac185 hf203 => ?_)
      refine seq_one (op_val (v := .int .i64 (d : Int)) hf203 rfl rfl rfl rfl rfl rfl (r_move rfl) fun ac186 hf204 => ?_)
      refine seq_one (op_val (v := .slice (some ⟨b5, 0, none⟩) n n) hf204 rfl rfl rfl rfl rfl rfl (r_move rfl) fun ac187 hf205 => ?_)
      refine seq_one (op_val (v := .int .i64 (d : Int)) hf205 rfl rfl rfl rfl rfl rfl (r_move rfl) fun ac188 hf206 => ?_)
      refine seq_one (op_val (v := .pointer (some ⟨b5, d, none⟩)) hf206 rfl rfl rfl rfl rfl rfl (r_indexAddrS (i := d) sl_23 rfl rfl rfl (by have := of_decide_eq_true c130_6; omega) (by rw [Nat.mul_one, Nat.zero_add])) fun ac189 hf207 => ?_)
      refine seq_one (op_val (v := .int .u64 (ts.getD d 0)) hf207 rfl rfl rfl rfl rfl rfl (r_load ag_24 rfl (hI32.at 4 rfl) (arr_get (Nat.lt_of_lt_of_eq (by have := of_decide_eq_true c130_6; omega) (Eq.symm hx3.len)))) fun ac190 hf208 => ?_)
      refine seq_one (op_val (v := .int .u64 ((xs ++ List.replicate m6 0).getD d 0)) hf208 rfl rfl rfl rfl rfl rfl (r_move rfl) fun ac191 hf209 => ?_)
      refine seq_one (op_val (v := .int .u64 (IntKind.wrap .u64 ((ts.getD d 0) + ((xs ++ List.replicate m6 0).getD d 0)))) hf209 rfl rfl rfl rfl rfl rfl (r_add rfl rfl rfl) fun ac192 hf210 => ?_)
      refine seq_one (op_val (v := .int .u64 (pw k - 1)) hf210 rfl rfl rfl rfl rfl rfl (r_move rfl) fun ac193 hf211 => ?_)
      refine seq_one (op_val (v := .int .u64 (((ts.getD d 0) + ((xs ++ List.replicate m6 0).getD d 0)) % pw k)) hf211 rfl rfl rfl rfl rfl rfl (r_and (c := (((ts.getD d 0) + ((xs ++ List.replicate m6 0).getD d 0)) % pw k)) rfl rfl (and_wr hk1 hk2)) fun ac194 hf212 => ?_)
      refine seq_one (op_val (v := .pointer (some ⟨b5, d, none⟩)) hf212 rfl rfl rfl rfl rfl rfl (r_indexAddrS (i := d) sl_23 rfl rfl rfl (by have := of_decide_eq_true c130_6; omega) (by rw [Nat.mul_one, Nat.zero_add])) fun ac195 hf213 => ?_)
      refine seq_one (op_store (cs' := arr .u64 (ts.set d (((ts.getD d 0) + ((xs ++ List.replicate m6 0).getD d 0)) % pw k))) 4 hf213 rfl rfl rfl rfl rfl sz_24 hI32 rfl (Nat.lt_of_lt_of_eq (by have := of_decide_eq_true c130_6; omega) (Eq.symm (arr_size hx3.len))) arr_set fun wd25 hI33 => ?_)
      have hI34 : Inv w [(b1, arr .u64 xs, 24), (b2, #[.slice (some ⟨b1, 0, none⟩) n n, .int .i64 (k : Int)], 58), (b3, arr .u64 ys, 24), (b4, #[.slice (some ⟨b3, 0, none⟩) n n, .int .i64 (k : Int)], 58), (b5, arr .u64 (ts.set d (((ts.getD d 0) + ((xs ++ List.replicate m6 0).getD d 0)) % pw k)), 24), (b6, arr .u64 (xs ++ List.replicate m6 0), 24)] wd25 := hI33
      refine seq_end ?_
      clear ac184 hf202 ac185 hf203 ac186 hf204 ac187 hf205 ac188 hf206 ac189 hf207 ac190 hf208 ac191 hf209 ac192 hf210 ac193 hf211 ac194 hf212 wd24 hI32 hI33
      refine block_normal ?_
      refine then_normal ?_
      refine seq_start (l := [0, 1]) rfl ?_
      refine seq_one (op_val (v := .int .i64 ((d + 1 : Nat) : Int)) hf213 rfl rfl rfl rfl rfl rfl (r_add (c := ((d + 1 : Nat) : Int)) rfl rfl (wrap_i64 (by omega) (by have := hx3.le; omega))) fun ac196 hf214 => ?_)
      refine seq_one (op_val (v := .int .i64 ((d + 1 : Nat) : Int)) hf214 rfl rfl rfl rfl rfl rfl (r_move rfl) fun ac197 hf215 => ?_)
      refine seq_end ?_
      clear ac195 hf213 ac196 hf214
      refine then_normal ?_
      exact ⟨(d + 1, (ts.set d (((ts.getD d 0) + ((xs ++ List.replicate m6 0).getD d 0)) % pw k))), (hf215.cons 0 rfl (hf215.cons 1 rfl (hf215.cons 2 rfl (hf215.cons 7 rfl (hf215.cons 8 rfl (hf215.cons 9 rfl (hf215.cons 10 rfl (hf215.cons 11 rfl (hf215.cons 12 rfl (hf215.cons 13 rfl (hf215.cons 14 rfl (hf215.cons 15 rfl (hf215.cons 16 rfl (hf215.cons 20 rfl (hf215.cons 23 rfl (hf215.cons 24 rfl (hf215.cons 25 rfl (hf215.cons 26 rfl (hf215.cons 27 rfl (hf215.cons 28 rfl (hf215.cons 29 rfl (hf215.cons 30 rfl (hf215.cons 31 rfl (hf215.cons 32 rfl (hf215.cons 33 rfl (hf215.cons 34 rfl (hf215.cons 35 rfl (hf215.cons 36 rfl (hf215.cons 37 rfl (hf215.cons 38 rfl (hf215.cons 39 rfl (hf215.cons 40 rfl (hf215.cons 41 rfl (hf215.cons 42 rfl (hf215.cons 43 rfl (hf215.cons 44 rfl (hf215.cons 45 rfl (hf215.cons 46 rfl (hf215.cons 47 rfl (hf215.cons 48 rfl (hf215.cons 49 rfl (hf215.cons 50 rfl (hf215.cons 51 rfl (hf215.cons 54 rfl (hf215.cons 121 rfl (hf215.cons 122 rfl (hf215.cons 123 rfl (hf215.cons 124 rfl (hf215.cons 125 rfl (hf215.cons 126 rfl (hf215.cons 127 rfl (hf215.cons 128 rfl (hf215.cons 129 rfl hf215.nil))))))))))))))))))))))))))))))))))))))))))))))))))))), ⟨hI34, (hx3.step hx1.2.lx (by have := of_decide_eq_true c130_6; omega))⟩, (by have := of_decide_eq_true c130_6; show n - (d + 1) < n - d; omega)⟩
    · have hf216 := hf196.know 130 (u := .bool false) rfl (congrArg Value.bool c130_6)
      refine wp_exit ?_
      refine then_exit ?_
      refine then_exit ?_
      refine block_here ?_
      refine then_normal ?_
      refine code_seq ?_
      refine seq_start (l := [0, 1, 2, 3, 4, 5, 6, 7]) rfl ?_
      refine seq_one (op_val (v := .slice (some ⟨b5, 0, none⟩) n n) hf216 rfl rfl rfl rfl rfl rfl (r_move rfl) fun ac198 hf217 => ?_)
      refine seq_one (op_val (v := .pointer (some ⟨b4, 0, none⟩)) hf217 rfl rfl rfl rfl rfl rfl (r_move rfl) fun ac199 hf218 => ?_)
      refine seq_one (op_call (R := fun v w' => ∃ b m, Array.size (World.heap _) ≤ b ∧ n + m ≤ maxLen ∧ v = .slice (some ⟨b, 0, none⟩) n (n + m) ∧ Inv _ [(b, arr .u64 (ys ++ List.replicate m 0), 24)] w') hf218 rfl rfl rfl rfl ca_20 ((all_walk hx1.2.ly hn1 hn2 (hI32.ne (i := 2) (j := 3) rfl rfl (by decide)) (Has.cons (hI32.at 2 rfl) (Has.cons (hI32.at 3 rfl) Has.nil))).mono fun e w' ⟨b, m, h1, h2, h3, h4⟩ => ⟨_, h3, b, m, h1, h2, rfl, h4⟩) fun ac200 v wd26 hR hf219 => ?_)
      obtain ⟨b7, m7, hqb7, hm7, rfl, hwb7⟩ := hR
      have hb7 := Nat.le_trans hI32.size hqb7
      have hI35 : Inv w [(b1, arr .u64 xs, 24), (b2, #[.slice (some ⟨b1, 0, none⟩) n n, .int .i64 (k : Int)], 58), (b3, arr .u64 ys, 24), (b4, #[.slice (some ⟨b3, 0, none⟩) n n, .int .i64 (k : Int)], 58), (b5, arr .u64 ts, 24), (b6, arr .u64 (xs ++ List.replicate m6 0), 24), (b7, arr .u64 (ys ++ List.replicate m7 0), 24)] _ := hI32.callN hwb7 (fun x hx => by simp only [List.mem_singleton] at hx; subst hx; exact hqb7)
      refine seq_one (op_pureW hf219 rfl rfl rfl rfl ca_15 (same_walk (xs := ts) (ys := ys) hx3.len hx1.2.ly (by omega) (Rd.blk (xs := ts) (hI35.at 4 rfl) arr_take) (Rd.blk (xs := ys) (hI35.at 6 rfl) arr_take2)) hI35 fun ac201 wd27 hI36 hf220 => ?_)
      refine seq_one (op_val (v := .bool (ts == ys)) hf220 rfl rfl rfl rfl rfl rfl (r_move rfl) fun ac202 hf221 => ?_)
      have hf222 := hf221.know 150 (u := .bool true) rfl (congrArg Value.bool (hx1.2.end_ hx3 (by have := of_decide_eq_false c130_6; omega)))
      refine seq_one (op_pure hf222 rfl rfl rfl rfl ca_13 awake_pur hI36 fun ac203 wd28 hI37 hf223 => ?_)
      refine seq_one (op_val (v := .bool true) hf223 rfl rfl rfl rfl rfl rfl (r_pickT rfl rfl) fun ac204 hf224 => ?_)
      refine seq_one (op_val (v := .bool true) hf224 rfl rfl rfl rfl rfl rfl (r_assign rfl) fun ac205 hf225 => ?_)
      refine seq_end ?_
      clear hf196 ac179 hf216 ac198 hf217 ac199 wd24 hf218 hI32 hwb7 hqb7 ac200 wd26 hI35 hf219 ac201 hf220 hf221 ac202 wd27 hI36 hf222 ac203 hf223 ac204 hf224
      refine then_normal ?_
      refine wp_ret ?_
      refine post1 rfl hf225 rfl ⟨?_, hI37.done (fresh_keys (ks := [b1, b2, b3, b4, b5, b6, b7]) rfl (fk_cons hb1 (fk_cons hb2 (fk_cons hb3 (fk_cons hb4 (fk_cons hb5 (fk_cons hb6 (fk_cons hb7 fk_nil))))))))⟩
      rfl
end Go.Proofs.Ytohkdjaobdgenaa
