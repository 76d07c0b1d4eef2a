/-
  The walk of CountTells.
-/
import Derived.Test.YtohkdjaobdgenaaRef3
namespace Go.Proofs.Ytohkdjaobdgenaa
set_option linter.unusedVariables false
set_option linter.unusedSimpArgs false
set_option maxRecDepth 100000
open Go.RowKit
theorem newR_walk' {n k : Nat} (hn1 : 1 ≤ n) (hn2 : n ≤ 256) (hk1 : 1 ≤ k) (hk2 : k ≤ 64) (w : World) : Calls Try.prog 12 [.int .i64 (n : Int), .int .i64 (k : Int)].toArray w fun e w' => ∃ b, w.heap.size ≤ b ∧ e = .returned (.tuple #[.agg #[.int .i64 (k : Int), .slice (some ⟨b, 0, none⟩) n (n + 0)], .bool true]) ∧ Inv w [(b, arr .u64 (List.replicate n 0 ++ List.replicate 0 0), 24)] w' :=
  (newR_walk hn1 hn2 hk1 hk2 w).mono fun e w' ⟨b, h1, h2, h3⟩ => ⟨b, h1, h2, by rw [List.replicate_zero, List.append_nil]; exact h3⟩
theorem getV_in {xs ys : List Int} {n d : Nat} (hl : xs.length = n) (h : 0 ≤ (d : Int) - 1 ∧ (d : Int) - 1 < (n : Int)) : (getV xs n ((d : Int) - 1) != (xs ++ ys).getD (d - 1) 0) = false := by
  rw [bne_eq_false_iff_eq]; unfold getV
  rw [if_pos h, getD_app (by omega), show ((d : Int) - 1).toNat = d - 1 by omega]
theorem getV_out {xs : List Int} {n : Nat} {i : Int} (h : ¬ (0 ≤ i ∧ i < (n : Int))) : (getV xs n i != 0) = false := by
  rw [bne_eq_false_iff_eq]; unfold getV; rw [if_neg h]
structure Te (xs : List Int) (n : Nat) : Prop where
  len : xs.length = n
  get : ∀ j, j < n → 0 ≤ xs.getD j 0 ∧ xs.getD j 0 < 18446744073709551616
theorem Te.init {n : Nat} : Te (List.replicate n 0) n := ⟨List.length_replicate, fun j _ => by rw [getD_rep]; omega⟩
theorem Te.set {xs : List Int} {n k p : Nat} {v : Int} (hk1 : 1 ≤ k) (hk2 : k ≤ 64) (h : Te xs n) : Te (xs.set p ((xs.getD p 0 + v) % pw k)) n := by
  have hp := pw2 hk1 hk2
  refine ⟨by rw [List.length_set]; exact h.len, fun j hj => ?_⟩
  rw [getD_set' (by rw [h.len]; exact hj)]
  split
  · have := md_b (m := xs.getD p 0 + v) hk1 hk2; omega
  · exact h.get j hj
set_option maxHeartbeats 8000000 in
theorem countTells_walk {cells bits now : Int} (hnow : 0 ≤ now ∧ now < 18446744073709551616) {p : Option Addr} {L cap : Nat} {rows : List (List Value)} (hl : rows.length = L) (hc : L ≤ cap) (ho : ∀ row ∈ rows, Oks opKinds row) (hL : cap ≤ maxLen) {q : Option Addr} {M caq : Nat} {ws : List Int} (hw : ws.length = M) (hM : M ≤ maxLen) (hws : InK .u64 ws) {w : World} (hr : Rows_ w p 3 rows) (hq : Rd w .u64 q ws) : Calls Try.prog 3 [.int .i64 cells, .int .i64 bits, .slice p L cap, .slice q M caq, .int .u64 now].toArray w fun e w' => e = .returned (.bool true) ∧ Inv w [] w' := by
  simp only [maxLen] at hL hM
  have hI1 := Inv.start w
  refine enter (n := 268) Try.func3 rfl rfl rfl ?_
  intro ac1 hf1
  refine code_seq ?_
  refine seq_start (l := [0]) rfl ?_
  refine seq_one (op_val (v := .bool false) hf1 rfl rfl rfl rfl rfl rfl (r_assign rfl) fun ac2 hf2 => ?_)
  refine seq_end ?_
  clear ac1 hf1
  refine then_normal ?_
  refine code_seq ?_
  refine seq_start (l := [0, 1, 2, 3, 4, 5, 6, 7, 8, 9, 10]) rfl ?_
  refine seq_one (op_val (v := .int .u64 now) hf2 rfl rfl rfl rfl rfl rfl (r_move rfl) fun ac3 hf3 => ?_)
  refine seq_one (op_val (v := .slice q M caq) hf3 rfl rfl rfl rfl rfl rfl (r_move rfl) fun ac4 hf4 => ?_)
  refine seq_one (op_val (v := .int .i64 (M : Int)) hf4 rfl rfl rfl rfl rfl rfl (r_len sl_23 rfl) fun ac5 hf5 => ?_)
  refine seq_one (op_val (v := .int .u64 (M : Int)) hf5 rfl rfl rfl rfl rfl rfl (r_conv (c := (M : Int)) ui_3 ui_24 rfl (wrap_u64 (by omega) (by omega))) fun ac6 hf6 => ?_)
  refine seq_one (op_val (v := .int .i64 bits) hf6 rfl rfl rfl rfl rfl rfl (r_move rfl) fun ac7 hf7 => ?_)
  refine seq_one (op_pure hf7 rfl rfl rfl rfl ca_9 (ahead_pur now (M : Int) bits) hI1 fun ac8 wd1 hI2 hf8 => ?_)
  refine seq_one (op_val (v := .tuple #[.int .u64 ((aheadF now (M : Int) bits).1), .int .i64 ((aheadF now (M : Int) bits).2)]) hf8 rfl rfl rfl rfl rfl rfl (r_move rfl) fun ac9 hf9 => ?_)
  refine seq_one (op_val (v := .int .u64 ((aheadF now (M : Int) bits).1)) hf9 rfl rfl rfl rfl rfl rfl (r_extract rfl rfl) fun ac10 hf10 => ?_)
  refine seq_one (op_val (v := .int .i64 ((aheadF now (M : Int) bits).2)) hf10 rfl rfl rfl rfl rfl rfl (r_extract rfl rfl) fun ac11 hf11 => ?_)
  refine seq_one (op_val (v := .int .u64 ((aheadF now (M : Int) bits).1)) hf11 rfl rfl rfl rfl rfl rfl (r_assign rfl) fun ac12 hf12 => ?_)
  refine seq_one (op_val (v := .int .i64 ((aheadF now (M : Int) bits).2)) hf12 rfl rfl rfl rfl rfl rfl (r_assign rfl) fun ac13 hf13 => ?_)
  refine seq_end ?_
  clear ac2 hf2 ac3 hf3 ac4 hf4 ac5 hf5 ac6 hf6 ac7 hI1 hf7 ac8 hf8 ac9 hf9 ac10 hf10 ac11 hf11 ac12 hf12
  refine then_normal ?_
  refine code_seq ?_
  refine seq_start (l := [0, 1, 2, 3, 4, 5, 6, 7, 8, 9, 10]) rfl ?_
  refine seq_one (op_val (v := .int .u64 now) hf13 rfl rfl rfl rfl rfl rfl (r_move rfl) fun ac14 hf14 => ?_)
  refine seq_one (op_val (v := .slice q M caq) hf14 rfl rfl rfl rfl rfl rfl (r_move rfl) fun ac15 hf15 => ?_)
  refine seq_one (op_val (v := .int .i64 (M : Int)) hf15 rfl rfl rfl rfl rfl rfl (r_len sl_23 rfl) fun ac16 hf16 => ?_)
  refine seq_one (op_val (v := .int .u64 (M : Int)) hf16 rfl rfl rfl rfl rfl rfl (r_conv (c := (M : Int)) ui_3 ui_24 rfl (wrap_u64 (by omega) (by omega))) fun ac17 hf17 => ?_)
  refine seq_one (op_val (v := .int .i64 bits) hf17 rfl rfl rfl rfl rfl rfl (r_move rfl) fun ac18 hf18 => ?_)
  refine seq_one (op_pure hf18 rfl rfl rfl rfl ca_10 (aheadR_pur bits hnow (by omega)) hI2 fun ac19 wd2 hI3 hf19 => ?_)
  refine seq_one (op_val (v := .tuple #[.int .u64 ((aheadF now (M : Int) bits).1), .bool ((aheadF now (M : Int) bits).2 == 0)]) hf19 rfl rfl rfl rfl rfl rfl (r_move rfl) fun ac20 hf20 => ?_)
  refine seq_one (op_val (v := .int .u64 ((aheadF now (M : Int) bits).1)) hf20 rfl rfl rfl rfl rfl rfl (r_extract rfl rfl) fun ac21 hf21 => ?_)
  refine seq_one (op_val (v := .bool ((aheadF now (M : Int) bits).2 == 0)) hf21 rfl rfl rfl rfl rfl rfl (r_extract rfl rfl) fun ac22 hf22 => ?_)
  refine seq_one (op_val (v := .int .u64 ((aheadF now (M : Int) bits).1)) hf22 rfl rfl rfl rfl rfl rfl (r_assign rfl) fun ac23 hf23 => ?_)
  refine seq_one (op_val (v := .bool ((aheadF now (M : Int) bits).2 == 0)) hf23 rfl rfl rfl rfl rfl rfl (r_assign rfl) fun ac24 hf24 => ?_)
  refine seq_end ?_
  clear ac13 hf13 ac14 hf14 ac15 hf15 ac16 hf16 ac17 hf17 ac18 wd1 hI2 hf18 ac19 hf19 ac20 hf20 ac21 hf21 ac22 hf22 ac23 hf23
  refine then_normal ?_
  refine code_seq ?_
  refine code_seq ?_
  refine code_join 268 ([(0, .int .i64 cells), (1, .int .i64 bits), (2, .slice p L cap), (3, .slice q M caq), (4, .int .u64 now), (10, .bool false), (11, .int .u64 ((aheadF now (M : Int) bits).1)), (12, .int .i64 ((aheadF now (M : Int) bits).2)), (13, .int .u64 ((aheadF now (M : Int) bits).1)), (14, .bool ((aheadF now (M : Int) bits).2 == 0)), (33, .tuple #[.int .u64 ((aheadF now (M : Int) bits).1), .int .i64 ((aheadF now (M : Int) bits).2)]), (34, .int .u64 now), (35, .slice q M caq), (36, .int .i64 (M : Int)), (37, .int .u64 (M : Int)), (38, .int .i64 bits), (39, .tuple #[.int .u64 ((aheadF now (M : Int) bits).1), .int .i64 ((aheadF now (M : Int) bits).2)]), (40, .int .u64 ((aheadF now (M : Int) bits).1)), (41, .int .i64 ((aheadF now (M : Int) bits).2)), (42, .tuple #[.int .u64 ((aheadF now (M : Int) bits).1), .bool ((aheadF now (M : Int) bits).2 == 0)]), (43, .int .u64 now), (44, .slice q M caq), (45, .int .i64 (M : Int)), (46, .int .u64 (M : Int)), (47, .int .i64 bits), (48, .tuple #[.int .u64 ((aheadF now (M : Int) bits).1), .bool ((aheadF now (M : Int) bits).2 == 0)]), (49, .int .u64 ((aheadF now (M : Int) bits).1)), (50, .bool ((aheadF now (M : Int) bits).2 == 0)), (67, .bool false)]) (fun w' => Inv w [] w') ?_ ?_
  ·
    refine seq_start (l := [0, 1, 2, 3, 4, 5, 6, 7, 8, 9, 10, 11, 12, 13, 14, 15, 16]) rfl ?_
    refine seq_one (op_val (v := .int .u64 ((aheadF now (M : Int) bits).1)) hf24 rfl rfl rfl rfl rfl rfl (r_move rfl) fun ac25 hf25 => ?_)
    refine seq_one (op_val (v := .int .u64 ((aheadF now (M : Int) bits).1)) hf25 rfl rfl rfl rfl rfl rfl (r_move rfl) fun ac26 hf26 => ?_)
    refine seq_one (op_val (v := .bool (((aheadF now (M : Int) bits).1) != ((aheadF now (M : Int) bits).1))) hf26 rfl rfl rfl rfl rfl rfl (r_neq rfl rfl) fun ac27 hf27 => ?_)
    refine seq_one (op_val (v := .bool (((aheadF now (M : Int) bits).1) != ((aheadF now (M : Int) bits).1))) hf27 rfl rfl rfl rfl rfl rfl (r_move rfl) fun ac28 hf28 => ?_)
    have hf29 := hf28.know 54 (u := .bool false) rfl (congrArg Value.bool (bne_self_eq_false _))
    refine seq_one (op_val (v := .int .i64 ((aheadF now (M : Int) bits).2)) hf29 rfl rfl rfl rfl rfl rfl (r_move rfl) fun ac29 hf30 => ?_)
    refine seq_one (op_val (v := .bool (((aheadF now (M : Int) bits).2) == 0)) hf30 rfl rfl rfl rfl rfl rfl (r_eql rfl rfl) fun ac30 hf31 => ?_)
    refine seq_one (op_val (v := .bool ((aheadF now (M : Int) bits).2 == 0)) hf31 rfl rfl rfl rfl rfl rfl (r_move rfl) fun ac31 hf32 => ?_)
    refine seq_one (op_val (v := .bool ((((aheadF now (M : Int) bits).2) == 0) != ((aheadF now (M : Int) bits).2 == 0))) hf32 rfl rfl rfl rfl rfl rfl (r_neB ub_4 rfl rfl) fun ac32 hf33 => ?_)
    refine seq_one (op_val (v := .bool ((((aheadF now (M : Int) bits).2) == 0) != ((aheadF now (M : Int) bits).2 == 0))) hf33 rfl rfl rfl rfl rfl rfl (r_pickF rfl rfl) fun ac33 hf34 => ?_)
    refine seq_one (op_val (v := .bool ((((aheadF now (M : Int) bits).2) == 0) != ((aheadF now (M : Int) bits).2 == 0))) hf34 rfl rfl rfl rfl rfl rfl (r_move rfl) fun ac34 hf35 => ?_)
    have hf36 := hf35.know 60 (u := .bool false) rfl (congrArg Value.bool (bne_self_eq_false _))
    refine seq_one (op_val (v := .bool ((aheadF now (M : Int) bits).2 == 0)) hf36 rfl rfl rfl rfl rfl rfl (r_move rfl) fun ac35 hf37 => ?_)
    refine seq_one (op_val (v := .bool (!((aheadF now (M : Int) bits).2 == 0))) hf37 rfl rfl rfl rfl rfl rfl (r_not rfl) fun ac36 hf38 => ?_)
    refine seq_one (op_val (v := .bool (!((aheadF now (M : Int) bits).2 == 0))) hf38 rfl rfl rfl rfl rfl rfl (r_move rfl) fun ac37 hf39 => ?_)
    rcases Bool.eq_false_or_eq_true (!((aheadF now (M : Int) bits).2 == 0) : Bool) with g63_1 | g63_1
    · have hf40 := hf39.know 63 (u := .bool true) rfl (congrArg Value.bool g63_1)
      refine seq_one (op_val (v := .int .i64 ((aheadF now (M : Int) bits).2)) hf40 rfl rfl rfl rfl rfl rfl (r_move rfl) fun ac38 hf41 => ?_)
      refine seq_one (op_val (v := .bool (((aheadF now (M : Int) bits).2) != 2)) hf41 rfl rfl rfl rfl rfl rfl (r_neq rfl rfl) fun ac39 hf42 => ?_)
      refine seq_one (op_val (v := .bool (((aheadF now (M : Int) bits).2) != 2)) hf42 rfl rfl rfl rfl rfl rfl (r_pickT rfl rfl) fun ac40 hf43 => ?_)
      refine seq_one (op_val (v := .bool (((aheadF now (M : Int) bits).2) != 2)) hf43 rfl rfl rfl rfl rfl rfl (r_pickF rfl rfl) fun ac41 hf44 => ?_)
      refine seq_end ?_
      clear ac24 hf24 ac25 hf25 ac26 hf26 ac27 hf27 hf28 ac28 hf29 ac29 hf30 ac30 hf31 ac31 hf32 ac32 hf33 ac33 hf34 hf35 ac34 hf36 ac35 hf37 ac36 hf38 hf39 ac37 hf40 ac38 hf41 ac39 hf42 ac40 hf43
      refine then_normal ?_
      have hf45 := hf44.know 67 (u := .bool false) rfl (congrArg Value.bool (aheadF2 g63_1))
      clear hf44
      exact ⟨(hf45.cons 0 rfl (hf45.cons 1 rfl (hf45.cons 2 rfl (hf45.cons 3 rfl (hf45.cons 4 rfl (hf45.cons 10 rfl (hf45.cons 11 rfl (hf45.cons 12 rfl (hf45.cons 13 rfl (hf45.cons 14 rfl (hf45.cons 33 rfl (hf45.cons 34 rfl (hf45.cons 35 rfl (hf45.cons 36 rfl (hf45.cons 37 rfl (hf45.cons 38 rfl (hf45.cons 39 rfl (hf45.cons 40 rfl (hf45.cons 41 rfl (hf45.cons 42 rfl (hf45.cons 43 rfl (hf45.cons 44 rfl (hf45.cons 45 rfl (hf45.cons 46 rfl (hf45.cons 47 rfl (hf45.cons 48 rfl (hf45.cons 49 rfl (hf45.cons 50 rfl (hf45.cons 67 rfl hf45.nil))))))))))))))))))))))))))))), hI3⟩
    · have hf46 := hf39.know 63 (u := .bool false) rfl (congrArg Value.bool g63_1)
      refine seq_one (op_skip hf46 rfl rfl rfl rfl fun ac42 hf47 => ?_)
      refine seq_one (op_skip hf47 rfl rfl rfl rfl fun ac43 hf48 => ?_)
      refine seq_one (op_val (v := .bool false) hf48 rfl rfl rfl rfl rfl rfl (r_pickF rfl rfl) fun ac44 hf49 => ?_)
      refine seq_one (op_val (v := .bool false) hf49 rfl rfl rfl rfl rfl rfl (r_pickF rfl rfl) fun ac45 hf50 => ?_)
      refine seq_end ?_
      clear ac24 hf24 ac25 hf25 ac26 hf26 ac27 hf27 hf28 ac28 hf29 ac29 hf30 ac30 hf31 ac31 hf32 ac32 hf33 ac33 hf34 hf35 ac34 hf36 ac35 hf37 ac36 hf38 hf39 ac37 hf46 ac42 hf47 ac43 hf48 ac44 hf49
      refine then_normal ?_
      exact ⟨(hf50.cons 0 rfl (hf50.cons 1 rfl (hf50.cons 2 rfl (hf50.cons 3 rfl (hf50.cons 4 rfl (hf50.cons 10 rfl (hf50.cons 11 rfl (hf50.cons 12 rfl (hf50.cons 13 rfl (hf50.cons 14 rfl (hf50.cons 33 rfl (hf50.cons 34 rfl (hf50.cons 35 rfl (hf50.cons 36 rfl (hf50.cons 37 rfl (hf50.cons 38 rfl (hf50.cons 39 rfl (hf50.cons 40 rfl (hf50.cons 41 rfl (hf50.cons 42 rfl (hf50.cons 43 rfl (hf50.cons 44 rfl (hf50.cons 45 rfl (hf50.cons 46 rfl (hf50.cons 47 rfl (hf50.cons 48 rfl (hf50.cons 49 rfl (hf50.cons 50 rfl (hf50.cons 67 rfl hf50.nil))))))))))))))))))))))))))))), hI3⟩
  ·
    intro ac46 wd3 hf51 hI4
    clear ac24 wd2 hf24 hI3
    refine then_normal ?_
    refine code_if_false hf51 rfl ?_
    refine wp_skip ?_
    refine then_normal ?_
    refine code_seq ?_
    refine seq_start (l := [0, 1, 2, 3, 4, 5, 6, 7]) rfl ?_
    refine seq_one (op_val (v := .int .i64 cells) hf51 rfl rfl rfl rfl rfl rfl (r_move rfl) fun ac47 hf52 => ?_)
    refine seq_one (op_val (v := .int .i64 bits) hf52 rfl rfl rfl rfl rfl rfl (r_move rfl) fun ac48 hf53 => ?_)
    rcases new_cases cells bits with ⟨n, k, hn1, hn2, hk1, hk2, rfl, rfl⟩ | hbad
    ·
      refine seq_one (op_call (R := fun v w' => ∃ lb cb, Array.size (World.heap wd3) ≤ lb ∧ Array.size (World.heap wd3) ≤ cb ∧ v = .tuple #[.pointer (some ⟨cb, 0, none⟩), .int .i64 0] ∧ Inv wd3 [(lb, arr .u64 (List.replicate n 0), 24), (cb, #[.slice (some ⟨lb, 0, none⟩) n n, .int .i64 (k : Int)], 58)] w') hf53 rfl rfl rfl rfl ca_11 ((new_walk (n := n) (k := k) hn1 hn2 hk1 hk2 _).mono fun e w' ⟨lb, cb, h1, h2, h3, h4⟩ => ⟨_, h3, lb, cb, h1, h2, rfl, h4⟩) fun ac49 v wd4 hR hf54 => ?_)
      obtain ⟨b1, b2, hqb1, hqb2, rfl, hwb1⟩ := hR
      have hb1 := Nat.le_trans hI4.size hqb1
      have hb2 := Nat.le_trans hI4.size hqb2
      have hI5 : Inv w [(b1, arr .u64 (List.replicate n 0), 24), (b2, #[.slice (some ⟨b1, 0, none⟩) n n, .int .i64 (k : Int)], 58)] _ := hI4.callN hwb1 (fun x hx => by simp only [List.mem_cons, List.mem_nil_iff, or_false] at hx; rcases hx with rfl | rfl <;> assumption)
      refine seq_one (op_val (v := .tuple #[.pointer (some ⟨b2, 0, none⟩), .int .i64 0]) hf54 rfl rfl rfl rfl rfl rfl (r_move rfl) fun ac50 hf55 => ?_)
      refine seq_one (op_val (v := .pointer (some ⟨b2, 0, none⟩)) hf55 rfl rfl rfl rfl rfl rfl (r_extract rfl rfl) fun ac51 hf56 => ?_)
      refine seq_one (op_val (v := .int .i64 0) hf56 rfl rfl rfl rfl rfl rfl (r_extract rfl rfl) fun ac52 hf57 => ?_)
      refine seq_one (op_val (v := .pointer (some ⟨b2, 0, none⟩)) hf57 rfl rfl rfl rfl rfl rfl (r_assign rfl) fun ac53 hf58 => ?_)
      refine seq_one (op_val (v := .int .i64 0) hf58 rfl rfl rfl rfl rfl rfl (r_assign rfl) fun ac54 hf59 => ?_)
      refine seq_end ?_
      clear ac46 hf51 ac47 hf52 ac48 wd3 hf53 hI4 hwb1 hqb1 hqb2 ac49 hf54 ac50 hf55 ac51 hf56 ac52 hf57 ac53 hf58
      refine then_normal ?_
      refine code_seq ?_
      refine seq_start (l := [0, 1, 2, 3, 4, 5, 6, 7, 8]) rfl ?_
      refine seq_one (op_val (v := .int .i64 (n : Int)) hf59 rfl rfl rfl rfl rfl rfl (r_move rfl) fun ac55 hf60 => ?_)
      refine seq_one (op_val (v := .int .i64 (k : Int)) hf60 rfl rfl rfl rfl rfl rfl (r_move rfl) fun ac56 hf61 => ?_)
      refine seq_one (op_call (R := fun v w' => ∃ b, Array.size (World.heap wd4) ≤ b ∧ v = .tuple #[.agg #[.int .i64 (k : Int), .slice (some ⟨b, 0, none⟩) n (n + 0)], .bool true] ∧ Inv wd4 [(b, arr .u64 (List.replicate n 0 ++ List.replicate 0 0), 24)] w') hf61 rfl rfl rfl rfl ca_12 ((newR_walk' hn1 hn2 hk1 hk2 _).mono fun e w' ⟨b, h1, h2, h3⟩ => ⟨_, h2, b, h1, rfl, h3⟩) fun ac57 v wd5 hR hf62 => ?_)
      obtain ⟨b3, hqb3, rfl, hwb3⟩ := hR
      have hb3 := Nat.le_trans hI5.size hqb3
      have hI6 : Inv w [(b1, arr .u64 (List.replicate n 0), 24), (b2, #[.slice (some ⟨b1, 0, none⟩) n n, .int .i64 (k : Int)], 58), (b3, arr .u64 (List.replicate n 0 ++ List.replicate 0 0), 24)] _ := hI5.callN hwb3 (fun x hx => by simp only [List.mem_singleton] at hx; subst hx; exact hqb3)
      refine seq_one (op_val (v := .tuple #[.agg #[.int .i64 (k : Int), .slice (some ⟨b3, 0, none⟩) n (n + 0)], .bool true]) hf62 rfl rfl rfl rfl rfl rfl (r_move rfl) fun ac58 hf63 => ?_)
      refine seq_one (op_val (v := .agg #[.int .i64 (k : Int), .slice (some ⟨b3, 0, none⟩) n (n + 0)]) hf63 rfl rfl rfl rfl rfl rfl (r_extract rfl rfl) fun ac59 hf64 => ?_)
      refine seq_one (op_val (v := .bool true) hf64 rfl rfl rfl rfl rfl rfl (r_extract rfl rfl) fun ac60 hf65 => ?_)
      refine seq_one (op_alloc hf65 rfl rfl rfl ze_34 hI6 fun ac61 b4 wd6 hb4 hI7 hf66 => ?_)
      have hI8 : Inv w [(b1, arr .u64 (List.replicate n 0), 24), (b2, #[.slice (some ⟨b1, 0, none⟩) n n, .int .i64 (k : Int)], 58), (b3, arr .u64 (List.replicate n 0 ++ List.replicate 0 0), 24), (b4, #[.int .i64 0, .slice none 0 0], 34)] wd6 := hI7
      refine seq_one (op_storeW (cells := #[.int .i64 (k : Int), .slice (some ⟨b3, 0, none⟩) n (n + 0)]) 3 hf66 rfl rfl rfl rfl rfl sz_34 rfl rfl hI8 rfl rfl fun wd7 hI9 => ?_)
      have hI10 : Inv w [(b1, arr .u64 (List.replicate n 0), 24), (b2, #[.slice (some ⟨b1, 0, none⟩) n n, .int .i64 (k : Int)], 58), (b3, arr .u64 (List.replicate n 0 ++ List.replicate 0 0), 24), (b4, #[.int .i64 (k : Int), .slice (some ⟨b3, 0, none⟩) n (n + 0)], 34)] wd7 := hI9
      refine seq_one (op_val (v := .bool true) hf66 rfl rfl rfl rfl rfl rfl (r_assign rfl) fun ac62 hf67 => ?_)
      refine seq_end ?_
      clear ac54 hf59 ac55 hf60 ac56 wd4 hf61 hI5 hwb3 hqb3 ac57 hf62 ac58 hf63 ac59 hf64 ac60 wd5 hI6 hf65 hI7 wd6 hI8 hI9 ac61 hf66
      refine then_normal ?_
      refine code_seq ?_
      refine code_seq ?_
      refine seq_start (l := [0, 1, 2, 3, 4, 5, 6, 7, 8, 9, 10, 11, 12, 13, 14, 15]) rfl ?_
      refine seq_one (op_val (v := .int .i64 0) hf67 rfl rfl rfl rfl rfl rfl (r_move rfl) fun ac63 hf68 => ?_)
      refine seq_one (op_val (v := .bool true) hf68 rfl rfl rfl rfl rfl rfl (r_eqlC rfl rfl (by decide)) fun ac64 hf69 => ?_)
      refine seq_one (op_val (v := .bool true) hf69 rfl rfl rfl rfl rfl rfl (r_move rfl) fun ac65 hf70 => ?_)
      refine seq_one (op_val (v := .bool false) hf70 rfl rfl rfl rfl rfl rfl ((r_neB (p := true) (q := true) ub_4 rfl rfl).trans rfl) fun ac66 hf71 => ?_)
      refine seq_one (op_val (v := .bool false) hf71 rfl rfl rfl rfl rfl rfl (r_move rfl) fun ac67 hf72 => ?_)
      refine seq_one (op_val (v := .bool true) hf72 rfl rfl rfl rfl rfl rfl (r_move rfl) fun ac68 hf73 => ?_)
      refine seq_one (op_val (v := .bool false) hf73 rfl rfl rfl rfl rfl rfl ((r_not (b := true) rfl).trans rfl) fun ac69 hf74 => ?_)
      refine seq_one (op_val (v := .bool false) hf74 rfl rfl rfl rfl rfl rfl (r_move rfl) fun ac70 hf75 => ?_)
      refine seq_one (op_skip hf75 rfl rfl rfl rfl fun ac71 hf76 => ?_)
      refine seq_one (op_skip hf76 rfl rfl rfl rfl fun ac72 hf77 => ?_)
      refine seq_one (op_skip hf77 rfl rfl rfl rfl fun ac73 hf78 => ?_)
      refine seq_one (op_skip hf78 rfl rfl rfl rfl fun ac74 hf79 => ?_)
      refine seq_one (op_skip hf79 rfl rfl rfl rfl fun ac75 hf80 => ?_)
      refine seq_one (op_skip hf80 rfl rfl rfl rfl fun ac76 hf81 => ?_)
      refine seq_one (op_val (v := .bool false) hf81 rfl rfl rfl rfl rfl rfl (r_pickF rfl rfl) fun ac77 hf82 => ?_)
      refine seq_one (op_val (v := .bool false) hf82 rfl rfl rfl rfl rfl rfl (r_pickF rfl rfl) fun ac78 hf83 => ?_)
      refine seq_end ?_
      clear ac62 hf67 ac63 hf68 ac64 hf69 ac65 hf70 ac66 hf71 ac67 hf72 ac68 hf73 ac69 hf74 ac70 hf75 ac71 hf76 ac72 hf77 ac73 hf78 ac74 hf79 ac75 hf80 ac76 hf81 ac77 hf82
      refine then_normal ?_
      refine code_if_false hf83 rfl ?_
      refine wp_skip ?_
      refine then_normal ?_
      refine code_seq ?_
      refine code_seq ?_
      refine seq_start (l := [0, 1, 2, 3, 4, 5, 6, 7, 8, 9, 10, 11, 12, 13, 14, 15]) rfl ?_
      refine seq_one (op_val (v := .bool true) hf83 rfl rfl rfl rfl rfl rfl (r_move rfl) fun ac79 hf84 => ?_)
      refine seq_one (op_val (v := .bool false) hf84 rfl rfl rfl rfl rfl rfl ((r_not (b := true) rfl).trans rfl) fun ac80 hf85 => ?_)
      refine seq_one (op_val (v := .bool false) hf85 rfl rfl rfl rfl rfl rfl (r_move rfl) fun ac81 hf86 => ?_)
      refine seq_one (op_val (v := .int .i64 (n : Int)) hf86 rfl rfl rfl rfl rfl rfl (r_move rfl) fun ac82 hf87 => ?_)
      refine seq_one (op_val (v := .bool (decide ((n : Int) > 20))) hf87 rfl rfl rfl rfl rfl rfl (r_gtr rfl rfl) fun ac83 hf88 => ?_)
      refine seq_one (op_val (v := .bool (decide ((n : Int) > 20))) hf88 rfl rfl rfl rfl rfl rfl (r_pickF rfl rfl) fun ac84 hf89 => ?_)
      refine seq_one (op_val (v := .bool (decide ((n : Int) > 20))) hf89 rfl rfl rfl rfl rfl rfl (r_move rfl) fun ac85 hf90 => ?_)
      rcases Bool.eq_false_or_eq_true (decide ((n : Int) > 20) : Bool) with g102_2 | g102_2
      · have hf91 := hf90.know 102 (u := .bool true) rfl (congrArg Value.bool g102_2)
        refine seq_one (op_skip hf91 rfl rfl rfl rfl fun ac86 hf92 => ?_)
        refine seq_one (op_skip hf92 rfl rfl rfl rfl fun ac87 hf93 => ?_)
        refine seq_one (op_skip hf93 rfl rfl rfl rfl fun ac88 hf94 => ?_)
        refine seq_one (op_val (v := .bool true) hf94 rfl rfl rfl rfl rfl rfl (r_pickT rfl rfl) fun ac89 hf95 => ?_)
        refine seq_one (op_val (v := .bool true) hf95 rfl rfl rfl rfl rfl rfl (r_move rfl) fun ac90 hf96 => ?_)
        refine seq_one (op_skip hf96 rfl rfl rfl rfl fun ac91 hf97 => ?_)
        refine seq_one (op_skip hf97 rfl rfl rfl rfl fun ac92 hf98 => ?_)
        refine seq_one (op_skip hf98 rfl rfl rfl rfl fun ac93 hf99 => ?_)
        refine seq_one (op_val (v := .bool true) hf99 rfl rfl rfl rfl rfl rfl (r_pickT rfl rfl) fun ac94 hf100 => ?_)
        refine seq_end ?_
        clear ac78 hf83 ac79 hf84 ac80 hf85 ac81 hf86 ac82 hf87 ac83 hf88 ac84 hf89 hf90 ac85 hf91 ac86 hf92 ac87 hf93 ac88 hf94 ac89 hf95 ac90 hf96 ac91 hf97 ac92 hf98 ac93 hf99
        refine then_normal ?_
        refine code_if_true hf100 rfl ?_
        refine code_seq ?_
        refine seq_start (l := [0, 1]) rfl ?_
        refine seq_one (op_pure hf100 rfl rfl rfl rfl ca_13 awake_pur hI10 fun ac95 wd8 hI11 hf101 => ?_)
        refine seq_one (op_val (v := .bool true) hf101 rfl rfl rfl rfl rfl rfl (r_assign rfl) fun ac96 hf102 => ?_)
        refine seq_end ?_
        clear ac94 wd7 hI10 hf100 ac95 hf101
        refine then_normal ?_
        refine wp_ret ?_
        refine then_ret ?_
        refine post1 rfl hf102 rfl ⟨?_, hI11.done (fresh_keys (ks := [b1, b2, b3, b4]) rfl (fk_cons hb1 (fk_cons hb2 (fk_cons hb3 (fk_cons hb4 fk_nil)))))⟩
        rfl
      · have hf103 := hf90.know 102 (u := .bool false) rfl (congrArg Value.bool g102_2)
        refine seq_one (op_val (v := .slice p L cap) hf103 rfl rfl rfl rfl rfl rfl (r_move rfl) fun ac97 hf104 => ?_)
        refine seq_one (op_val (v := .int .i64 (L : Int)) hf104 rfl rfl rfl rfl rfl rfl (r_len sl_22 rfl) fun ac98 hf105 => ?_)
        refine seq_one (op_val (v := .bool (decide ((L : Int) > 60))) hf105 rfl rfl rfl rfl rfl rfl (r_gtr rfl rfl) fun ac99 hf106 => ?_)
        refine seq_one (op_val (v := .bool (decide ((L : Int) > 60))) hf106 rfl rfl rfl rfl rfl rfl (r_pickF rfl rfl) fun ac100 hf107 => ?_)
        refine seq_one (op_val (v := .bool (decide ((L : Int) > 60))) hf107 rfl rfl rfl rfl rfl rfl (r_move rfl) fun ac101 hf108 => ?_)
        rcases Bool.eq_false_or_eq_true (decide ((L : Int) > 60) : Bool) with g107_3 | g107_3
        · have hf109 := hf108.know 107 (u := .bool true) rfl (congrArg Value.bool g107_3)
          refine seq_one (op_skip hf109 rfl rfl rfl rfl fun ac102 hf110 => ?_)
          refine seq_one (op_skip hf110 rfl rfl rfl rfl fun ac103 hf111 => ?_)
          refine seq_one (op_skip hf111 rfl rfl rfl rfl fun ac104 hf112 => ?_)
          refine seq_one (op_val (v := .bool true) hf112 rfl rfl rfl rfl rfl rfl (r_pickT rfl rfl) fun ac105 hf113 => ?_)
          refine seq_end ?_
          clear ac78 hf83 ac79 hf84 ac80 hf85 ac81 hf86 ac82 hf87 ac83 hf88 ac84 hf89 hf90 ac85 hf103 ac97 hf104 ac98 hf105 ac99 hf106 ac100 hf107 hf108 ac101 hf109 ac102 hf110 ac103 hf111 ac104 hf112
          refine then_normal ?_
          refine code_if_true hf113 rfl ?_
          refine code_seq ?_
          refine seq_start (l := [0, 1]) rfl ?_
          refine seq_one (op_pure hf113 rfl rfl rfl rfl ca_13 awake_pur hI10 fun ac106 wd9 hI12 hf114 => ?_)
          refine seq_one (op_val (v := .bool true) hf114 rfl rfl rfl rfl rfl rfl (r_assign rfl) fun ac107 hf115 => ?_)
          refine seq_end ?_
          clear ac105 wd7 hI10 hf113 ac106 hf114
          refine then_normal ?_
          refine wp_ret ?_
          refine then_ret ?_
          refine post1 rfl hf115 rfl ⟨?_, hI12.done (fresh_keys (ks := [b1, b2, b3, b4]) rfl (fk_cons hb1 (fk_cons hb2 (fk_cons hb3 (fk_cons hb4 fk_nil)))))⟩
          rfl
        · have hf116 := hf108.know 107 (u := .bool false) rfl (congrArg Value.bool g107_3)
          refine seq_one (op_val (v := .slice q M caq) hf116 rfl rfl rfl rfl rfl rfl (r_move rfl) fun ac108 hf117 => ?_)
          refine seq_one (op_val (v := .int .i64 (M : Int)) hf117 rfl rfl rfl rfl rfl rfl (r_len sl_23 rfl) fun ac109 hf118 => ?_)
          refine seq_one (op_val (v := .bool (decide ((M : Int) > 300))) hf118 rfl rfl rfl rfl rfl rfl (r_gtr rfl rfl) fun ac110 hf119 => ?_)
          refine seq_one (op_val (v := .bool (decide ((M : Int) > 300))) hf119 rfl rfl rfl rfl rfl rfl (r_pickF rfl rfl) fun ac111 hf120 => ?_)
          refine seq_end ?_
          clear ac78 hf83 ac79 hf84 ac80 hf85 ac81 hf86 ac82 hf87 ac83 hf88 ac84 hf89 hf90 ac85 hf103 ac97 hf104 ac98 hf105 ac99 hf106 ac100 hf107 hf108 ac101 hf116 ac108 hf117 ac109 hf118 ac110 hf119
          refine then_normal ?_
          refine code_if hf120 rfl (fun c111_4 => ?_) (fun c111_4 => ?_)
          · have hf121 := hf120.know 111 (u := .bool true) rfl (congrArg Value.bool c111_4)
            refine code_seq ?_
            refine seq_start (l := [0, 1]) rfl ?_
            refine seq_one (op_pure hf121 rfl rfl rfl rfl ca_13 awake_pur hI10 fun ac112 wd10 hI13 hf122 => ?_)
            refine seq_one (op_val (v := .bool true) hf122 rfl rfl rfl rfl rfl rfl (r_assign rfl) fun ac113 hf123 => ?_)
            refine seq_end ?_
            clear hf120 ac111 wd7 hI10 hf121 ac112 hf122
            refine then_normal ?_
            refine wp_ret ?_
            refine then_ret ?_
            refine post1 rfl hf123 rfl ⟨?_, hI13.done (fresh_keys (ks := [b1, b2, b3, b4]) rfl (fk_cons hb1 (fk_cons hb2 (fk_cons hb3 (fk_cons hb4 fk_nil)))))⟩
            rfl
          · have hf124 := hf120.know 111 (u := .bool false) rfl (congrArg Value.bool c111_4)
            refine wp_skip ?_
            refine then_normal ?_
            refine code_seq ?_
            refine code_seq ?_
            refine seq_start (l := [0, 1, 2]) rfl ?_
            refine seq_one (op_val (v := .slice p L cap) hf124 rfl rfl rfl rfl rfl rfl (r_move rfl) fun ac114 hf125 => ?_)
            refine seq_one (op_val (v := .int .i64 (L : Int)) hf125 rfl rfl rfl rfl rfl rfl (r_len sl_22 rfl) fun ac115 hf126 => ?_)
            refine seq_one (op_val (v := .int .i64 0) hf126 rfl rfl rfl rfl rfl rfl (r_move rfl) fun ac116 hf127 => ?_)
            refine seq_end ?_
            clear hf120 ac111 hf124 ac114 hf125 ac115 hf126
            refine then_normal ?_
            refine wp_block ?_
            refine code_loop (α := Nat × (List Int) × Nat × Nat) (fun (x : Nat × (List Int) × Nat × Nat) => match x with | (i, xs, rb, m) => [(0, .int .i64 (n : Int)), (1, .int .i64 (k : Int)), (2, .slice p L cap), (3, .slice q M caq), (4, .int .u64 now), (11, .int .u64 ((aheadF now (M : Int) (k : Int)).1)), (12, .int .i64 0), (13, .int .u64 ((aheadF now (M : Int) (k : Int)).1)), (14, .bool true), (15, .pointer (some ⟨b2, 0, none⟩)), (16, .pointer (some ⟨b4, 0, none⟩)), (33, .tuple #[.int .u64 ((aheadF now (M : Int) (k : Int)).1), .int .i64 ((aheadF now (M : Int) (k : Int)).2)]), (34, .int .u64 now), (35, .slice q M caq), (36, .int .i64 (M : Int)), (37, .int .u64 (M : Int)), (38, .int .i64 (k : Int)), (39, .tuple #[.int .u64 ((aheadF now (M : Int) (k : Int)).1), .int .i64 ((aheadF now (M : Int) (k : Int)).2)]), (40, .int .u64 ((aheadF now (M : Int) (k : Int)).1)), (41, .int .i64 ((aheadF now (M : Int) (k : Int)).2)), (42, .tuple #[.int .u64 ((aheadF now (M : Int) (k : Int)).1), .bool ((aheadF now (M : Int) (k : Int)).2 == 0)]), (43, .int .u64 now), (44, .slice q M caq), (45, .int .i64 (M : Int)), (46, .int .u64 (M : Int)), (47, .int .i64 (k : Int)), (48, .tuple #[.int .u64 ((aheadF now (M : Int) (k : Int)).1), .bool ((aheadF now (M : Int) (k : Int)).2 == 0)]), (49, .int .u64 ((aheadF now (M : Int) (k : Int)).1)), (50, .bool ((aheadF now (M : Int) (k : Int)).2 == 0)), (67, .bool false), (68, .tuple #[.pointer (some ⟨b2, 0, none⟩), .int .i64 0]), (69, .int .i64 (n : Int)), (70, .int .i64 (k : Int)), (71, .tuple #[.pointer (some ⟨b2, 0, none⟩), .int .i64 0]), (72, .pointer (some ⟨b2, 0, none⟩)), (73, .int .i64 0), (74, .tuple #[.agg #[.int .i64 (k : Int), .slice (some ⟨b3, 0, none⟩) n (n + 0)], .bool true]), (75, .int .i64 (n : Int)), (76, .int .i64 (k : Int)), (77, .tuple #[.agg #[.int .i64 (k : Int), .slice (some ⟨b3, 0, none⟩) n (n + 0)], .bool true]), (78, .agg #[.int .i64 (k : Int), .slice (some ⟨b3, 0, none⟩) n (n + 0)]), (79, .bool true), (80, .int .i64 0), (81, .bool true), (82, .bool true), (83, .bool false), (84, .bool false), (85, .bool true), (86, .bool false), (87, .bool false), (94, .bool false), (95, .bool false), (96, .bool true), (97, .bool false), (98, .bool false), (99, .int .i64 (n : Int)), (100, .bool (decide ((n : Int) > 20))), (101, .bool (decide ((n : Int) > 20))), (102, .bool false), (103, .slice p L cap), (104, .int .i64 (L : Int)), (105, .bool (decide ((L : Int) > 60))), (106, .bool (decide ((L : Int) > 60))), (107, .bool false), (108, .slice q M caq), (109, .int .i64 (M : Int)), (110, .bool (decide ((M : Int) > 300))), (111, .bool false), (113, .slice p L cap), (114, .int .i64 (L : Int)), (115, .int .i64 (i : Int))]) (fun (x : Nat × (List Int) × Nat × Nat) => match x with | (i, xs, rb, m) => fun wL => Inv w [(b1, arr .u64 xs, 24), (b2, #[.slice (some ⟨b1, 0, none⟩) n n, .int .i64 (k : Int)], 58), (rb, arr .u64 (xs ++ List.replicate m 0), 24), (b4, #[.int .i64 (k : Int), .slice (some ⟨rb, 0, none⟩) n (n + m)], 34)] wL ∧ (i ≤ L ∧ Te xs n ∧ w.heap.size ≤ rb)) (fun (x : Nat × (List Int) × Nat × Nat) => match x with | (i, xs, rb, m) => L - i) (0, List.replicate n 0, b3, 0) (hf127.cons 0 rfl (hf127.cons 1 rfl (hf127.cons 2 rfl (hf127.cons 3 rfl (hf127.cons 4 rfl (hf127.cons 11 rfl (hf127.cons 12 rfl (hf127.cons 13 rfl (hf127.cons 14 rfl (hf127.cons 15 rfl (hf127.cons 16 rfl (hf127.cons 33 rfl (hf127.cons 34 rfl (hf127.cons 35 rfl (hf127.cons 36 rfl (hf127.cons 37 rfl (hf127.cons 38 rfl (hf127.cons 39 rfl (hf127.cons 40 rfl (hf127.cons 41 rfl (hf127.cons 42 rfl (hf127.cons 43 rfl (hf127.cons 44 rfl (hf127.cons 45 rfl (hf127.cons 46 rfl (hf127.cons 47 rfl (hf127.cons 48 rfl (hf127.cons 49 rfl (hf127.cons 50 rfl (hf127.cons 67 rfl (hf127.cons 68 rfl (hf127.cons 69 rfl (hf127.cons 70 rfl (hf127.cons 71 rfl (hf127.cons 72 rfl (hf127.cons 73 rfl (hf127.cons 74 rfl (hf127.cons 75 rfl (hf127.cons 76 rfl (hf127.cons 77 rfl (hf127.cons 78 rfl (hf127.cons 79 rfl (hf127.cons 80 rfl (hf127.cons 81 rfl (hf127.cons 82 rfl (hf127.cons 83 rfl (hf127.cons 84 rfl (hf127.cons 85 rfl (hf127.cons 86 rfl (hf127.cons 87 rfl (hf127.cons 94 rfl (hf127.cons 95 rfl (hf127.cons 96 rfl (hf127.cons 97 rfl (hf127.cons 98 rfl (hf127.cons 99 rfl (hf127.cons 100 rfl (hf127.cons 101 rfl (hf127.cons 102 rfl (hf127.cons 103 rfl (hf127.cons 104 rfl (hf127.cons 105 rfl (hf127.cons 106 rfl (hf127.cons 107 rfl (hf127.cons 108 rfl (hf127.cons 109 rfl (hf127.cons 110 rfl (hf127.cons 111 rfl (hf127.cons 113 rfl (hf127.cons 114 rfl (hf127.cons 115 rfl hf127.nil))))))))))))))))))))))))))))))))))))))))))))))))))))))))))))))))))))))) ⟨hI10, ⟨Nat.zero_le _, Te.init, hb3⟩⟩ ?_
            intro ⟨i, xs, rb, m⟩ ac117 wd11 hf128 hL1
            obtain ⟨hI14, hx1⟩ := hL1
            dsimp only at hf128 hI14 hx1
            clear ac116 wd7 hf127 hI10
            have hrb := hx1.2.2
            refine code_seq ?_
            refine seq_start (l := [0]) rfl ?_
            refine seq_one (op_val (v := .bool (decide ((i : Int) < (L : Int)))) hf128 rfl rfl rfl rfl rfl rfl (r_lss rfl rfl) fun ac118 hf129 => ?_)
            refine seq_end ?_
            clear ac117 hf128
            refine then_normal ?_
            refine code_seq ?_
            refine code_if hf129 rfl (fun c116_5 => ?_) (fun c116_5 => ?_)
            · have hf130 := hf129.know 116 (u := .bool true) rfl (congrArg Value.bool c116_5)
              refine wp_skip ?_
              refine then_normal ?_
              refine code_seq ?_
              refine wp_block ?_
              refine code_seq ?_
              refine seq_start (l := [0, 1, 2, 3]) rfl ?_
              obtain ⟨kd5, ii5, nn5, hri5, hnn5, hii5, ek5, ei5, en5⟩ := op_row (i := i) ho (by have := of_decide_eq_true c116_5; omega)
              refine seq_one (op_val (v := .pointer (slAt p (i * 3))) hf130 rfl rfl rfl rfl rfl rfl (r_indexAddrR (i := i) (sz := 3) sl_22 rfl rfl rfl (by have := of_decide_eq_true c116_5; omega) rfl ⟨_, ((hr.old hI14 (fresh_keys (ks := [b1, b2, rb, b4]) rfl (fk_cons hb1 (fk_cons hb2 (fk_cons hrb (fk_cons hb4 fk_nil)))))) _ _ hri5).choose_spec.1⟩) fun ac119 hf131 => ?_)
              refine seq_one (op_val (v := .agg #[.int .u8 kd5, .int .i64 ii5, .int .u64 nn5]) hf131 rfl rfl rfl rfl rfl rfl (r_loadRow ag_39 sz_39 rfl (hr.old hI14 (fresh_keys (ks := [b1, b2, rb, b4]) rfl (fk_cons hb1 (fk_cons hb2 (fk_cons hrb (fk_cons hb4 fk_nil)))))) hri5 rfl) fun ac120 hf132 => ?_)
              refine seq_one (op_alloc hf132 rfl rfl rfl ze_39 hI14 fun ac121 b6 wd12 hb6 hI15 hf133 => ?_)
              have hI16 : Inv w [(b1, arr .u64 xs, 24), (b2, #[.slice (some ⟨b1, 0, none⟩) n n, .int .i64 (k : Int)], 58), (rb, arr .u64 (xs ++ List.replicate m 0), 24), (b4, #[.int .i64 (k : Int), .slice (some ⟨rb, 0, none⟩) n (n + m)], 34), (b6, #[.int .u8 0, .int .i64 0, .int .u64 0], 39)] wd12 := hI15
              refine seq_one (op_storeW (cells := #[.int .u8 kd5, .int .i64 ii5, .int .u64 nn5]) 4 hf133 rfl rfl rfl rfl rfl sz_39 rfl rfl hI16 rfl rfl fun wd13 hI17 => ?_)
              have hI18 : Inv w [(b1, arr .u64 xs, 24), (b2, #[.slice (some ⟨b1, 0, none⟩) n n, .int .i64 (k : Int)], 58), (rb, arr .u64 (xs ++ List.replicate m 0), 24), (b4, #[.int .i64 (k : Int), .slice (some ⟨rb, 0, none⟩) n (n + m)], 34), (b6, #[.int .u8 kd5, .int .i64 ii5, .int .u64 nn5], 39)] wd13 := hI17
              refine seq_end ?_
              clear hf129 ac118 hf130 ac119 hf131 ac120 wd11 hI14 hf132 hI15 wd12 hI16 hI17
              refine then_normal ?_
              refine code_seq ?_
              refine code_seq ?_
              refine seq_start (l := [0, 1, 2]) rfl ?_
              refine seq_one (op_val (v := .pointer (some ⟨b6, 0, none⟩)) hf133 rfl rfl rfl rfl rfl rfl (r_fieldAddr fi_39_0 rfl rfl) fun ac122 hf134 => ?_)
              refine seq_one (op_val (v := .int .u8 kd5) hf134 rfl rfl rfl rfl rfl rfl (r_load ag_5 rfl (hI18.at 4 rfl) rfl) fun ac123 hf135 => ?_)
              refine seq_one (op_val (v := .bool (kd5 == 1)) hf135 rfl rfl rfl rfl rfl rfl (r_eql rfl rfl) fun ac124 hf136 => ?_)
              refine seq_end ?_
              clear ac121 hf133 ac122 hf134 ac123 hf135
              refine then_normal ?_
              refine code_joinG 268 ((List Int) × (Nat) × (Nat)) (fun (x : (List Int) × (Nat) × (Nat)) => match x with | (ys, rc, mm) => [(0, .int .i64 (n : Int)), (1, .int .i64 (k : Int)), (2, .slice p L cap), (3, .slice q M caq), (4, .int .u64 now), (11, .int .u64 ((aheadF now (M : Int) (k : Int)).1)), (12, .int .i64 0), (13, .int .u64 ((aheadF now (M : Int) (k : Int)).1)), (14, .bool true), (15, .pointer (some ⟨b2, 0, none⟩)), (16, .pointer (some ⟨b4, 0, none⟩)), (18, .pointer (some ⟨b6, 0, none⟩)), (33, .tuple #[.int .u64 ((aheadF now (M : Int) (k : Int)).1), .int .i64 ((aheadF now (M : Int) (k : Int)).2)]), (34, .int .u64 now), (35, .slice q M caq), (36, .int .i64 (M : Int)), (37, .int .u64 (M : Int)), (38, .int .i64 (k : Int)), (39, .tuple #[.int .u64 ((aheadF now (M : Int) (k : Int)).1), .int .i64 ((aheadF now (M : Int) (k : Int)).2)]), (40, .int .u64 ((aheadF now (M : Int) (k : Int)).1)), (41, .int .i64 ((aheadF now (M : Int) (k : Int)).2)), (42, .tuple #[.int .u64 ((aheadF now (M : Int) (k : Int)).1), .bool ((aheadF now (M : Int) (k : Int)).2 == 0)]), (43, .int .u64 now), (44, .slice q M caq), (45, .int .i64 (M : Int)), (46, .int .u64 (M : Int)), (47, .int .i64 (k : Int)), (48, .tuple #[.int .u64 ((aheadF now (M : Int) (k : Int)).1), .bool ((aheadF now (M : Int) (k : Int)).2 == 0)]), (49, .int .u64 ((aheadF now (M : Int) (k : Int)).1)), (50, .bool ((aheadF now (M : Int) (k : Int)).2 == 0)), (67, .bool false), (68, .tuple #[.pointer (some ⟨b2, 0, none⟩), .int .i64 0]), (69, .int .i64 (n : Int)), (70, .int .i64 (k : Int)), (71, .tuple #[.pointer (some ⟨b2, 0, none⟩), .int .i64 0]), (72, .pointer (some ⟨b2, 0, none⟩)), (73, .int .i64 0), (74, .tuple #[.agg #[.int .i64 (k : Int), .slice (some ⟨b3, 0, none⟩) n (n + 0)], .bool true]), (75, .int .i64 (n : Int)), (76, .int .i64 (k : Int)), (77, .tuple #[.agg #[.int .i64 (k : Int), .slice (some ⟨b3, 0, none⟩) n (n + 0)], .bool true]), (78, .agg #[.int .i64 (k : Int), .slice (some ⟨b3, 0, none⟩) n (n + 0)]), (79, .bool true), (80, .int .i64 0), (81, .bool true), (82, .bool true), (83, .bool false), (84, .bool false), (85, .bool true), (86, .bool false), (87, .bool false), (94, .bool false), (95, .bool false), (96, .bool true), (97, .bool false), (98, .bool false), (99, .int .i64 (n : Int)), (100, .bool (decide ((n : Int) > 20))), (101, .bool (decide ((n : Int) > 20))), (102, .bool false), (103, .slice p L cap), (104, .int .i64 (L : Int)), (105, .bool (decide ((L : Int) > 60))), (106, .bool (decide ((L : Int) > 60))), (107, .bool false), (108, .slice q M caq), (109, .int .i64 (M : Int)), (110, .bool (decide ((M : Int) > 300))), (111, .bool false), (113, .slice p L cap), (114, .int .i64 (L : Int)), (115, .int .i64 (i : Int)), (116, .bool true), (117, .pointer (slAt p (i * 3))), (118, .agg #[.int .u8 kd5, .int .i64 ii5, .int .u64 nn5]), (119, .pointer (some ⟨b6, 0, none⟩)), (120, .int .u8 kd5)]) (fun (x : (List Int) × (Nat) × (Nat)) => match x with | (ys, rc, mm) => fun w' => Inv w [(b1, arr .u64 ys, 24), (b2, #[.slice (some ⟨b1, 0, none⟩) n n, .int .i64 (k : Int)], 58), (rc, arr .u64 (ys ++ List.replicate mm 0), 24), (b4, #[.int .i64 (k : Int), .slice (some ⟨rc, 0, none⟩) n (n + mm)], 34), (b6, #[.int .u8 kd5, .int .i64 ii5, .int .u64 nn5], 39)] w' ∧ (Te ys n ∧ w.heap.size ≤ rc)) ?_ ?_
              ·
                refine code_if hf136 rfl (fun c121_6 => ?_) (fun c121_6 => ?_)
                · have hf137 := hf136.know 121 (u := .bool true) rfl (congrArg Value.bool c121_6)
                  refine code_seq ?_
                  refine seq_start (l := [0, 1, 2]) rfl ?_
                  refine seq_one (op_val (v := .pointer (some ⟨b2, 0, none⟩)) hf137 rfl rfl rfl rfl rfl rfl (r_move rfl) fun ac125 hf138 => ?_)
                  refine seq_one (op_call (R := fun v w' => ∃ b m, Array.size (World.heap _) ≤ b ∧ n + m ≤ maxLen ∧ v = .slice (some ⟨b, 0, none⟩) n (n + m) ∧ Inv _ [(b1, arr .u64 (List.replicate n 0), 24), (b2, #[.slice (some ⟨b1, 0, none⟩) n n, .int .i64 (k : Int)], 58), (b, arr .u64 (xs ++ List.replicate m 0), 24)] w') hf138 rfl rfl rfl rfl ca_14 ((drain_walk hx1.2.1.len hn1 hn2 (hI18.ne (i := 0) (j := 1) rfl rfl (by decide)) (Has.cons (hI18.at 0 rfl) (Has.cons (hI18.at 1 rfl) Has.nil))).mono fun e w' ⟨b, m, h1, h2, h3, h4⟩ => ⟨_, h3, b, m, h1, h2, rfl, h4⟩) fun ac126 v wd14 hR hf139 => ?_)
                  obtain ⟨b7, m7, hqb7, hm7, rfl, hwb7⟩ := hR
                  have hb7 := Nat.le_trans hI18.size hqb7
                  have hI19 : Inv w [(b1, arr .u64 (List.replicate n 0), 24), (b2, #[.slice (some ⟨b1, 0, none⟩) n n, .int .i64 (k : Int)], 58), (rb, arr .u64 (xs ++ List.replicate m 0), 24), (b4, #[.int .i64 (k : Int), .slice (some ⟨rb, 0, none⟩) n (n + m)], 34), (b6, #[.int .u8 kd5, .int .i64 ii5, .int .u64 nn5], 39), (b7, arr .u64 (xs ++ List.replicate m7 0), 24)] _ := Inv.callS (A := []) (S := [(b1, arr .u64 xs, 24), (b2, #[.slice (some ⟨b1, 0, none⟩) n n, .int .i64 (k : Int)], 58)]) (S' := [(b1, arr .u64 (List.replicate n 0), 24), (b2, #[.slice (some ⟨b1, 0, none⟩) n n, .int .i64 (k : Int)], 58)]) (L := [(rb, arr .u64 (xs ++ List.replicate m 0), 24), (b4, #[.int .i64 (k : Int), .slice (some ⟨rb, 0, none⟩) n (n + m)], 34), (b6, #[.int .u8 kd5, .int .i64 ii5, .int .u64 nn5], 39)]) (N := [(b7, arr .u64 (xs ++ List.replicate m7 0), 24)]) hI18 hwb7 rfl (fun x hx => by simp only [List.mem_singleton] at hx; subst hx; exact hqb7)
                  refine seq_one (op_val (v := .slice (some ⟨b7, 0, none⟩) n (n + m7)) hf139 rfl rfl rfl rfl rfl rfl (r_assign rfl) fun ac127 hf140 => ?_)
                  refine seq_end ?_
                  clear hf136 ac124 hf137 ac125 wd13 hf138 hI18 hwb7 hqb7 ac126 hf139
                  refine then_normal ?_
                  refine code_seq ?_
                  refine code_seq ?_
                  refine seq_start (l := [0, 1, 2, 3, 4]) rfl ?_
                  refine seq_one (op_val (v := .slice (some ⟨b7, 0, none⟩) n (n + m7)) hf140 rfl rfl rfl rfl rfl rfl (r_move rfl) fun ac128 hf141 => ?_)
                  refine seq_one (op_val (v := .pointer (some ⟨b4, 1, none⟩)) hf141 rfl rfl rfl rfl rfl rfl (r_fieldAddr fi_34_1 rfl rfl) fun ac129 hf142 => ?_)
                  refine seq_one (op_val (v := .slice (some ⟨rb, 0, none⟩) n (n + m)) hf142 rfl rfl rfl rfl rfl rfl (r_load ag_23 rfl (hI19.at 3 rfl) rfl) fun ac130 hf143 => ?_)
                  refine seq_one (op_pureW hf143 rfl rfl rfl rfl ca_15 (same_walk (xs := xs) (ys := xs) hx1.2.1.len hx1.2.1.len (by omega) (Rd.blk (xs := xs) (hI19.at 5 rfl) arr_take2) (Rd.blk (xs := xs) (hI19.at 2 rfl) arr_take2)) hI19 fun ac131 wd15 hI20 hf144 => ?_)
                  refine seq_one (op_val (v := .bool (!(xs == xs))) hf144 rfl rfl rfl rfl rfl rfl (r_not rfl) fun ac132 hf145 => ?_)
                  refine seq_end ?_
                  clear ac127 hf140 ac128 hf141 ac129 hf142 ac130 wd14 hI19 hf143 ac131 hf144
                  refine then_normal ?_
                  have hf146 := hf145.know 128 (u := .bool false) rfl (congrArg Value.bool (by rw [beq_self_eq_true]; rfl))
                  refine code_if_false hf146 rfl ?_
                  refine wp_skip ?_
                  refine then_normal ?_
                  refine code_seq ?_
                  refine code_seq ?_
                  refine seq_start (l := [0, 1, 2]) rfl ?_
                  refine seq_one (op_val (v := .slice (some ⟨b7, 0, none⟩) n (n + m7)) hf146 rfl rfl rfl rfl rfl rfl (r_move rfl) fun ac133 hf147 => ?_)
                  refine seq_one (op_val (v := .int .i64 (n : Int)) hf147 rfl rfl rfl rfl rfl rfl (r_len sl_23 rfl) fun ac134 hf148 => ?_)
                  refine seq_one (op_val (v := .int .i64 0) hf148 rfl rfl rfl rfl rfl rfl (r_move rfl) fun ac135 hf149 => ?_)
                  refine seq_end ?_
                  clear hf145 ac132 hf146 ac133 hf147 ac134 hf148
                  refine then_normal ?_
                  refine wp_block ?_
                  refine code_loop (α := Nat × (List Int)) (fun (x : Nat × (List Int)) => match x with | (d2, ts2) => [(0, .int .i64 (n : Int)), (1, .int .i64 (k : Int)), (2, .slice p L cap), (3, .slice q M caq), (4, .int .u64 now), (11, .int .u64 ((aheadF now (M : Int) (k : Int)).1)), (12, .int .i64 0), (13, .int .u64 ((aheadF now (M : Int) (k : Int)).1)), (14, .bool true), (15, .pointer (some ⟨b2, 0, none⟩)), (16, .pointer (some ⟨b4, 0, none⟩)), (18, .pointer (some ⟨b6, 0, none⟩)), (19, .slice (some ⟨b7, 0, none⟩) n (n + m7)), (33, .tuple #[.int .u64 ((aheadF now (M : Int) (k : Int)).1), .int .i64 ((aheadF now (M : Int) (k : Int)).2)]), (34, .int .u64 now), (35, .slice q M caq), (36, .int .i64 (M : Int)), (37, .int .u64 (M : Int)), (38, .int .i64 (k : Int)), (39, .tuple #[.int .u64 ((aheadF now (M : Int) (k : Int)).1), .int .i64 ((aheadF now (M : Int) (k : Int)).2)]), (40, .int .u64 ((aheadF now (M : Int) (k : Int)).1)), (41, .int .i64 ((aheadF now (M : Int) (k : Int)).2)), (42, .tuple #[.int .u64 ((aheadF now (M : Int) (k : Int)).1), .bool ((aheadF now (M : Int) (k : Int)).2 == 0)]), (43, .int .u64 now), (44, .slice q M caq), (45, .int .i64 (M : Int)), (46, .int .u64 (M : Int)), (47, .int .i64 (k : Int)), (48, .tuple #[.int .u64 ((aheadF now (M : Int) (k : Int)).1), .bool ((aheadF now (M : Int) (k : Int)).2 == 0)]), (49, .int .u64 ((aheadF now (M : Int) (k : Int)).1)), (50, .bool ((aheadF now (M : Int) (k : Int)).2 == 0)), (67, .bool false), (68, .tuple #[.pointer (some ⟨b2, 0, none⟩), .int .i64 0]), (69, .int .i64 (n : Int)), (70, .int .i64 (k : Int)), (71, .tuple #[.pointer (some ⟨b2, 0, none⟩), .int .i64 0]), (72, .pointer (some ⟨b2, 0, none⟩)), (73, .int .i64 0), (74, .tuple #[.agg #[.int .i64 (k : Int), .slice (some ⟨b3, 0, none⟩) n (n + 0)], .bool true]), (75, .int .i64 (n : Int)), (76, .int .i64 (k : Int)), (77, .tuple #[.agg #[.int .i64 (k : Int), .slice (some ⟨b3, 0, none⟩) n (n + 0)], .bool true]), (78, .agg #[.int .i64 (k : Int), .slice (some ⟨b3, 0, none⟩) n (n + 0)]), (79, .bool true), (80, .int .i64 0), (81, .bool true), (82, .bool true), (83, .bool false), (84, .bool false), (85, .bool true), (86, .bool false), (87, .bool false), (94, .bool false), (95, .bool false), (96, .bool true), (97, .bool false), (98, .bool false), (99, .int .i64 (n : Int)), (100, .bool (decide ((n : Int) > 20))), (101, .bool (decide ((n : Int) > 20))), (102, .bool false), (103, .slice p L cap), (104, .int .i64 (L : Int)), (105, .bool (decide ((L : Int) > 60))), (106, .bool (decide ((L : Int) > 60))), (107, .bool false), (108, .slice q M caq), (109, .int .i64 (M : Int)), (110, .bool (decide ((M : Int) > 300))), (111, .bool false), (113, .slice p L cap), (114, .int .i64 (L : Int)), (115, .int .i64 (i : Int)), (116, .bool true), (117, .pointer (slAt p (i * 3))), (118, .agg #[.int .u8 kd5, .int .i64 ii5, .int .u64 nn5]), (119, .pointer (some ⟨b6, 0, none⟩)), (120, .int .u8 kd5), (121, .bool true), (122, .pointer (some ⟨b2, 0, none⟩)), (123, .slice (some ⟨b7, 0, none⟩) n (n + m7)), (124, .slice (some ⟨b7, 0, none⟩) n (n + m7)), (125, .pointer (some ⟨b4, 1, none⟩)), (126, .slice (some ⟨rb, 0, none⟩) n (n + m)), (127, .bool (xs == xs)), (128, .bool false), (129, .slice (some ⟨b7, 0, none⟩) n (n + m7)), (130, .int .i64 (n : Int)), (131, .int .i64 (d2 : Int))]) (fun (x : Nat × (List Int)) => match x with | (d2, ts2) => fun wL => Inv w [(b1, arr .u64 (List.replicate n 0), 24), (b2, #[.slice (some ⟨b1, 0, none⟩) n n, .int .i64 (k : Int)], 58), (rb, arr .u64 (xs ++ List.replicate m 0), 24), (b4, #[.int .i64 (k : Int), .slice (some ⟨rb, 0, none⟩) n (n + m)], 34), (b6, #[.int .u8 kd5, .int .i64 ii5, .int .u64 nn5], 39), (b7, arr .u64 ts2, 24)] wL ∧ (d2 ≤ n ∧ ts2.length = n + m7)) (fun (x : Nat × (List Int)) => match x with | (d2, ts2) => n - d2) (0, (xs ++ List.replicate m7 0)) (hf149.cons 0 rfl (hf149.cons 1 rfl (hf149.cons 2 rfl (hf149.cons 3 rfl (hf149.cons 4 rfl (hf149.cons 11 rfl (hf149.cons 12 rfl (hf149.cons 13 rfl (hf149.cons 14 rfl (hf149.cons 15 rfl (hf149.cons 16 rfl (hf149.cons 18 rfl (hf149.cons 19 rfl (hf149.cons 33 rfl (hf149.cons 34 rfl (hf149.cons 35 rfl (hf149.cons 36 rfl (hf149.cons 37 rfl (hf149.cons 38 rfl (hf149.cons 39 rfl (hf149.cons 40 rfl (hf149.cons 41 rfl (hf149.cons 42 rfl (hf149.cons 43 rfl (hf149.cons 44 rfl (hf149.cons 45 rfl (hf149.cons 46 rfl (hf149.cons 47 rfl (hf149.cons 48 rfl (hf149.cons 49 rfl (hf149.cons 50 rfl (hf149.cons 67 rfl (hf149.cons 68 rfl (hf149.cons 69 rfl (hf149.cons 70 rfl (hf149.cons 71 rfl (hf149.cons 72 rfl (hf149.cons 73 rfl (hf149.cons 74 rfl (hf149.cons 75 rfl (hf149.cons 76 rfl (hf149.cons 77 rfl (hf149.cons 78 rfl (hf149.cons 79 rfl (hf149.cons 80 rfl (hf149.cons 81 rfl (hf149.cons 82 rfl (hf149.cons 83 rfl (hf149.cons 84 rfl (hf149.cons 85 rfl (hf149.cons 86 rfl (hf149.cons 87 rfl (hf149.cons 94 rfl (hf149.cons 95 rfl (hf149.cons 96 rfl (hf149.cons 97 rfl (hf149.cons 98 rfl (hf149.cons 99 rfl (hf149.cons 100 rfl (hf149.cons 101 rfl (hf149.cons 102 rfl (hf149.cons 103 rfl (hf149.cons 104 rfl (hf149.cons 105 rfl (hf149.cons 106 rfl (hf149.cons 107 rfl (hf149.cons 108 rfl (hf149.cons 109 rfl (hf149.cons 110 rfl (hf149.cons 111 rfl (hf149.cons 113 rfl (hf149.cons 114 rfl (hf149.cons 115 rfl (hf149.cons 116 rfl (hf149.cons 117 rfl (hf149.cons 118 rfl (hf149.cons 119 rfl (hf149.cons 120 rfl (hf149.cons 121 rfl (hf149.cons 122 rfl (hf149.cons 123 rfl (hf149.cons 124 rfl (hf149.cons 125 rfl (hf149.cons 126 rfl (hf149.cons 127 rfl (hf149.cons 128 rfl (hf149.cons 129 rfl (hf149.cons 130 rfl (hf149.cons 131 rfl hf149.nil))))))))))))))))))))))))))))))))))))))))))))))))))))))))))))))))))))))))))))))))))))))))) ⟨hI20, ⟨Nat.zero_le _, ((by rw [List.length_append, List.length_replicate, hx1.2.1.len]) : (xs ++ List.replicate m7 0).length = n + m7)⟩⟩ ?_
                  intro ⟨d2, ts2⟩ ac136 wd16 hf150 hL2
                  obtain ⟨hI21, hx2⟩ := hL2
                  dsimp only at hf150 hI21 hx2
                  clear ac135 wd15 hf149 hI20
                  refine code_seq ?_
                  refine seq_start (l := [0]) rfl ?_
                  refine seq_one (op_val (v := .bool (decide ((d2 : Int) < (n : Int)))) hf150 rfl rfl rfl rfl rfl rfl (r_lss rfl rfl) fun ac137 hf151 => ?_)
                  refine seq_end ?_
                  clear ac136 hf150
                  refine then_normal ?_
                  refine code_seq ?_
                  refine code_if hf151 rfl (fun c132_7 => ?_) (fun c132_7 => ?_)
                  · have hf152 := hf151.know 132 (u := .bool true) rfl (congrArg Value.bool c132_7)
                    refine wp_skip ?_
                    refine then_normal ?_
                    refine code_seq ?_
                    refine wp_block ?_
                    refine code_seq ?_
                    refine seq_start (l := [0, 1]) rfl ?_
                    refine seq_one (op_val (v := .int .i64 (d2 : Int)) hf152 rfl rfl rfl rfl rfl rfl (r_move rfl) fun ac138 hf153 => ?_)
                    refine seq_one (op_val (v := .int .i64 (d2 : Int)) hf153 rfl rfl rfl rfl rfl rfl (r_assign rfl) fun ac139 hf154 => ?_)
                    refine seq_end ?_
                    clear hf151 ac137 hf152 ac138 hf153
                    refine then_normal ?_
                    refine seq_start (l := [0, 1, 2, 3, 4, 5, 6]) rfl ?_
                    refine seq_one (op_val (v := .slice (some ⟨b7, 0, none⟩) n (n + m7)) hf154 rfl rfl rfl rfl rfl rfl (r_move rfl) fun ac140 hf155 => ?_)
                    refine seq_one (op_val (v := .int .i64 (d2 : Int)) hf155 rfl rfl rfl rfl rfl rfl (r_move rfl) fun ac141 hf156 => ?_)
                    refine seq_one (op_val (v := .pointer (some ⟨b7, d2, none⟩)) hf156 rfl rfl rfl rfl rfl rfl (r_indexAddrS (i := d2) sl_23 rfl rfl rfl (by have := of_decide_eq_true c132_7; omega) (by rw [Nat.mul_one, Nat.zero_add])) fun ac142 hf157 => ?_)
                    refine seq_one (op_val (v := .int .u64 (ts2.getD d2 0)) hf157 rfl rfl rfl rfl rfl rfl (r_load ag_24 rfl (hI21.at 5 rfl) (arr_get (Nat.lt_of_lt_of_eq (by have := of_decide_eq_true c132_7; omega) (Eq.symm hx2.2)))) fun ac143 hf158 => ?_)
                    refine seq_one (op_val (v := .int .u64 (IntKind.wrap .u64 ((ts2.getD d2 0) + 1))) hf158 rfl rfl rfl rfl rfl rfl (r_add rfl rfl rfl) fun ac144 hf159 => ?_)
                    refine seq_one (op_val (v := .pointer (some ⟨b7, d2, none⟩)) hf159 rfl rfl rfl rfl rfl rfl (r_indexAddrS (i := d2) sl_23 rfl rfl rfl (by have := of_decide_eq_true c132_7; omega) (by rw [Nat.mul_one, Nat.zero_add])) fun ac145 hf160 => ?_)
                    refine seq_one (op_store (cs' := arr .u64 (ts2.set d2 (IntKind.wrap .u64 ((ts2.getD d2 0) + 1)))) 5 hf160 rfl rfl rfl rfl rfl sz_24 hI21 rfl (Nat.lt_of_lt_of_eq (by have := of_decide_eq_true c132_7; omega) (Eq.symm (arr_size hx2.2))) arr_set fun wd17 hI22 => ?_)
                    have hI23 : Inv w [(b1, arr .u64 (List.replicate n 0), 24), (b2, #[.slice (some ⟨b1, 0, none⟩) n n, .int .i64 (k : Int)], 58), (rb, arr .u64 (xs ++ List.replicate m 0), 24), (b4, #[.int .i64 (k : Int), .slice (some ⟨rb, 0, none⟩) n (n + m)], 34), (b6, #[.int .u8 kd5, .int .i64 ii5, .int .u64 nn5], 39), (b7, arr .u64 (ts2.set d2 (IntKind.wrap .u64 ((ts2.getD d2 0) + 1))), 24)] wd17 := hI22
                    refine seq_end ?_
                    clear ac139 hf154 ac140 hf155 ac141 hf156 ac142 hf157 ac143 hf158 ac144 hf159 wd16 hI21 hI22
                    refine block_normal ?_
                    refine then_normal ?_
                    refine seq_start (l := [0, 1]) rfl ?_
                    refine seq_one (op_val (v := .int .i64 ((d2 + 1 : Nat) : Int)) hf160 rfl rfl rfl rfl rfl rfl (r_add (c := ((d2 + 1 : Nat) : Int)) rfl rfl (wrap_i64 (by omega) (by have := hx2.1; omega))) fun ac146 hf161 => ?_)
                    refine seq_one (op_val (v := .int .i64 ((d2 + 1 : Nat) : Int)) hf161 rfl rfl rfl rfl rfl rfl (r_move rfl) fun ac147 hf162 => ?_)
                    refine seq_end ?_
                    clear ac145 hf160 ac146 hf161
                    refine then_normal ?_
                    exact ⟨(d2 + 1, (ts2.set d2 (IntKind.wrap .u64 ((ts2.getD d2 0) + 1)))), (hf162.cons 0 rfl (hf162.cons 1 rfl (hf162.cons 2 rfl (hf162.cons 3 rfl (hf162.cons 4 rfl (hf162.cons 11 rfl (hf162.cons 12 rfl (hf162.cons 13 rfl (hf162.cons 14 rfl (hf162.cons 15 rfl (hf162.cons 16 rfl (hf162.cons 18 rfl (hf162.cons 19 rfl (hf162.cons 33 rfl (hf162.cons 34 rfl (hf162.cons 35 rfl (hf162.cons 36 rfl (hf162.cons 37 rfl (hf162.cons 38 rfl (hf162.cons 39 rfl (hf162.cons 40 rfl (hf162.cons 41 rfl (hf162.cons 42 rfl (hf162.cons 43 rfl (hf162.cons 44 rfl (hf162.cons 45 rfl (hf162.cons 46 rfl (hf162.cons 47 rfl (hf162.cons 48 rfl (hf162.cons 49 rfl (hf162.cons 50 rfl (hf162.cons 67 rfl (hf162.cons 68 rfl (hf162.cons 69 rfl (hf162.cons 70 rfl (hf162.cons 71 rfl (hf162.cons 72 rfl (hf162.cons 73 rfl (hf162.cons 74 rfl (hf162.cons 75 rfl (hf162.cons 76 rfl (hf162.cons 77 rfl (hf162.cons 78 rfl (hf162.cons 79 rfl (hf162.cons 80 rfl (hf162.cons 81 rfl (hf162.cons 82 rfl (hf162.cons 83 rfl (hf162.cons 84 rfl (hf162.cons 85 rfl (hf162.cons 86 rfl (hf162.cons 87 rfl (hf162.cons 94 rfl (hf162.cons 95 rfl (hf162.cons 96 rfl (hf162.cons 97 rfl (hf162.cons 98 rfl (hf162.cons 99 rfl (hf162.cons 100 rfl (hf162.cons 101 rfl (hf162.cons 102 rfl (hf162.cons 103 rfl (hf162.cons 104 rfl (hf162.cons 105 rfl (hf162.cons 106 rfl (hf162.cons 107 rfl (hf162.cons 108 rfl (hf162.cons 109 rfl (hf162.cons 110 rfl (hf162.cons 111 rfl (hf162.cons 113 rfl (hf162.cons 114 rfl (hf162.cons 115 rfl (hf162.cons 116 rfl (hf162.cons 117 rfl (hf162.cons 118 rfl (hf162.cons 119 rfl (hf162.cons 120 rfl (hf162.cons 121 rfl (hf162.cons 122 rfl (hf162.cons 123 rfl (hf162.cons 124 rfl (hf162.cons 125 rfl (hf162.cons 126 rfl (hf162.cons 127 rfl (hf162.cons 128 rfl (hf162.cons 129 rfl (hf162.cons 130 rfl (hf162.cons 131 rfl hf162.nil))))))))))))))))))))))))))))))))))))))))))))))))))))))))))))))))))))))))))))))))))))))))), ⟨hI23, ⟨by have := of_decide_eq_true c132_7; omega, List.length_set.trans hx2.2⟩⟩, (by have := of_decide_eq_true c132_7; show n - (d2 + 1) < n - d2; omega)⟩
                  · have hf163 := hf151.know 132 (u := .bool false) rfl (congrArg Value.bool c132_7)
                    refine wp_exit ?_
                    refine then_exit ?_
                    refine then_exit ?_
                    refine block_here ?_
                    refine then_normal ?_
                    refine seq_start (l := [0, 1, 2, 3, 4, 5, 6]) rfl ?_
                    refine seq_one (op_val (v := .int .i64 (n : Int)) hf163 rfl rfl rfl rfl rfl rfl (r_move rfl) fun ac148 hf164 => ?_)
                    refine seq_one (op_val (v := .int .i64 (k : Int)) hf164 rfl rfl rfl rfl rfl rfl (r_move rfl) fun ac149 hf165 => ?_)
                    refine seq_one (op_call (R := fun v w' => ∃ b, Array.size (World.heap wd16) ≤ b ∧ v = .tuple #[.agg #[.int .i64 (k : Int), .slice (some ⟨b, 0, none⟩) n (n + 0)], .bool true] ∧ Inv wd16 [(b, arr .u64 (List.replicate n 0 ++ List.replicate 0 0), 24)] w') hf165 rfl rfl rfl rfl ca_12 ((newR_walk' hn1 hn2 hk1 hk2 _).mono fun e w' ⟨b, h1, h2, h3⟩ => ⟨_, h2, b, h1, rfl, h3⟩) fun ac150 v wd18 hR hf166 => ?_)
                    obtain ⟨b8, hqb8, rfl, hwb8⟩ := hR
                    have hb8 := Nat.le_trans hI21.size hqb8
                    have hI24 : Inv w [(b1, arr .u64 (List.replicate n 0), 24), (b2, #[.slice (some ⟨b1, 0, none⟩) n n, .int .i64 (k : Int)], 58), (rb, arr .u64 (xs ++ List.replicate m 0), 24), (b4, #[.int .i64 (k : Int), .slice (some ⟨rb, 0, none⟩) n (n + m)], 34), (b6, #[.int .u8 kd5, .int .i64 ii5, .int .u64 nn5], 39), (b7, arr .u64 ts2, 24), (b8, arr .u64 (List.replicate n 0 ++ List.replicate 0 0), 24)] _ := hI21.callN hwb8 (fun x hx => by simp only [List.mem_singleton] at hx; subst hx; exact hqb8)
                    have hI25 : Inv w [(b1, arr .u64 (List.replicate n 0), 24), (b2, #[.slice (some ⟨b1, 0, none⟩) n n, .int .i64 (k : Int)], 58), (b8, arr .u64 (List.replicate n 0 ++ List.replicate 0 0), 24), (b4, #[.int .i64 (k : Int), .slice (some ⟨rb, 0, none⟩) n (n + m)], 34), (b6, #[.int .u8 kd5, .int .i64 ii5, .int .u64 nn5], 39), (b7, arr .u64 ts2, 24)] _ := Inv.replace (A := [(b1, arr .u64 (List.replicate n 0), 24), (b2, #[.slice (some ⟨b1, 0, none⟩) n n, .int .i64 (k : Int)], 58)]) (C := [(b4, #[.int .i64 (k : Int), .slice (some ⟨rb, 0, none⟩) n (n + m)], 34), (b6, #[.int .u8 kd5, .int .i64 ii5, .int .u64 nn5], 39), (b7, arr .u64 ts2, 24)]) hI24 hrb
                    refine seq_one (op_val (v := .tuple #[.agg #[.int .i64 (k : Int), .slice (some ⟨b8, 0, none⟩) n (n + 0)], .bool true]) hf166 rfl rfl rfl rfl rfl rfl (r_move rfl) fun ac151 hf167 => ?_)
                    refine seq_one (op_val (v := .agg #[.int .i64 (k : Int), .slice (some ⟨b8, 0, none⟩) n (n + 0)]) hf167 rfl rfl rfl rfl rfl rfl (r_extract rfl rfl) fun ac152 hf168 => ?_)
                    refine seq_one (op_val (v := .bool true) hf168 rfl rfl rfl rfl rfl rfl (r_extract rfl rfl) fun ac153 hf169 => ?_)
                    refine seq_one (op_storeW (cells := #[.int .i64 (k : Int), .slice (some ⟨b8, 0, none⟩) n (n + 0)]) 3 hf169 rfl rfl rfl rfl rfl sz_34 rfl rfl hI25 rfl rfl fun wd19 hI26 => ?_)
                    have hI27 : Inv w [(b1, arr .u64 (List.replicate n 0), 24), (b2, #[.slice (some ⟨b1, 0, none⟩) n n, .int .i64 (k : Int)], 58), (b8, arr .u64 (List.replicate n 0 ++ List.replicate 0 0), 24), (b4, #[.int .i64 (k : Int), .slice (some ⟨b8, 0, none⟩) n (n + 0)], 34), (b6, #[.int .u8 kd5, .int .i64 ii5, .int .u64 nn5], 39), (b7, arr .u64 ts2, 24)] wd19 := hI26
                    refine seq_end ?_
                    clear hf151 ac137 hf163 ac148 hf164 ac149 wd16 hf165 hI21 hwb8 hqb8 hI24 ac150 hf166 ac151 hf167 ac152 hf168 wd18 hI25 hI26
                    refine then_normal ?_
                    exact ⟨(List.replicate n 0, b8, 0), (hf169.cons 0 rfl (hf169.cons 1 rfl (hf169.cons 2 rfl (hf169.cons 3 rfl (hf169.cons 4 rfl (hf169.cons 11 rfl (hf169.cons 12 rfl (hf169.cons 13 rfl (hf169.cons 14 rfl (hf169.cons 15 rfl (hf169.cons 16 rfl (hf169.cons 18 rfl (hf169.cons 33 rfl (hf169.cons 34 rfl (hf169.cons 35 rfl (hf169.cons 36 rfl (hf169.cons 37 rfl (hf169.cons 38 rfl (hf169.cons 39 rfl (hf169.cons 40 rfl (hf169.cons 41 rfl (hf169.cons 42 rfl (hf169.cons 43 rfl (hf169.cons 44 rfl (hf169.cons 45 rfl (hf169.cons 46 rfl (hf169.cons 47 rfl (hf169.cons 48 rfl (hf169.cons 49 rfl (hf169.cons 50 rfl (hf169.cons 67 rfl (hf169.cons 68 rfl (hf169.cons 69 rfl (hf169.cons 70 rfl (hf169.cons 71 rfl (hf169.cons 72 rfl (hf169.cons 73 rfl (hf169.cons 74 rfl (hf169.cons 75 rfl (hf169.cons 76 rfl (hf169.cons 77 rfl (hf169.cons 78 rfl (hf169.cons 79 rfl (hf169.cons 80 rfl (hf169.cons 81 rfl (hf169.cons 82 rfl (hf169.cons 83 rfl (hf169.cons 84 rfl (hf169.cons 85 rfl (hf169.cons 86 rfl (hf169.cons 87 rfl (hf169.cons 94 rfl (hf169.cons 95 rfl (hf169.cons 96 rfl (hf169.cons 97 rfl (hf169.cons 98 rfl (hf169.cons 99 rfl (hf169.cons 100 rfl (hf169.cons 101 rfl (hf169.cons 102 rfl (hf169.cons 103 rfl (hf169.cons 104 rfl (hf169.cons 105 rfl (hf169.cons 106 rfl (hf169.cons 107 rfl (hf169.cons 108 rfl (hf169.cons 109 rfl (hf169.cons 110 rfl (hf169.cons 111 rfl (hf169.cons 113 rfl (hf169.cons 114 rfl (hf169.cons 115 rfl (hf169.cons 116 rfl (hf169.cons 117 rfl (hf169.cons 118 rfl (hf169.cons 119 rfl (hf169.cons 120 rfl hf169.nil))))))))))))))))))))))))))))))))))))))))))))))))))))))))))))))))))))))))))))), ⟨(Inv.drop (A := [(b1, arr .u64 (List.replicate n 0), 24), (b2, #[.slice (some ⟨b1, 0, none⟩) n n, .int .i64 (k : Int)], 58), (b8, arr .u64 (List.replicate n 0 ++ List.replicate 0 0), 24), (b4, #[.int .i64 (k : Int), .slice (some ⟨b8, 0, none⟩) n (n + 0)], 34), (b6, #[.int .u8 kd5, .int .i64 ii5, .int .u64 nn5], 39)]) (B := [(b7, arr .u64 ts2, 24)]) hI27 (fresh_keys (ks := [b7]) rfl (fk_cons hb7 fk_nil))), ⟨Te.init, hb8⟩⟩⟩
                · have hf170 := hf136.know 121 (u := .bool false) rfl (congrArg Value.bool c121_6)
                  refine code_seq ?_
                  refine seq_start (l := [0, 1, 2, 3, 4, 5, 6]) rfl ?_
                  refine seq_one (op_val (v := .pointer (some ⟨b2, 0, none⟩)) hf170 rfl rfl rfl rfl rfl rfl (r_move rfl) fun ac154 hf171 => ?_)
                  refine seq_one (op_val (v := .pointer (some ⟨b6, 1, none⟩)) hf171 rfl rfl rfl rfl rfl rfl (r_fieldAddr fi_39_1 rfl rfl) fun ac155 hf172 => ?_)
                  refine seq_one (op_val (v := .int .i64 ii5) hf172 rfl rfl rfl rfl rfl rfl (r_load ag_3 rfl (hI18.at 4 rfl) rfl) fun ac156 hf173 => ?_)
                  refine seq_one (op_val (v := .pointer (some ⟨b6, 2, none⟩)) hf173 rfl rfl rfl rfl rfl rfl (r_fieldAddr fi_39_2 rfl rfl) fun ac157 hf174 => ?_)
                  refine seq_one (op_val (v := .int .u64 nn5) hf174 rfl rfl rfl rfl rfl rfl (r_load ag_24 rfl (hI18.at 4 rfl) rfl) fun ac158 hf175 => ?_)
                  rcases place_cases n ii5 with ⟨pp5, hp5, rfl⟩ | ho5
                  ·
                    refine seq_one (op_call (R := fun v w' => v = .int .i64 0 ∧ Inv _ [(b1, arr .u64 (xs.set pp5 ((xs.getD pp5 0 + nn5) % pw k)), 24), (b2, #[.slice (some ⟨b1, 0, none⟩) n n, .int .i64 (k : Int)], 58)] w') hf175 rfl rfl rfl rfl ca_16 ((add_in (n := n) (k := k) (j := pp5) hx1.2.1.len hp5 hk1 hk2 (hI18.ne (i := 0) (j := 1) rfl rfl (by decide)) (Has.cons (hI18.at 0 rfl) (Has.cons (hI18.at 1 rfl) Has.nil))).mono fun _ _ h => ⟨_, h.1, rfl, h.2⟩) fun ac159 v wd20 hR7 hf176 => ?_)
                    obtain ⟨rfl, hR7⟩ := hR7
                    have hI28 : Inv w [(b1, arr .u64 (xs.set pp5 ((xs.getD pp5 0 + nn5) % pw k)), 24), (b2, #[.slice (some ⟨b1, 0, none⟩) n n, .int .i64 (k : Int)], 58), (rb, arr .u64 (xs ++ List.replicate m 0), 24), (b4, #[.int .i64 (k : Int), .slice (some ⟨rb, 0, none⟩) n (n + m)], 34), (b6, #[.int .u8 kd5, .int .i64 (pp5 : Int), .int .u64 nn5], 39)] _ := Inv.callS (A := []) (S := [(b1, arr .u64 xs, 24), (b2, #[.slice (some ⟨b1, 0, none⟩) n n, .int .i64 (k : Int)], 58)]) (S' := [(b1, arr .u64 (xs.set pp5 ((xs.getD pp5 0 + nn5) % pw k)), 24), (b2, #[.slice (some ⟨b1, 0, none⟩) n n, .int .i64 (k : Int)], 58)]) (L := [(rb, arr .u64 (xs ++ List.replicate m 0), 24), (b4, #[.int .i64 (k : Int), .slice (some ⟨rb, 0, none⟩) n (n + m)], 34), (b6, #[.int .u8 kd5, .int .i64 (pp5 : Int), .int .u64 nn5], 39)]) (N := []) hI18 hR7 rfl (fun _ h => by cases h)
                    refine seq_one (op_val (v := .int .i64 0) hf176 rfl rfl rfl rfl rfl rfl (r_assign rfl) fun ac160 hf177 => ?_)
                    refine seq_end ?_
                    clear hf136 ac124 hf170 ac154 hf171 ac155 hf172 ac156 hf173 ac157 hf174 ac158 wd13 hf175 hI18 hR7 ac159 hf176
                    refine then_normal ?_
                    refine code_seq ?_
                    refine seq_start (l := [0, 1, 2, 3, 4, 5, 6, 7, 8, 9, 10, 11]) rfl ?_
                    refine seq_one (op_val (v := .agg #[.int .i64 (k : Int), .slice (some ⟨rb, 0, none⟩) n (n + m)]) hf177 rfl rfl rfl rfl rfl rfl (r_loadW ag_34 sz_34 rfl (hI28.at 3 rfl) rfl) fun ac161 hf178 => ?_)
                    refine seq_one (op_val (v := .pointer (some ⟨b6, 1, none⟩)) hf178 rfl rfl rfl rfl rfl rfl (r_fieldAddr fi_39_1 rfl rfl) fun ac162 hf179 => ?_)
                    refine seq_one (op_val (v := .int .i64 (pp5 : Int)) hf179 rfl rfl rfl rfl rfl rfl (r_load ag_3 rfl (hI28.at 4 rfl) rfl) fun ac163 hf180 => ?_)
                    refine seq_one (op_val (v := .pointer (some ⟨b6, 2, none⟩)) hf180 rfl rfl rfl rfl rfl rfl (r_fieldAddr fi_39_2 rfl rfl) fun ac164 hf181 => ?_)
                    refine seq_one (op_val (v := .int .u64 nn5) hf181 rfl rfl rfl rfl rfl rfl (r_load ag_24 rfl (hI28.at 4 rfl) rfl) fun ac165 hf182 => ?_)
                    refine seq_one (op_call (R := fun v w' => ∃ b m, Array.size (World.heap wd20) ≤ b ∧ n + m ≤ maxLen ∧ v = .tuple #[.agg #[.int .i64 (k : Int), .slice (some ⟨b, 0, none⟩) n (n + m)], .bool true] ∧ Inv wd20 [(b, arr .u64 ((xs.set pp5 ((xs.getD pp5 0 + nn5) % pw k)) ++ List.replicate m 0), 24)] w') hf182 rfl rfl rfl rfl ca_17 ((addR_in (xs := xs) hx1.2.1.len hp5 hn2 hk1 hk2 hx1.2.1.get hnn5 (Rd.blk (xs := xs) (hI28.at 2 rfl) arr_take2)).mono fun e w' ⟨b, m, h1, h2, h3, h4⟩ => ⟨_, h3, b, m, h1, h2, rfl, h4⟩) fun ac166 v wd21 hR hf183 => ?_)
                    obtain ⟨b8, m8, hqb8, hm8, rfl, hwb8⟩ := hR
                    have hb8 := Nat.le_trans hI28.size hqb8
                    have hI29 : Inv w [(b1, arr .u64 (xs.set pp5 ((xs.getD pp5 0 + nn5) % pw k)), 24), (b2, #[.slice (some ⟨b1, 0, none⟩) n n, .int .i64 (k : Int)], 58), (rb, arr .u64 (xs ++ List.replicate m 0), 24), (b4, #[.int .i64 (k : Int), .slice (some ⟨rb, 0, none⟩) n (n + m)], 34), (b6, #[.int .u8 kd5, .int .i64 (pp5 : Int), .int .u64 nn5], 39), (b8, arr .u64 ((xs.set pp5 ((xs.getD pp5 0 + nn5) % pw k)) ++ List.replicate m8 0), 24)] _ := hI28.callN hwb8 (fun x hx => by simp only [List.mem_singleton] at hx; subst hx; exact hqb8)
                    have hI30 : Inv w [(b1, arr .u64 (xs.set pp5 ((xs.getD pp5 0 + nn5) % pw k)), 24), (b2, #[.slice (some ⟨b1, 0, none⟩) n n, .int .i64 (k : Int)], 58), (b8, arr .u64 ((xs.set pp5 ((xs.getD pp5 0 + nn5) % pw k)) ++ List.replicate m8 0), 24), (b4, #[.int .i64 (k : Int), .slice (some ⟨rb, 0, none⟩) n (n + m)], 34), (b6, #[.int .u8 kd5, .int .i64 (pp5 : Int), .int .u64 nn5], 39)] _ := Inv.replace (A := [(b1, arr .u64 (xs.set pp5 ((xs.getD pp5 0 + nn5) % pw k)), 24), (b2, #[.slice (some ⟨b1, 0, none⟩) n n, .int .i64 (k : Int)], 58)]) (C := [(b4, #[.int .i64 (k : Int), .slice (some ⟨rb, 0, none⟩) n (n + m)], 34), (b6, #[.int .u8 kd5, .int .i64 (pp5 : Int), .int .u64 nn5], 39)]) hI29 hrb
                    refine seq_one (op_val (v := .tuple #[.agg #[.int .i64 (k : Int), .slice (some ⟨b8, 0, none⟩) n (n + m8)], .bool true]) hf183 rfl rfl rfl rfl rfl rfl (r_move rfl) fun ac167 hf184 => ?_)
                    refine seq_one (op_val (v := .agg #[.int .i64 (k : Int), .slice (some ⟨b8, 0, none⟩) n (n + m8)]) hf184 rfl rfl rfl rfl rfl rfl (r_extract rfl rfl) fun ac168 hf185 => ?_)
                    refine seq_one (op_val (v := .bool true) hf185 rfl rfl rfl rfl rfl rfl (r_extract rfl rfl) fun ac169 hf186 => ?_)
                    refine seq_one (op_alloc hf186 rfl rfl rfl ze_34 hI30 fun ac170 b9 wd22 hb9 hI31 hf187 => ?_)
                    have hI32 : Inv w [(b1, arr .u64 (xs.set pp5 ((xs.getD pp5 0 + nn5) % pw k)), 24), (b2, #[.slice (some ⟨b1, 0, none⟩) n n, .int .i64 (k : Int)], 58), (b8, arr .u64 ((xs.set pp5 ((xs.getD pp5 0 + nn5) % pw k)) ++ List.replicate m8 0), 24), (b4, #[.int .i64 (k : Int), .slice (some ⟨rb, 0, none⟩) n (n + m)], 34), (b6, #[.int .u8 kd5, .int .i64 (pp5 : Int), .int .u64 nn5], 39), (b9, #[.int .i64 0, .slice none 0 0], 34)] wd22 := hI31
                    refine seq_one (op_storeW (cells := #[.int .i64 (k : Int), .slice (some ⟨b8, 0, none⟩) n (n + m8)]) 5 hf187 rfl rfl rfl rfl rfl sz_34 rfl rfl hI32 rfl rfl fun wd23 hI33 => ?_)
                    have hI34 : Inv w [(b1, arr .u64 (xs.set pp5 ((xs.getD pp5 0 + nn5) % pw k)), 24), (b2, #[.slice (some ⟨b1, 0, none⟩) n n, .int .i64 (k : Int)], 58), (b8, arr .u64 ((xs.set pp5 ((xs.getD pp5 0 + nn5) % pw k)) ++ List.replicate m8 0), 24), (b4, #[.int .i64 (k : Int), .slice (some ⟨rb, 0, none⟩) n (n + m)], 34), (b6, #[.int .u8 kd5, .int .i64 (pp5 : Int), .int .u64 nn5], 39), (b9, #[.int .i64 (k : Int), .slice (some ⟨b8, 0, none⟩) n (n + m8)], 34)] wd23 := hI33
                    refine seq_one (op_val (v := .bool true) hf187 rfl rfl rfl rfl rfl rfl (r_assign rfl) fun ac171 hf188 => ?_)
                    refine seq_end ?_
                    clear ac160 hf177 ac161 hf178 ac162 hf179 ac163 hf180 ac164 hf181 ac165 wd20 hf182 hI28 hwb8 hqb8 hI29 ac166 hf183 ac167 hf184 ac168 hf185 ac169 wd21 hI30 hf186 hI31 wd22 hI32 hI33 ac170 hf187
                    refine then_normal ?_
                    refine code_seq ?_
                    refine seq_start (l := [0, 1]) rfl ?_
                    refine seq_one (op_val (v := .agg #[.int .i64 (k : Int), .slice (some ⟨b8, 0, none⟩) n (n + m8)]) hf188 rfl rfl rfl rfl rfl rfl (r_loadW ag_34 sz_34 rfl (hI34.at 5 rfl) rfl) fun ac172 hf189 => ?_)
                    refine seq_one (op_storeW (cells := #[.int .i64 (k : Int), .slice (some ⟨b8, 0, none⟩) n (n + m8)]) 3 hf189 rfl rfl rfl rfl rfl sz_34 rfl rfl hI34 rfl rfl fun wd24 hI35 => ?_)
                    have hI36 : Inv w [(b1, arr .u64 (xs.set pp5 ((xs.getD pp5 0 + nn5) % pw k)), 24), (b2, #[.slice (some ⟨b1, 0, none⟩) n n, .int .i64 (k : Int)], 58), (b8, arr .u64 ((xs.set pp5 ((xs.getD pp5 0 + nn5) % pw k)) ++ List.replicate m8 0), 24), (b4, #[.int .i64 (k : Int), .slice (some ⟨b8, 0, none⟩) n (n + m8)], 34), (b6, #[.int .u8 kd5, .int .i64 (pp5 : Int), .int .u64 nn5], 39), (b9, #[.int .i64 (k : Int), .slice (some ⟨b8, 0, none⟩) n (n + m8)], 34)] wd24 := hI35
                    refine seq_end ?_
                    clear ac171 hf188 wd23 hI34 hI35
                    refine then_normal ?_
                    refine code_seq ?_
                    refine seq_start (l := [0, 1, 2, 3, 4, 5, 6, 7, 8, 9, 10, 11]) rfl ?_
                    refine seq_one (op_val (v := .int .i64 0) hf189 rfl rfl rfl rfl rfl rfl (r_move rfl) fun ac173 hf190 => ?_)
                    refine seq_one (op_val (v := .bool true) hf190 rfl rfl rfl rfl rfl rfl (r_eqlC rfl rfl (by decide)) fun ac174 hf191 => ?_)
                    refine seq_one (op_val (v := .bool true) hf191 rfl rfl rfl rfl rfl rfl (r_move rfl) fun ac175 hf192 => ?_)
                    refine seq_one (op_val (v := .bool false) hf192 rfl rfl rfl rfl rfl rfl ((r_neB (p := true) (q := true) ub_4 rfl rfl).trans rfl) fun ac176 hf193 => ?_)
                    refine seq_one (op_val (v := .bool false) hf193 rfl rfl rfl rfl rfl rfl (r_move rfl) fun ac177 hf194 => ?_)
                    refine seq_one (op_val (v := .bool true) hf194 rfl rfl rfl rfl rfl rfl (r_move rfl) fun ac178 hf195 => ?_)
                    refine seq_one (op_val (v := .bool false) hf195 rfl rfl rfl rfl rfl rfl ((r_not (b := true) rfl).trans rfl) fun ac179 hf196 => ?_)
                    refine seq_one (op_val (v := .bool false) hf196 rfl rfl rfl rfl rfl rfl (r_move rfl) fun ac180 hf197 => ?_)
                    refine seq_one (op_skip hf197 rfl rfl rfl rfl fun ac181 hf198 => ?_)
                    refine seq_one (op_skip hf198 rfl rfl rfl rfl fun ac182 hf199 => ?_)
                    refine seq_one (op_val (v := .bool false) hf199 rfl rfl rfl rfl rfl rfl (r_pickF rfl rfl) fun ac183 hf200 => ?_)
                    refine seq_one (op_val (v := .bool false) hf200 rfl rfl rfl rfl rfl rfl (r_pickF rfl rfl) fun ac184 hf201 => ?_)
                    refine seq_end ?_
                    clear ac172 hf189 ac173 hf190 ac174 hf191 ac175 hf192 ac176 hf193 ac177 hf194 ac178 hf195 ac179 hf196 ac180 hf197 ac181 hf198 ac182 hf199 ac183 hf200
                    refine then_normal ?_
                    refine code_if_false hf201 rfl ?_
                    refine wp_skip ?_
                    refine then_normal ?_
                    exact ⟨((xs.set pp5 ((xs.getD pp5 0 + nn5) % pw k)), b8, m8), (hf201.cons 0 rfl (hf201.cons 1 rfl (hf201.cons 2 rfl (hf201.cons 3 rfl (hf201.cons 4 rfl (hf201.cons 11 rfl (hf201.cons 12 rfl (hf201.cons 13 rfl (hf201.cons 14 rfl (hf201.cons 15 rfl (hf201.cons 16 rfl (hf201.cons 18 rfl (hf201.cons 33 rfl (hf201.cons 34 rfl (hf201.cons 35 rfl (hf201.cons 36 rfl (hf201.cons 37 rfl (hf201.cons 38 rfl (hf201.cons 39 rfl (hf201.cons 40 rfl (hf201.cons 41 rfl (hf201.cons 42 rfl (hf201.cons 43 rfl (hf201.cons 44 rfl (hf201.cons 45 rfl (hf201.cons 46 rfl (hf201.cons 47 rfl (hf201.cons 48 rfl (hf201.cons 49 rfl (hf201.cons 50 rfl (hf201.cons 67 rfl (hf201.cons 68 rfl (hf201.cons 69 rfl (hf201.cons 70 rfl (hf201.cons 71 rfl (hf201.cons 72 rfl (hf201.cons 73 rfl (hf201.cons 74 rfl (hf201.cons 75 rfl (hf201.cons 76 rfl (hf201.cons 77 rfl (hf201.cons 78 rfl (hf201.cons 79 rfl (hf201.cons 80 rfl (hf201.cons 81 rfl (hf201.cons 82 rfl (hf201.cons 83 rfl (hf201.cons 84 rfl (hf201.cons 85 rfl (hf201.cons 86 rfl (hf201.cons 87 rfl (hf201.cons 94 rfl (hf201.cons 95 rfl (hf201.cons 96 rfl (hf201.cons 97 rfl (hf201.cons 98 rfl (hf201.cons 99 rfl (hf201.cons 100 rfl (hf201.cons 101 rfl (hf201.cons 102 rfl (hf201.cons 103 rfl (hf201.cons 104 rfl (hf201.cons 105 rfl (hf201.cons 106 rfl (hf201.cons 107 rfl (hf201.cons 108 rfl (hf201.cons 109 rfl (hf201.cons 110 rfl (hf201.cons 111 rfl (hf201.cons 113 rfl (hf201.cons 114 rfl (hf201.cons 115 rfl (hf201.cons 116 rfl (hf201.cons 117 rfl (hf201.cons 118 rfl (hf201.cons 119 rfl (hf201.cons 120 rfl hf201.nil))))))))))))))))))))))))))))))))))))))))))))))))))))))))))))))))))))))))))))), ⟨(Inv.drop (A := [(b1, arr .u64 (xs.set pp5 ((xs.getD pp5 0 + nn5) % pw k)), 24), (b2, #[.slice (some ⟨b1, 0, none⟩) n n, .int .i64 (k : Int)], 58), (b8, arr .u64 ((xs.set pp5 ((xs.getD pp5 0 + nn5) % pw k)) ++ List.replicate m8 0), 24), (b4, #[.int .i64 (k : Int), .slice (some ⟨b8, 0, none⟩) n (n + m8)], 34), (b6, #[.int .u8 kd5, .int .i64 (pp5 : Int), .int .u64 nn5], 39)]) (B := [(b9, #[.int .i64 (k : Int), .slice (some ⟨b8, 0, none⟩) n (n + m8)], 34)]) hI36 (fresh_keys (ks := [b9]) rfl (fk_cons hb9 fk_nil))), ⟨(hx1.2.1.set hk1 hk2), hb8⟩⟩⟩
                  ·
                    refine seq_one (op_pureW hf175 rfl rfl rfl rfl ca_16 (add_out hx1.2.1.len ho5 (hI18.ne (i := 0) (j := 1) rfl rfl (by decide)) (Has.cons (hI18.at 0 rfl) (Has.cons (hI18.at 1 rfl) Has.nil))) hI18 fun ac185 wd25 hI37 hf202 => ?_)
                    refine seq_one (op_val (v := .int .i64 2) hf202 rfl rfl rfl rfl rfl rfl (r_assign rfl) fun ac186 hf203 => ?_)
                    refine seq_end ?_
                    clear hf136 ac124 hf170 ac154 hf171 ac155 hf172 ac156 hf173 ac157 hf174 ac158 wd13 hI18 hf175 ac185 hf202
                    refine then_normal ?_
                    refine code_seq ?_
                    refine seq_start (l := [0, 1, 2, 3, 4, 5, 6, 7, 8, 9, 10, 11]) rfl ?_
                    refine seq_one (op_val (v := .agg #[.int .i64 (k : Int), .slice (some ⟨rb, 0, none⟩) n (n + m)]) hf203 rfl rfl rfl rfl rfl rfl (r_loadW ag_34 sz_34 rfl (hI37.at 3 rfl) rfl) fun ac187 hf204 => ?_)
                    refine seq_one (op_val (v := .pointer (some ⟨b6, 1, none⟩)) hf204 rfl rfl rfl rfl rfl rfl (r_fieldAddr fi_39_1 rfl rfl) fun ac188 hf205 => ?_)
                    refine seq_one (op_val (v := .int .i64 ii5) hf205 rfl rfl rfl rfl rfl rfl (r_load ag_3 rfl (hI37.at 4 rfl) rfl) fun ac189 hf206 => ?_)
                    refine seq_one (op_val (v := .pointer (some ⟨b6, 2, none⟩)) hf206 rfl rfl rfl rfl rfl rfl (r_fieldAddr fi_39_2 rfl rfl) fun ac190 hf207 => ?_)
                    refine seq_one (op_val (v := .int .u64 nn5) hf207 rfl rfl rfl rfl rfl rfl (r_load ag_24 rfl (hI37.at 4 rfl) rfl) fun ac191 hf208 => ?_)
                    refine seq_one (op_pure hf208 rfl rfl rfl rfl ca_17 (addR_out (xs := xs) hx1.2.1.len ho5) hI37 fun ac192 wd26 hI38 hf209 => ?_)
                    refine seq_one (op_val (v := .tuple #[.agg #[.int .i64 (k : Int), .slice (some ⟨rb, 0, none⟩) n (n + m)], .bool false]) hf209 rfl rfl rfl rfl rfl rfl (r_move rfl) fun ac193 hf210 => ?_)
                    refine seq_one (op_val (v := .agg #[.int .i64 (k : Int), .slice (some ⟨rb, 0, none⟩) n (n + m)]) hf210 rfl rfl rfl rfl rfl rfl (r_extract rfl rfl) fun ac194 hf211 => ?_)
                    refine seq_one (op_val (v := .bool false) hf211 rfl rfl rfl rfl rfl rfl (r_extract rfl rfl) fun ac195 hf212 => ?_)
                    refine seq_one (op_alloc hf212 rfl rfl rfl ze_34 hI38 fun ac196 b7 wd27 hb7 hI39 hf213 => ?_)
                    have hI40 : Inv w [(b1, arr .u64 xs, 24), (b2, #[.slice (some ⟨b1, 0, none⟩) n n, .int .i64 (k : Int)], 58), (rb, arr .u64 (xs ++ List.replicate m 0), 24), (b4, #[.int .i64 (k : Int), .slice (some ⟨rb, 0, none⟩) n (n + m)], 34), (b6, #[.int .u8 kd5, .int .i64 ii5, .int .u64 nn5], 39), (b7, #[.int .i64 0, .slice none 0 0], 34)] wd27 := hI39
                    refine seq_one (op_storeW (cells := #[.int .i64 (k : Int), .slice (some ⟨rb, 0, none⟩) n (n + m)]) 5 hf213 rfl rfl rfl rfl rfl sz_34 rfl rfl hI40 rfl rfl fun wd28 hI41 => ?_)
                    have hI42 : Inv w [(b1, arr .u64 xs, 24), (b2, #[.slice (some ⟨b1, 0, none⟩) n n, .int .i64 (k : Int)], 58), (rb, arr .u64 (xs ++ List.replicate m 0), 24), (b4, #[.int .i64 (k : Int), .slice (some ⟨rb, 0, none⟩) n (n + m)], 34), (b6, #[.int .u8 kd5, .int .i64 ii5, .int .u64 nn5], 39), (b7, #[.int .i64 (k : Int), .slice (some ⟨rb, 0, none⟩) n (n + m)], 34)] wd28 := hI41
                    refine seq_one (op_val (v := .bool false) hf213 rfl rfl rfl rfl rfl rfl (r_assign rfl) fun ac197 hf214 => ?_)
                    refine seq_end ?_
                    clear ac186 hf203 ac187 hf204 ac188 hf205 ac189 hf206 ac190 hf207 ac191 wd25 hI37 hf208 ac192 hf209 ac193 hf210 ac194 hf211 ac195 wd26 hI38 hf212 hI39 wd27 hI40 hI41 ac196 hf213
                    refine then_normal ?_
                    refine code_seq ?_
                    refine seq_start (l := [0, 1]) rfl ?_
                    refine seq_one (op_val (v := .agg #[.int .i64 (k : Int), .slice (some ⟨rb, 0, none⟩) n (n + m)]) hf214 rfl rfl rfl rfl rfl rfl (r_loadW ag_34 sz_34 rfl (hI42.at 5 rfl) rfl) fun ac198 hf215 => ?_)
                    refine seq_one (op_storeW (cells := #[.int .i64 (k : Int), .slice (some ⟨rb, 0, none⟩) n (n + m)]) 3 hf215 rfl rfl rfl rfl rfl sz_34 rfl rfl hI42 rfl rfl fun wd29 hI43 => ?_)
                    refine seq_end ?_
                    clear ac197 hf214 wd28 hI42
                    refine then_normal ?_
                    refine code_seq ?_
                    refine seq_start (l := [0, 1, 2, 3, 4, 5, 6, 7, 8, 9, 10, 11]) rfl ?_
                    refine seq_one (op_val (v := .int .i64 2) hf215 rfl rfl rfl rfl rfl rfl (r_move rfl) fun ac199 hf216 => ?_)
                    refine seq_one (op_val (v := .bool false) hf216 rfl rfl rfl rfl rfl rfl (r_eqlC rfl rfl (by decide)) fun ac200 hf217 => ?_)
                    refine seq_one (op_val (v := .bool false) hf217 rfl rfl rfl rfl rfl rfl (r_move rfl) fun ac201 hf218 => ?_)
                    refine seq_one (op_val (v := .bool false) hf218 rfl rfl rfl rfl rfl rfl ((r_neB (p := false) (q := false) ub_4 rfl rfl).trans rfl) fun ac202 hf219 => ?_)
                    refine seq_one (op_val (v := .bool false) hf219 rfl rfl rfl rfl rfl rfl (r_move rfl) fun ac203 hf220 => ?_)
                    refine seq_one (op_val (v := .bool false) hf220 rfl rfl rfl rfl rfl rfl (r_move rfl) fun ac204 hf221 => ?_)
                    refine seq_one (op_val (v := .bool true) hf221 rfl rfl rfl rfl rfl rfl ((r_not (b := false) rfl).trans rfl) fun ac205 hf222 => ?_)
                    refine seq_one (op_val (v := .bool true) hf222 rfl rfl rfl rfl rfl rfl (r_move rfl) fun ac206 hf223 => ?_)
                    refine seq_one (op_val (v := .int .i64 2) hf223 rfl rfl rfl rfl rfl rfl (r_move rfl) fun ac207 hf224 => ?_)
                    refine seq_one (op_val (v := .bool false) hf224 rfl rfl rfl rfl rfl rfl (r_neqC rfl rfl (by decide)) fun ac208 hf225 => ?_)
                    refine seq_one (op_val (v := .bool false) hf225 rfl rfl rfl rfl rfl rfl (r_pickT rfl rfl) fun ac209 hf226 => ?_)
                    refine seq_one (op_val (v := .bool false) hf226 rfl rfl rfl rfl rfl rfl (r_pickF rfl rfl) fun ac210 hf227 => ?_)
                    refine seq_end ?_
                    clear ac198 hf215 ac199 hf216 ac200 hf217 ac201 hf218 ac202 hf219 ac203 hf220 ac204 hf221 ac205 hf222 ac206 hf223 ac207 hf224 ac208 hf225 ac209 hf226
                    refine then_normal ?_
                    refine code_if_false hf227 rfl ?_
                    refine wp_skip ?_
                    refine then_normal ?_
                    exact ⟨(xs, rb, m), (hf227.cons 0 rfl (hf227.cons 1 rfl (hf227.cons 2 rfl (hf227.cons 3 rfl (hf227.cons 4 rfl (hf227.cons 11 rfl (hf227.cons 12 rfl (hf227.cons 13 rfl (hf227.cons 14 rfl (hf227.cons 15 rfl (hf227.cons 16 rfl (hf227.cons 18 rfl (hf227.cons 33 rfl (hf227.cons 34 rfl (hf227.cons 35 rfl (hf227.cons 36 rfl (hf227.cons 37 rfl (hf227.cons 38 rfl (hf227.cons 39 rfl (hf227.cons 40 rfl (hf227.cons 41 rfl (hf227.cons 42 rfl (hf227.cons 43 rfl (hf227.cons 44 rfl (hf227.cons 45 rfl (hf227.cons 46 rfl (hf227.cons 47 rfl (hf227.cons 48 rfl (hf227.cons 49 rfl (hf227.cons 50 rfl (hf227.cons 67 rfl (hf227.cons 68 rfl (hf227.cons 69 rfl (hf227.cons 70 rfl (hf227.cons 71 rfl (hf227.cons 72 rfl (hf227.cons 73 rfl (hf227.cons 74 rfl (hf227.cons 75 rfl (hf227.cons 76 rfl (hf227.cons 77 rfl (hf227.cons 78 rfl (hf227.cons 79 rfl (hf227.cons 80 rfl (hf227.cons 81 rfl (hf227.cons 82 rfl (hf227.cons 83 rfl (hf227.cons 84 rfl (hf227.cons 85 rfl (hf227.cons 86 rfl (hf227.cons 87 rfl (hf227.cons 94 rfl (hf227.cons 95 rfl (hf227.cons 96 rfl (hf227.cons 97 rfl (hf227.cons 98 rfl (hf227.cons 99 rfl (hf227.cons 100 rfl (hf227.cons 101 rfl (hf227.cons 102 rfl (hf227.cons 103 rfl (hf227.cons 104 rfl (hf227.cons 105 rfl (hf227.cons 106 rfl (hf227.cons 107 rfl (hf227.cons 108 rfl (hf227.cons 109 rfl (hf227.cons 110 rfl (hf227.cons 111 rfl (hf227.cons 113 rfl (hf227.cons 114 rfl (hf227.cons 115 rfl (hf227.cons 116 rfl (hf227.cons 117 rfl (hf227.cons 118 rfl (hf227.cons 119 rfl (hf227.cons 120 rfl hf227.nil))))))))))))))))))))))))))))))))))))))))))))))))))))))))))))))))))))))))))))), ⟨(Inv.drop (A := [(b1, arr .u64 xs, 24), (b2, #[.slice (some ⟨b1, 0, none⟩) n n, .int .i64 (k : Int)], 58), (rb, arr .u64 (xs ++ List.replicate m 0), 24), (b4, #[.int .i64 (k : Int), .slice (some ⟨rb, 0, none⟩) n (n + m)], 34), (b6, #[.int .u8 kd5, .int .i64 ii5, .int .u64 nn5], 39)]) (B := [(b7, #[.int .i64 (k : Int), .slice (some ⟨rb, 0, none⟩) n (n + m)], 34)]) hI43 (fresh_keys (ks := [b7]) rfl (fk_cons hb7 fk_nil))), ⟨hx1.2.1, hrb⟩⟩⟩
              ·
                intro ⟨ys, rc, mm⟩ ac211 wd30 hf228 ⟨hI44, hj44⟩
                clear ac124 wd13 hf136 hI18
                have hj := hj44
                refine then_normal ?_
                refine code_seq ?_
                refine seq_start (l := [0, 1, 2, 3, 4, 5, 6, 7]) rfl ?_
                refine seq_one (op_val (v := .pointer (some ⟨b2, 0, none⟩)) hf228 rfl rfl rfl rfl rfl rfl (r_move rfl) fun ac212 hf229 => ?_)
                refine seq_one (op_val (v := .slice q M caq) hf229 rfl rfl rfl rfl rfl rfl (r_move rfl) fun ac213 hf230 => ?_)
                refine seq_one (op_call (R := fun v w' => ∃ S p cap, v = .tuple #[.slice p (((sinceR ys ws n M k).1).length) cap, .int .i64 ((sinceR ys ws n M k).2)] ∧ Sl 24 .u64 S p cap ((sinceR ys ws n M k).1) ∧ Inv wd30 S w' ∧ ∀ x ∈ S, wd30.heap.size ≤ x.1) hf230 rfl rfl rfl rfl ca_18 ((since_any (xs := ys) (ws := ws) (n := n) (k := k) hj.1.len hw hn2 (hI44.ne (i := 0) (j := 1) rfl rfl (by decide)) (Has.cons (hI44.at 0 rfl) (Has.cons (hI44.at 1 rfl) Has.nil)) (hq.old hI44 (fresh_keys (ks := [b1, b2, rc, b4, b6]) rfl (fk_cons hb1 (fk_cons hb2 (fk_cons hj.2 (fk_cons hb4 (fk_cons hb6 fk_nil)))))))).mono fun _ _ ⟨S, p, cap, he, h1, h3, h4⟩ => ⟨_, he, S, p, cap, rfl, h1, h3, h4⟩) fun ac214 v wd31 hR hf231 => ?_)
                obtain ⟨Sq7, q7, capq7, rfl, hsq7, hwq7, hzq7⟩ := hR
                have hyq7 := fk_le hI44.size hzq7
                have hI45 : Inv w ([(b1, arr .u64 ys, 24), (b2, #[.slice (some ⟨b1, 0, none⟩) n n, .int .i64 (k : Int)], 58), (rc, arr .u64 (ys ++ List.replicate mm 0), 24), (b4, #[.int .i64 (k : Int), .slice (some ⟨rc, 0, none⟩) n (n + mm)], 34), (b6, #[.int .u8 kd5, .int .i64 ii5, .int .u64 nn5], 39)] ++ Sq7) _ := hI44.callN hwq7 hzq7
                refine seq_one (op_val (v := .tuple #[.slice q7 (((sinceR ys ws n M k).1).length) capq7, .int .i64 ((sinceR ys ws n M k).2)]) hf231 rfl rfl rfl rfl rfl rfl (r_move rfl) fun ac215 hf232 => ?_)
                refine seq_one (op_val (v := .slice q7 (((sinceR ys ws n M k).1).length) capq7) hf232 rfl rfl rfl rfl rfl rfl (r_extract rfl rfl) fun ac216 hf233 => ?_)
                refine seq_one (op_val (v := .int .i64 ((sinceR ys ws n M k).2)) hf233 rfl rfl rfl rfl rfl rfl (r_extract rfl rfl) fun ac217 hf234 => ?_)
                refine seq_one (op_val (v := .slice q7 (((sinceR ys ws n M k).1).length) capq7) hf234 rfl rfl rfl rfl rfl rfl (r_assign rfl) fun ac218 hf235 => ?_)
                refine seq_one (op_val (v := .int .i64 ((sinceR ys ws n M k).2)) hf235 rfl rfl rfl rfl rfl rfl (r_assign rfl) fun ac219 hf236 => ?_)
                refine seq_end ?_
                clear ac211 hf228 ac212 hf229 ac213 wd30 hf230 hI44 hwq7 hzq7 ac214 hf231 ac215 hf232 ac216 hf233 ac217 hf234 ac218 hf235
                refine then_normal ?_
                refine code_seq ?_
                refine seq_start (l := [0, 1, 2, 3, 4, 5, 6, 7]) rfl ?_
                refine seq_one (op_val (v := .agg #[.int .i64 (k : Int), .slice (some ⟨rc, 0, none⟩) n (n + mm)]) hf236 rfl rfl rfl rfl rfl rfl (r_loadW ag_34 sz_34 rfl (hI45.at 3 rfl) rfl) fun ac220 hf237 => ?_)
                refine seq_one (op_val (v := .slice q M caq) hf237 rfl rfl rfl rfl rfl rfl (r_move rfl) fun ac221 hf238 => ?_)
                refine seq_one (op_call (R := fun v w' => ∃ S p cap, v = .tuple #[.slice p (((sinceR ys ws n M k).1).length) cap, .bool ((sinceR ys ws n M k).2 == 0)] ∧ Sl 24 .u64 S p cap ((sinceR ys ws n M k).1) ∧ Inv wd31 S w' ∧ ∀ x ∈ S, wd31.heap.size ≤ x.1) hf238 rfl rfl rfl rfl ca_19 ((sinceR_any (xs := ys) (ws := ws) (n := n) (k := k) hj.1.len hw hn2 hj.1.get hws (Rd.blk (xs := ys) (hI45.at 2 rfl) arr_take2) (hq.old hI45 (fk_app (fresh_keys (ks := [b1, b2, rc, b4, b6]) rfl (fk_cons hb1 (fk_cons hb2 (fk_cons hj.2 (fk_cons hb4 (fk_cons hb6 fk_nil)))))) hyq7))).mono fun _ _ ⟨S, p, cap, he, h1, h3, h4⟩ => ⟨_, he, S, p, cap, rfl, h1, h3, h4⟩) fun ac222 v wd32 hR hf239 => ?_)
                obtain ⟨Sq8, q8, capq8, rfl, hsq8, hwq8, hzq8⟩ := hR
                have hyq8 := fk_le hI45.size hzq8
                have hI46 : Inv w ([(b1, arr .u64 ys, 24), (b2, #[.slice (some ⟨b1, 0, none⟩) n n, .int .i64 (k : Int)], 58), (rc, arr .u64 (ys ++ List.replicate mm 0), 24), (b4, #[.int .i64 (k : Int), .slice (some ⟨rc, 0, none⟩) n (n + mm)], 34), (b6, #[.int .u8 kd5, .int .i64 ii5, .int .u64 nn5], 39)] ++ (Sq7 ++ Sq8)) _ := hI45.callN hwq8 hzq8
                refine seq_one (op_val (v := .tuple #[.slice q8 (((sinceR ys ws n M k).1).length) capq8, .bool ((sinceR ys ws n M k).2 == 0)]) hf239 rfl rfl rfl rfl rfl rfl (r_move rfl) fun ac223 hf240 => ?_)
                refine seq_one (op_val (v := .slice q8 (((sinceR ys ws n M k).1).length) capq8) hf240 rfl rfl rfl rfl rfl rfl (r_extract rfl rfl) fun ac224 hf241 => ?_)
                refine seq_one (op_val (v := .bool ((sinceR ys ws n M k).2 == 0)) hf241 rfl rfl rfl rfl rfl rfl (r_extract rfl rfl) fun ac225 hf242 => ?_)
                refine seq_one (op_val (v := .slice q8 (((sinceR ys ws n M k).1).length) capq8) hf242 rfl rfl rfl rfl rfl rfl (r_assign rfl) fun ac226 hf243 => ?_)
                refine seq_one (op_val (v := .bool ((sinceR ys ws n M k).2 == 0)) hf243 rfl rfl rfl rfl rfl rfl (r_assign rfl) fun ac227 hf244 => ?_)
                refine seq_end ?_
                clear ac219 hf236 ac220 hf237 ac221 wd31 hf238 hI45 hwq8 hzq8 ac222 hf239 ac223 hf240 ac224 hf241 ac225 hf242 ac226 hf243
                refine then_normal ?_
                refine code_seq ?_
                refine seq_start (l := [0, 1, 2]) rfl ?_
                refine seq_one (op_val (v := .pointer (some ⟨b2, 0, none⟩)) hf244 rfl rfl rfl rfl rfl rfl (r_move rfl) fun ac228 hf245 => ?_)
                refine seq_one (op_call (R := fun v w' => ∃ b m, Array.size (World.heap _) ≤ b ∧ n + m ≤ maxLen ∧ v = .slice (some ⟨b, 0, none⟩) n (n + m) ∧ Inv _ [(b, arr .u64 (ys ++ List.replicate m 0), 24)] w') hf245 rfl rfl rfl rfl ca_20 ((all_walk hj.1.len hn1 hn2 (hI46.ne (i := 0) (j := 1) rfl rfl (by decide)) (Has.cons (hI46.at 0 rfl) (Has.cons (hI46.at 1 rfl) Has.nil))).mono fun e w' ⟨b, m, h1, h2, h3, h4⟩ => ⟨_, h3, b, m, h1, h2, rfl, h4⟩) fun ac229 v wd33 hR hf246 => ?_)
                obtain ⟨b9, m9, hqb9, hm9, rfl, hwb9⟩ := hR
                have hb9 := Nat.le_trans hI46.size hqb9
                have hI47 : Inv w ([(b1, arr .u64 ys, 24), (b2, #[.slice (some ⟨b1, 0, none⟩) n n, .int .i64 (k : Int)], 58), (rc, arr .u64 (ys ++ List.replicate mm 0), 24), (b4, #[.int .i64 (k : Int), .slice (some ⟨rc, 0, none⟩) n (n + mm)], 34), (b6, #[.int .u8 kd5, .int .i64 ii5, .int .u64 nn5], 39), (b9, arr .u64 (ys ++ List.replicate m9 0), 24)] ++ (Sq7 ++ Sq8)) _ := Inv.tail (A := [(b1, arr .u64 ys, 24), (b2, #[.slice (some ⟨b1, 0, none⟩) n n, .int .i64 (k : Int)], 58), (rc, arr .u64 (ys ++ List.replicate mm 0), 24), (b4, #[.int .i64 (k : Int), .slice (some ⟨rc, 0, none⟩) n (n + mm)], 34), (b6, #[.int .u8 kd5, .int .i64 ii5, .int .u64 nn5], 39)]) (T := (Sq7 ++ Sq8)) (N := [(b9, arr .u64 (ys ++ List.replicate m9 0), 24)]) (hI46.callN hwb9 (fun x hx => by simp only [List.mem_singleton] at hx; subst hx; exact hqb9))
                refine seq_one (op_val (v := .slice (some ⟨b9, 0, none⟩) n (n + m9)) hf246 rfl rfl rfl rfl rfl rfl (r_assign rfl) fun ac230 hf247 => ?_)
                refine seq_end ?_
                clear ac227 hf244 ac228 wd32 hf245 hI46 hwb9 hqb9 ac229 hf246
                refine then_normal ?_
                refine code_seq ?_
                refine code_seq ?_
                refine code_join 268 ([(0, .int .i64 (n : Int)), (1, .int .i64 (k : Int)), (2, .slice p L cap), (3, .slice q M caq), (4, .int .u64 now), (11, .int .u64 ((aheadF now (M : Int) (k : Int)).1)), (12, .int .i64 0), (13, .int .u64 ((aheadF now (M : Int) (k : Int)).1)), (14, .bool true), (15, .pointer (some ⟨b2, 0, none⟩)), (16, .pointer (some ⟨b4, 0, none⟩)), (18, .pointer (some ⟨b6, 0, none⟩)), (24, .slice q7 (((sinceR ys ws n M k).1).length) capq7), (25, .int .i64 ((sinceR ys ws n M k).2)), (26, .slice q8 (((sinceR ys ws n M k).1).length) capq8), (27, .bool ((sinceR ys ws n M k).2 == 0)), (28, .slice (some ⟨b9, 0, none⟩) n (n + m9)), (33, .tuple #[.int .u64 ((aheadF now (M : Int) (k : Int)).1), .int .i64 ((aheadF now (M : Int) (k : Int)).2)]), (34, .int .u64 now), (35, .slice q M caq), (36, .int .i64 (M : Int)), (37, .int .u64 (M : Int)), (38, .int .i64 (k : Int)), (39, .tuple #[.int .u64 ((aheadF now (M : Int) (k : Int)).1), .int .i64 ((aheadF now (M : Int) (k : Int)).2)]), (40, .int .u64 ((aheadF now (M : Int) (k : Int)).1)), (41, .int .i64 ((aheadF now (M : Int) (k : Int)).2)), (42, .tuple #[.int .u64 ((aheadF now (M : Int) (k : Int)).1), .bool ((aheadF now (M : Int) (k : Int)).2 == 0)]), (43, .int .u64 now), (44, .slice q M caq), (45, .int .i64 (M : Int)), (46, .int .u64 (M : Int)), (47, .int .i64 (k : Int)), (48, .tuple #[.int .u64 ((aheadF now (M : Int) (k : Int)).1), .bool ((aheadF now (M : Int) (k : Int)).2 == 0)]), (49, .int .u64 ((aheadF now (M : Int) (k : Int)).1)), (50, .bool ((aheadF now (M : Int) (k : Int)).2 == 0)), (67, .bool false), (68, .tuple #[.pointer (some ⟨b2, 0, none⟩), .int .i64 0]), (69, .int .i64 (n : Int)), (70, .int .i64 (k : Int)), (71, .tuple #[.pointer (some ⟨b2, 0, none⟩), .int .i64 0]), (72, .pointer (some ⟨b2, 0, none⟩)), (73, .int .i64 0), (74, .tuple #[.agg #[.int .i64 (k : Int), .slice (some ⟨b3, 0, none⟩) n (n + 0)], .bool true]), (75, .int .i64 (n : Int)), (76, .int .i64 (k : Int)), (77, .tuple #[.agg #[.int .i64 (k : Int), .slice (some ⟨b3, 0, none⟩) n (n + 0)], .bool true]), (78, .agg #[.int .i64 (k : Int), .slice (some ⟨b3, 0, none⟩) n (n + 0)]), (79, .bool true), (80, .int .i64 0), (81, .bool true), (82, .bool true), (83, .bool false), (84, .bool false), (85, .bool true), (86, .bool false), (87, .bool false), (94, .bool false), (95, .bool false), (96, .bool true), (97, .bool false), (98, .bool false), (99, .int .i64 (n : Int)), (100, .bool (decide ((n : Int) > 20))), (101, .bool (decide ((n : Int) > 20))), (102, .bool false), (103, .slice p L cap), (104, .int .i64 (L : Int)), (105, .bool (decide ((L : Int) > 60))), (106, .bool (decide ((L : Int) > 60))), (107, .bool false), (108, .slice q M caq), (109, .int .i64 (M : Int)), (110, .bool (decide ((M : Int) > 300))), (111, .bool false), (113, .slice p L cap), (114, .int .i64 (L : Int)), (115, .int .i64 (i : Int)), (116, .bool true), (117, .pointer (slAt p (i * 3))), (118, .agg #[.int .u8 kd5, .int .i64 ii5, .int .u64 nn5]), (119, .pointer (some ⟨b6, 0, none⟩)), (120, .int .u8 kd5), (175, .tuple #[.slice q7 (((sinceR ys ws n M k).1).length) capq7, .int .i64 ((sinceR ys ws n M k).2)]), (176, .pointer (some ⟨b2, 0, none⟩)), (177, .slice q M caq), (178, .tuple #[.slice q7 (((sinceR ys ws n M k).1).length) capq7, .int .i64 ((sinceR ys ws n M k).2)]), (179, .slice q7 (((sinceR ys ws n M k).1).length) capq7), (180, .int .i64 ((sinceR ys ws n M k).2)), (181, .tuple #[.slice q8 (((sinceR ys ws n M k).1).length) capq8, .bool ((sinceR ys ws n M k).2 == 0)]), (182, .agg #[.int .i64 (k : Int), .slice (some ⟨rc, 0, none⟩) n (n + mm)]), (183, .slice q M caq), (184, .tuple #[.slice q8 (((sinceR ys ws n M k).1).length) capq8, .bool ((sinceR ys ws n M k).2 == 0)]), (185, .slice q8 (((sinceR ys ws n M k).1).length) capq8), (186, .bool ((sinceR ys ws n M k).2 == 0)), (187, .pointer (some ⟨b2, 0, none⟩)), (188, .slice (some ⟨b9, 0, none⟩) n (n + m9)), (213, .bool false)]) (fun w' => Inv w ([(b1, arr .u64 ys, 24), (b2, #[.slice (some ⟨b1, 0, none⟩) n n, .int .i64 (k : Int)], 58), (rc, arr .u64 (ys ++ List.replicate mm 0), 24), (b4, #[.int .i64 (k : Int), .slice (some ⟨rc, 0, none⟩) n (n + mm)], 34), (b6, #[.int .u8 kd5, .int .i64 ii5, .int .u64 nn5], 39), (b9, arr .u64 (ys ++ List.replicate m9 0), 24)] ++ (Sq7 ++ Sq8)) w') ?_ ?_
                ·
                  refine seq_start (l := [0, 1, 2, 3, 4, 5, 6, 7, 8, 9, 10, 11, 12, 13, 14, 15, 16, 17, 18, 19, 20, 21, 22, 23, 24]) rfl ?_
                  refine seq_one (op_val (v := .slice (some ⟨b9, 0, none⟩) n (n + m9)) hf247 rfl rfl rfl rfl rfl rfl (r_move rfl) fun ac231 hf248 => ?_)
                  refine seq_one (op_val (v := .pointer (some ⟨b4, 1, none⟩)) hf248 rfl rfl rfl rfl rfl rfl (r_fieldAddr fi_34_1 rfl rfl) fun ac232 hf249 => ?_)
                  refine seq_one (op_val (v := .slice (some ⟨rc, 0, none⟩) n (n + mm)) hf249 rfl rfl rfl rfl rfl rfl (r_load ag_23 rfl (hI47.at 3 rfl) rfl) fun ac233 hf250 => ?_)
                  refine seq_one (op_pureW hf250 rfl rfl rfl rfl ca_15 (same_walk (xs := ys) (ys := ys) hj.1.len hj.1.len (by omega) (Rd.blk (xs := ys) (hI47.at 5 rfl) arr_take2) (Rd.blk (xs := ys) (hI47.at 2 rfl) arr_take2)) hI47 fun ac234 wd34 hI48 hf251 => ?_)
                  refine seq_one (op_val (v := .bool (!(ys == ys))) hf251 rfl rfl rfl rfl rfl rfl (r_not rfl) fun ac235 hf252 => ?_)
                  refine seq_one (op_val (v := .bool (!(ys == ys))) hf252 rfl rfl rfl rfl rfl rfl (r_move rfl) fun ac236 hf253 => ?_)
                  have hf254 := hf253.know 194 (u := .bool false) rfl (congrArg Value.bool (by rw [beq_self_eq_true]; rfl))
                  refine seq_one (op_val (v := .slice q7 (((sinceR ys ws n M k).1).length) capq7) hf254 rfl rfl rfl rfl rfl rfl (r_move rfl) fun ac237 hf255 => ?_)
                  refine seq_one (op_val (v := .slice q8 (((sinceR ys ws n M k).1).length) capq8) hf255 rfl rfl rfl rfl rfl rfl (r_move rfl) fun ac238 hf256 => ?_)
                  refine seq_one (op_pureW hf256 rfl rfl rfl rfl ca_15 (same_walk (xs := (sinceR ys ws n M k).1) (ys := (sinceR ys ws n M k).1) rfl rfl (Nat.le_trans sinceR_len (by omega)) (hsq7.rd hI48 (fun x hx => List.mem_append_right _ (List.mem_append_left _ hx))) (hsq8.rd hI48 (fun x hx => List.mem_append_right _ (List.mem_append_right _ hx)))) hI48 fun ac239 wd35 hI49 hf257 => ?_)
                  refine seq_one (op_val (v := .bool (!(((sinceR ys ws n M k).1) == ((sinceR ys ws n M k).1)))) hf257 rfl rfl rfl rfl rfl rfl (r_not rfl) fun ac240 hf258 => ?_)
                  refine seq_one (op_val (v := .bool (!(((sinceR ys ws n M k).1) == ((sinceR ys ws n M k).1)))) hf258 rfl rfl rfl rfl rfl rfl (r_pickF rfl rfl) fun ac241 hf259 => ?_)
                  refine seq_one (op_val (v := .bool (!(((sinceR ys ws n M k).1) == ((sinceR ys ws n M k).1)))) hf259 rfl rfl rfl rfl rfl rfl (r_move rfl) fun ac242 hf260 => ?_)
                  have hf261 := hf260.know 200 (u := .bool false) rfl (congrArg Value.bool (by rw [beq_self_eq_true]; rfl))
                  refine seq_one (op_val (v := .int .i64 ((sinceR ys ws n M k).2)) hf261 rfl rfl rfl rfl rfl rfl (r_move rfl) fun ac243 hf262 => ?_)
                  refine seq_one (op_val (v := .bool (((sinceR ys ws n M k).2) == 0)) hf262 rfl rfl rfl rfl rfl rfl (r_eql rfl rfl) fun ac244 hf263 => ?_)
                  refine seq_one (op_val (v := .bool ((sinceR ys ws n M k).2 == 0)) hf263 rfl rfl rfl rfl rfl rfl (r_move rfl) fun ac245 hf264 => ?_)
                  refine seq_one (op_val (v := .bool ((((sinceR ys ws n M k).2) == 0) != ((sinceR ys ws n M k).2 == 0))) hf264 rfl rfl rfl rfl rfl rfl (r_neB ub_4 rfl rfl) fun ac246 hf265 => ?_)
                  refine seq_one (op_val (v := .bool ((((sinceR ys ws n M k).2) == 0) != ((sinceR ys ws n M k).2 == 0))) hf265 rfl rfl rfl rfl rfl rfl (r_pickF rfl rfl) fun ac247 hf266 => ?_)
                  refine seq_one (op_val (v := .bool ((((sinceR ys ws n M k).2) == 0) != ((sinceR ys ws n M k).2 == 0))) hf266 rfl rfl rfl rfl rfl rfl (r_move rfl) fun ac248 hf267 => ?_)
                  have hf268 := hf267.know 206 (u := .bool false) rfl (congrArg Value.bool (bne_self_eq_false _))
                  refine seq_one (op_val (v := .bool ((sinceR ys ws n M k).2 == 0)) hf268 rfl rfl rfl rfl rfl rfl (r_move rfl) fun ac249 hf269 => ?_)
                  refine seq_one (op_val (v := .bool (!((sinceR ys ws n M k).2 == 0))) hf269 rfl rfl rfl rfl rfl rfl (r_not rfl) fun ac250 hf270 => ?_)
                  refine seq_one (op_val (v := .bool (!((sinceR ys ws n M k).2 == 0))) hf270 rfl rfl rfl rfl rfl rfl (r_move rfl) fun ac251 hf271 => ?_)
                  rcases Bool.eq_false_or_eq_true (!((sinceR ys ws n M k).2 == 0) : Bool) with g209_8 | g209_8
                  · have hf272 := hf271.know 209 (u := .bool true) rfl (congrArg Value.bool g209_8)
                    refine seq_one (op_val (v := .int .i64 ((sinceR ys ws n M k).2)) hf272 rfl rfl rfl rfl rfl rfl (r_move rfl) fun ac252 hf273 => ?_)
                    refine seq_one (op_val (v := .bool (((sinceR ys ws n M k).2) != 2)) hf273 rfl rfl rfl rfl rfl rfl (r_neq rfl rfl) fun ac253 hf274 => ?_)
                    refine seq_one (op_val (v := .bool (((sinceR ys ws n M k).2) != 2)) hf274 rfl rfl rfl rfl rfl rfl (r_pickT rfl rfl) fun ac254 hf275 => ?_)
                    refine seq_one (op_val (v := .bool (((sinceR ys ws n M k).2) != 2)) hf275 rfl rfl rfl rfl rfl rfl (r_pickF rfl rfl) fun ac255 hf276 => ?_)
                    refine seq_end ?_
                    clear ac230 hf247 ac231 hf248 ac232 hf249 ac233 wd33 hI47 hf250 ac234 hf251 ac235 hf252 hf253 ac236 hf254 ac237 hf255 ac238 wd34 hI48 hf256 ac239 hf257 ac240 hf258 ac241 hf259 hf260 ac242 hf261 ac243 hf262 ac244 hf263 ac245 hf264 ac246 hf265 ac247 hf266 hf267 ac248 hf268 ac249 hf269 ac250 hf270 hf271 ac251 hf272 ac252 hf273 ac253 hf274 ac254 hf275
                    refine then_normal ?_
                    have hf277 := hf276.know 213 (u := .bool false) rfl (congrArg Value.bool (sinceRF g209_8))
                    clear hf276
                    exact ⟨(hf277.cons 0 rfl (hf277.cons 1 rfl (hf277.cons 2 rfl (hf277.cons 3 rfl (hf277.cons 4 rfl (hf277.cons 11 rfl (hf277.cons 12 rfl (hf277.cons 13 rfl (hf277.cons 14 rfl (hf277.cons 15 rfl (hf277.cons 16 rfl (hf277.cons 18 rfl (hf277.cons 24 rfl (hf277.cons 25 rfl (hf277.cons 26 rfl (hf277.cons 27 rfl (hf277.cons 28 rfl (hf277.cons 33 rfl (hf277.cons 34 rfl (hf277.cons 35 rfl (hf277.cons 36 rfl (hf277.cons 37 rfl (hf277.cons 38 rfl (hf277.cons 39 rfl (hf277.cons 40 rfl (hf277.cons 41 rfl (hf277.cons 42 rfl (hf277.cons 43 rfl (hf277.cons 44 rfl (hf277.cons 45 rfl (hf277.cons 46 rfl (hf277.cons 47 rfl (hf277.cons 48 rfl (hf277.cons 49 rfl (hf277.cons 50 rfl (hf277.cons 67 rfl (hf277.cons 68 rfl (hf277.cons 69 rfl (hf277.cons 70 rfl (hf277.cons 71 rfl (hf277.cons 72 rfl (hf277.cons 73 rfl (hf277.cons 74 rfl (hf277.cons 75 rfl (hf277.cons 76 rfl (hf277.cons 77 rfl (hf277.cons 78 rfl (hf277.cons 79 rfl (hf277.cons 80 rfl (hf277.cons 81 rfl (hf277.cons 82 rfl (hf277.cons 83 rfl (hf277.cons 84 rfl (hf277.cons 85 rfl (hf277.cons 86 rfl (hf277.cons 87 rfl (hf277.cons 94 rfl (hf277.cons 95 rfl (hf277.cons 96 rfl (hf277.cons 97 rfl (hf277.cons 98 rfl (hf277.cons 99 rfl (hf277.cons 100 rfl (hf277.cons 101 rfl (hf277.cons 102 rfl (hf277.cons 103 rfl (hf277.cons 104 rfl (hf277.cons 105 rfl (hf277.cons 106 rfl (hf277.cons 107 rfl (hf277.cons 108 rfl (hf277.cons 109 rfl (hf277.cons 110 rfl (hf277.cons 111 rfl (hf277.cons 113 rfl (hf277.cons 114 rfl (hf277.cons 115 rfl (hf277.cons 116 rfl (hf277.cons 117 rfl (hf277.cons 118 rfl (hf277.cons 119 rfl (hf277.cons 120 rfl (hf277.cons 175 rfl (hf277.cons 176 rfl (hf277.cons 177 rfl (hf277.cons 178 rfl (hf277.cons 179 rfl (hf277.cons 180 rfl (hf277.cons 181 rfl (hf277.cons 182 rfl (hf277.cons 183 rfl (hf277.cons 184 rfl (hf277.cons 185 rfl (hf277.cons 186 rfl (hf277.cons 187 rfl (hf277.cons 188 rfl (hf277.cons 213 rfl hf277.nil))))))))))))))))))))))))))))))))))))))))))))))))))))))))))))))))))))))))))))))))))))))))))))))))), hI49⟩
                  · have hf278 := hf271.know 209 (u := .bool false) rfl (congrArg Value.bool g209_8)
                    refine seq_one (op_skip hf278 rfl rfl rfl rfl fun ac256 hf279 => ?_)
                    refine seq_one (op_skip hf279 rfl rfl rfl rfl fun ac257 hf280 => ?_)
                    refine seq_one (op_val (v := .bool false) hf280 rfl rfl rfl rfl rfl rfl (r_pickF rfl rfl) fun ac258 hf281 => ?_)
                    refine seq_one (op_val (v := .bool false) hf281 rfl rfl rfl rfl rfl rfl (r_pickF rfl rfl) fun ac259 hf282 => ?_)
                    refine seq_end ?_
                    clear ac230 hf247 ac231 hf248 ac232 hf249 ac233 wd33 hI47 hf250 ac234 hf251 ac235 hf252 hf253 ac236 hf254 ac237 hf255 ac238 wd34 hI48 hf256 ac239 hf257 ac240 hf258 ac241 hf259 hf260 ac242 hf261 ac243 hf262 ac244 hf263 ac245 hf264 ac246 hf265 ac247 hf266 hf267 ac248 hf268 ac249 hf269 ac250 hf270 hf271 ac251 hf278 ac256 hf279 ac257 hf280 ac258 hf281
                    refine then_normal ?_
                    exact ⟨(hf282.cons 0 rfl (hf282.cons 1 rfl (hf282.cons 2 rfl (hf282.cons 3 rfl (hf282.cons 4 rfl (hf282.cons 11 rfl (hf282.cons 12 rfl (hf282.cons 13 rfl (hf282.cons 14 rfl (hf282.cons 15 rfl (hf282.cons 16 rfl (hf282.cons 18 rfl (hf282.cons 24 rfl (hf282.cons 25 rfl (hf282.cons 26 rfl (hf282.cons 27 rfl (hf282.cons 28 rfl (hf282.cons 33 rfl (hf282.cons 34 rfl (hf282.cons 35 rfl (hf282.cons 36 rfl (hf282.cons 37 rfl (hf282.cons 38 rfl (hf282.cons 39 rfl (hf282.cons 40 rfl (hf282.cons 41 rfl (hf282.cons 42 rfl (hf282.cons 43 rfl (hf282.cons 44 rfl (hf282.cons 45 rfl (hf282.cons 46 rfl (hf282.cons 47 rfl (hf282.cons 48 rfl (hf282.cons 49 rfl (hf282.cons 50 rfl (hf282.cons 67 rfl (hf282.cons 68 rfl (hf282.cons 69 rfl (hf282.cons 70 rfl (hf282.cons 71 rfl (hf282.cons 72 rfl (hf282.cons 73 rfl (hf282.cons 74 rfl (hf282.cons 75 rfl (hf282.cons 76 rfl (hf282.cons 77 rfl (hf282.cons 78 rfl (hf282.cons 79 rfl (hf282.cons 80 rfl (hf282.cons 81 rfl (hf282.cons 82 rfl (hf282.cons 83 rfl (hf282.cons 84 rfl (hf282.cons 85 rfl (hf282.cons 86 rfl (hf282.cons 87 rfl (hf282.cons 94 rfl (hf282.cons 95 rfl (hf282.cons 96 rfl (hf282.cons 97 rfl (hf282.cons 98 rfl (hf282.cons 99 rfl (hf282.cons 100 rfl (hf282.cons 101 rfl (hf282.cons 102 rfl (hf282.cons 103 rfl (hf282.cons 104 rfl (hf282.cons 105 rfl (hf282.cons 106 rfl (hf282.cons 107 rfl (hf282.cons 108 rfl (hf282.cons 109 rfl (hf282.cons 110 rfl (hf282.cons 111 rfl (hf282.cons 113 rfl (hf282.cons 114 rfl (hf282.cons 115 rfl (hf282.cons 116 rfl (hf282.cons 117 rfl (hf282.cons 118 rfl (hf282.cons 119 rfl (hf282.cons 120 rfl (hf282.cons 175 rfl (hf282.cons 176 rfl (hf282.cons 177 rfl (hf282.cons 178 rfl (hf282.cons 179 rfl (hf282.cons 180 rfl (hf282.cons 181 rfl (hf282.cons 182 rfl (hf282.cons 183 rfl (hf282.cons 184 rfl (hf282.cons 185 rfl (hf282.cons 186 rfl (hf282.cons 187 rfl (hf282.cons 188 rfl (hf282.cons 213 rfl hf282.nil))))))))))))))))))))))))))))))))))))))))))))))))))))))))))))))))))))))))))))))))))))))))))))))))), hI49⟩
                ·
                  intro ac260 wd36 hf283 hI50
                  clear ac230 wd33 hf247 hI47
                  refine then_normal ?_
                  refine code_if_false hf283 rfl ?_
                  refine wp_skip ?_
                  refine then_normal ?_
                  refine code_seq ?_
                  refine code_seq ?_
                  refine seq_start (l := [0, 1, 2]) rfl ?_
                  refine seq_one (op_val (v := .slice (some ⟨b9, 0, none⟩) n (n + m9)) hf283 rfl rfl rfl rfl rfl rfl (r_move rfl) fun ac261 hf284 => ?_)
                  refine seq_one (op_val (v := .int .i64 (n : Int)) hf284 rfl rfl rfl rfl rfl rfl (r_len sl_23 rfl) fun ac262 hf285 => ?_)
                  refine seq_one (op_val (v := .int .i64 0) hf285 rfl rfl rfl rfl rfl rfl (r_move rfl) fun ac263 hf286 => ?_)
                  refine seq_end ?_
                  clear ac260 hf283 ac261 hf284 ac262 hf285
                  refine then_normal ?_
                  refine wp_block ?_
                  refine code_loop (α := Nat × (List Int)) (fun (x : Nat × (List Int)) => match x with | (d3, ts3) => [(0, .int .i64 (n : Int)), (1, .int .i64 (k : Int)), (2, .slice p L cap), (3, .slice q M caq), (4, .int .u64 now), (11, .int .u64 ((aheadF now (M : Int) (k : Int)).1)), (12, .int .i64 0), (13, .int .u64 ((aheadF now (M : Int) (k : Int)).1)), (14, .bool true), (15, .pointer (some ⟨b2, 0, none⟩)), (16, .pointer (some ⟨b4, 0, none⟩)), (18, .pointer (some ⟨b6, 0, none⟩)), (24, .slice q7 (((sinceR ys ws n M k).1).length) capq7), (25, .int .i64 ((sinceR ys ws n M k).2)), (26, .slice q8 (((sinceR ys ws n M k).1).length) capq8), (27, .bool ((sinceR ys ws n M k).2 == 0)), (28, .slice (some ⟨b9, 0, none⟩) n (n + m9)), (33, .tuple #[.int .u64 ((aheadF now (M : Int) (k : Int)).1), .int .i64 ((aheadF now (M : Int) (k : Int)).2)]), (34, .int .u64 now), (35, .slice q M caq), (36, .int .i64 (M : Int)), (37, .int .u64 (M : Int)), (38, .int .i64 (k : Int)), (39, .tuple #[.int .u64 ((aheadF now (M : Int) (k : Int)).1), .int .i64 ((aheadF now (M : Int) (k : Int)).2)]), (40, .int .u64 ((aheadF now (M : Int) (k : Int)).1)), (41, .int .i64 ((aheadF now (M : Int) (k : Int)).2)), (42, .tuple #[.int .u64 ((aheadF now (M : Int) (k : Int)).1), .bool ((aheadF now (M : Int) (k : Int)).2 == 0)]), (43, .int .u64 now), (44, .slice q M caq), (45, .int .i64 (M : Int)), (46, .int .u64 (M : Int)), (47, .int .i64 (k : Int)), (48, .tuple #[.int .u64 ((aheadF now (M : Int) (k : Int)).1), .bool ((aheadF now (M : Int) (k : Int)).2 == 0)]), (49, .int .u64 ((aheadF now (M : Int) (k : Int)).1)), (50, .bool ((aheadF now (M : Int) (k : Int)).2 == 0)), (67, .bool false), (68, .tuple #[.pointer (some ⟨b2, 0, none⟩), .int .i64 0]), (69, .int .i64 (n : Int)), (70, .int .i64 (k : Int)), (71, .tuple #[.pointer (some ⟨b2, 0, none⟩), .int .i64 0]), (72, .pointer (some ⟨b2, 0, none⟩)), (73, .int .i64 0), (74, .tuple #[.agg #[.int .i64 (k : Int), .slice (some ⟨b3, 0, none⟩) n (n + 0)], .bool true]), (75, .int .i64 (n : Int)), (76, .int .i64 (k : Int)), (77, .tuple #[.agg #[.int .i64 (k : Int), .slice (some ⟨b3, 0, none⟩) n (n + 0)], .bool true]), (78, .agg #[.int .i64 (k : Int), .slice (some ⟨b3, 0, none⟩) n (n + 0)]), (79, .bool true), (80, .int .i64 0), (81, .bool true), (82, .bool true), (83, .bool false), (84, .bool false), (85, .bool true), (86, .bool false), (87, .bool false), (94, .bool false), (95, .bool false), (96, .bool true), (97, .bool false), (98, .bool false), (99, .int .i64 (n : Int)), (100, .bool (decide ((n : Int) > 20))), (101, .bool (decide ((n : Int) > 20))), (102, .bool false), (103, .slice p L cap), (104, .int .i64 (L : Int)), (105, .bool (decide ((L : Int) > 60))), (106, .bool (decide ((L : Int) > 60))), (107, .bool false), (108, .slice q M caq), (109, .int .i64 (M : Int)), (110, .bool (decide ((M : Int) > 300))), (111, .bool false), (113, .slice p L cap), (114, .int .i64 (L : Int)), (115, .int .i64 (i : Int)), (116, .bool true), (117, .pointer (slAt p (i * 3))), (118, .agg #[.int .u8 kd5, .int .i64 ii5, .int .u64 nn5]), (119, .pointer (some ⟨b6, 0, none⟩)), (120, .int .u8 kd5), (175, .tuple #[.slice q7 (((sinceR ys ws n M k).1).length) capq7, .int .i64 ((sinceR ys ws n M k).2)]), (176, .pointer (some ⟨b2, 0, none⟩)), (177, .slice q M caq), (178, .tuple #[.slice q7 (((sinceR ys ws n M k).1).length) capq7, .int .i64 ((sinceR ys ws n M k).2)]), (179, .slice q7 (((sinceR ys ws n M k).1).length) capq7), (180, .int .i64 ((sinceR ys ws n M k).2)), (181, .tuple #[.slice q8 (((sinceR ys ws n M k).1).length) capq8, .bool ((sinceR ys ws n M k).2 == 0)]), (182, .agg #[.int .i64 (k : Int), .slice (some ⟨rc, 0, none⟩) n (n + mm)]), (183, .slice q M caq), (184, .tuple #[.slice q8 (((sinceR ys ws n M k).1).length) capq8, .bool ((sinceR ys ws n M k).2 == 0)]), (185, .slice q8 (((sinceR ys ws n M k).1).length) capq8), (186, .bool ((sinceR ys ws n M k).2 == 0)), (187, .pointer (some ⟨b2, 0, none⟩)), (188, .slice (some ⟨b9, 0, none⟩) n (n + m9)), (213, .bool false), (214, .slice (some ⟨b9, 0, none⟩) n (n + m9)), (215, .int .i64 (n : Int)), (216, .int .i64 (d3 : Int))]) (fun (x : Nat × (List Int)) => match x with | (d3, ts3) => fun wL => Inv w ([(b1, arr .u64 ys, 24), (b2, #[.slice (some ⟨b1, 0, none⟩) n n, .int .i64 (k : Int)], 58), (rc, arr .u64 (ys ++ List.replicate mm 0), 24), (b4, #[.int .i64 (k : Int), .slice (some ⟨rc, 0, none⟩) n (n + mm)], 34), (b6, #[.int .u8 kd5, .int .i64 ii5, .int .u64 nn5], 39), (b9, arr .u64 ts3, 24)] ++ (Sq7 ++ Sq8)) wL ∧ (d3 ≤ n ∧ ts3.length = n + m9)) (fun (x : Nat × (List Int)) => match x with | (d3, ts3) => n - d3) (0, (ys ++ List.replicate m9 0)) (hf286.cons 0 rfl (hf286.cons 1 rfl (hf286.cons 2 rfl (hf286.cons 3 rfl (hf286.cons 4 rfl (hf286.cons 11 rfl (hf286.cons 12 rfl (hf286.cons 13 rfl (hf286.cons 14 rfl (hf286.cons 15 rfl (hf286.cons 16 rfl (hf286.cons 18 rfl (hf286.cons 24 rfl (hf286.cons 25 rfl (hf286.cons 26 rfl (hf286.cons 27 rfl (hf286.cons 28 rfl (hf286.cons 33 rfl (hf286.cons 34 rfl (hf286.cons 35 rfl (hf286.cons 36 rfl (hf286.cons 37 rfl (hf286.cons 38 rfl (hf286.cons 39 rfl (hf286.cons 40 rfl (hf286.cons 41 rfl (hf286.cons 42 rfl (hf286.cons 43 rfl (hf286.cons 44 rfl (hf286.cons 45 rfl (hf286.cons 46 rfl (hf286.cons 47 rfl (hf286.cons 48 rfl (hf286.cons 49 rfl (hf286.cons 50 rfl (hf286.cons 67 rfl (hf286.cons 68 rfl (hf286.cons 69 rfl (hf286.cons 70 rfl (hf286.cons 71 rfl (hf286.cons 72 rfl (hf286.cons 73 rfl (hf286.cons 74 rfl (hf286.cons 75 rfl (hf286.cons 76 rfl (hf286.cons 77 rfl (hf286.cons 78 rfl (hf286.cons 79 rfl (hf286.cons 80 rfl (hf286.cons 81 rfl (hf286.cons 82 rfl (hf286.cons 83 rfl (hf286.cons 84 rfl (hf286.cons 85 rfl (hf286.cons 86 rfl (hf286.cons 87 rfl (hf286.cons 94 rfl (hf286.cons 95 rfl (hf286.cons 96 rfl (hf286.cons 97 rfl (hf286.cons 98 rfl (hf286.cons 99 rfl (hf286.cons 100 rfl (hf286.cons 101 rfl (hf286.cons 102 rfl (hf286.cons 103 rfl (hf286.cons 104 rfl (hf286.cons 105 rfl (hf286.cons 106 rfl (hf286.cons 107 rfl (hf286.cons 108 rfl (hf286.cons 109 rfl (hf286.cons 110 rfl (hf286.cons 111 rfl (hf286.cons 113 rfl (hf286.cons 114 rfl (hf286.cons 115 rfl (hf286.cons 116 rfl (hf286.cons 117 rfl (hf286.cons 118 rfl (hf286.cons 119 rfl (hf286.cons 120 rfl (hf286.cons 175 rfl (hf286.cons 176 rfl (hf286.cons 177 rfl (hf286.cons 178 rfl (hf286.cons 179 rfl (hf286.cons 180 rfl (hf286.cons 181 rfl (hf286.cons 182 rfl (hf286.cons 183 rfl (hf286.cons 184 rfl (hf286.cons 185 rfl (hf286.cons 186 rfl (hf286.cons 187 rfl (hf286.cons 188 rfl (hf286.cons 213 rfl (hf286.cons 214 rfl (hf286.cons 215 rfl (hf286.cons 216 rfl hf286.nil)))))))))))))))))))))))))))))))))))))))))))))))))))))))))))))))))))))))))))))))))))))))))))))))))))) ⟨hI50, ⟨Nat.zero_le _, ((by rw [List.length_append, List.length_replicate, hj.1.len]) : (ys ++ List.replicate m9 0).length = n + m9)⟩⟩ ?_
                  intro ⟨d3, ts3⟩ ac264 wd37 hf287 hL3
                  obtain ⟨hI51, hx3⟩ := hL3
                  dsimp only at hf287 hI51 hx3
                  clear ac263 wd36 hf286 hI50
                  refine code_seq ?_
                  refine seq_start (l := [0]) rfl ?_
                  refine seq_one (op_val (v := .bool (decide ((d3 : Int) < (n : Int)))) hf287 rfl rfl rfl rfl rfl rfl (r_lss rfl rfl) fun ac265 hf288 => ?_)
                  refine seq_end ?_
                  clear ac264 hf287
                  refine then_normal ?_
                  refine code_seq ?_
                  refine code_if hf288 rfl (fun c217_9 => ?_) (fun c217_9 => ?_)
                  · have hf289 := hf288.know 217 (u := .bool true) rfl (congrArg Value.bool c217_9)
                    refine wp_skip ?_
                    refine then_normal ?_
                    refine code_seq ?_
                    refine wp_block ?_
                    refine code_seq ?_
                    refine seq_start (l := [0, 1]) rfl ?_
                    refine seq_one (op_val (v := .int .i64 (d3 : Int)) hf289 rfl rfl rfl rfl rfl rfl (r_move rfl) fun ac266 hf290 => ?_)
                    refine seq_one (op_val (v := .int .i64 (d3 : Int)) hf290 rfl rfl rfl rfl rfl rfl (r_assign rfl) fun ac267 hf291 => ?_)
                    refine seq_end ?_
                    clear hf288 ac265 hf289 ac266 hf290
                    refine then_normal ?_
                    refine seq_start (l := [0, 1, 2, 3, 4, 5, 6]) rfl ?_
                    refine seq_one (op_val (v := .slice (some ⟨b9, 0, none⟩) n (n + m9)) hf291 rfl rfl rfl rfl rfl rfl (r_move rfl) fun ac268 hf292 => ?_)
                    refine seq_one (op_val (v := .int .i64 (d3 : Int)) hf292 rfl rfl rfl rfl rfl rfl (r_move rfl) fun ac269 hf293 => ?_)
                    refine seq_one (op_val (v := .pointer (some ⟨b9, d3, none⟩)) hf293 rfl rfl rfl rfl rfl rfl (r_indexAddrS (i := d3) sl_23 rfl rfl rfl (by have := of_decide_eq_true c217_9; omega) (by rw [Nat.mul_one, Nat.zero_add])) fun ac270 hf294 => ?_)
                    refine seq_one (op_val (v := .int .u64 (ts3.getD d3 0)) hf294 rfl rfl rfl rfl rfl rfl (r_load ag_24 rfl (hI51.at 5 rfl) (arr_get (Nat.lt_of_lt_of_eq (by have := of_decide_eq_true c217_9; omega) (Eq.symm hx3.2)))) fun ac271 hf295 => ?_)
                    refine seq_one (op_val (v := .int .u64 (IntKind.wrap .u64 ((ts3.getD d3 0) + 1))) hf295 rfl rfl rfl rfl rfl rfl (r_add rfl rfl rfl) fun ac272 hf296 => ?_)
                    refine seq_one (op_val (v := .pointer (some ⟨b9, d3, none⟩)) hf296 rfl rfl rfl rfl rfl rfl (r_indexAddrS (i := d3) sl_23 rfl rfl rfl (by have := of_decide_eq_true c217_9; omega) (by rw [Nat.mul_one, Nat.zero_add])) fun ac273 hf297 => ?_)
                    refine seq_one (op_store (cs' := arr .u64 (ts3.set d3 (IntKind.wrap .u64 ((ts3.getD d3 0) + 1)))) 5 hf297 rfl rfl rfl rfl rfl sz_24 hI51 rfl (Nat.lt_of_lt_of_eq (by have := of_decide_eq_true c217_9; omega) (Eq.symm (arr_size hx3.2))) arr_set fun wd38 hI52 => ?_)
                    have hI53 : Inv w ([(b1, arr .u64 ys, 24), (b2, #[.slice (some ⟨b1, 0, none⟩) n n, .int .i64 (k : Int)], 58), (rc, arr .u64 (ys ++ List.replicate mm 0), 24), (b4, #[.int .i64 (k : Int), .slice (some ⟨rc, 0, none⟩) n (n + mm)], 34), (b6, #[.int .u8 kd5, .int .i64 ii5, .int .u64 nn5], 39), (b9, arr .u64 (ts3.set d3 (IntKind.wrap .u64 ((ts3.getD d3 0) + 1))), 24)] ++ (Sq7 ++ Sq8)) wd38 := hI52
                    refine seq_end ?_
                    clear ac267 hf291 ac268 hf292 ac269 hf293 ac270 hf294 ac271 hf295 ac272 hf296 wd37 hI51 hI52
                    refine block_normal ?_
                    refine then_normal ?_
                    refine seq_start (l := [0, 1]) rfl ?_
                    refine seq_one (op_val (v := .int .i64 ((d3 + 1 : Nat) : Int)) hf297 rfl rfl rfl rfl rfl rfl (r_add (c := ((d3 + 1 : Nat) : Int)) rfl rfl (wrap_i64 (by omega) (by have := hx3.1; omega))) fun ac274 hf298 => ?_)
                    refine seq_one (op_val (v := .int .i64 ((d3 + 1 : Nat) : Int)) hf298 rfl rfl rfl rfl rfl rfl (r_move rfl) fun ac275 hf299 => ?_)
                    refine seq_end ?_
                    clear ac273 hf297 ac274 hf298
                    refine then_normal ?_
                    exact ⟨(d3 + 1, (ts3.set d3 (IntKind.wrap .u64 ((ts3.getD d3 0) + 1)))), (hf299.cons 0 rfl (hf299.cons 1 rfl (hf299.cons 2 rfl (hf299.cons 3 rfl (hf299.cons 4 rfl (hf299.cons 11 rfl (hf299.cons 12 rfl (hf299.cons 13 rfl (hf299.cons 14 rfl (hf299.cons 15 rfl (hf299.cons 16 rfl (hf299.cons 18 rfl (hf299.cons 24 rfl (hf299.cons 25 rfl (hf299.cons 26 rfl (hf299.cons 27 rfl (hf299.cons 28 rfl (hf299.cons 33 rfl (hf299.cons 34 rfl (hf299.cons 35 rfl (hf299.cons 36 rfl (hf299.cons 37 rfl (hf299.cons 38 rfl (hf299.cons 39 rfl (hf299.cons 40 rfl (hf299.cons 41 rfl (hf299.cons 42 rfl (hf299.cons 43 rfl (hf299.cons 44 rfl (hf299.cons 45 rfl (hf299.cons 46 rfl (hf299.cons 47 rfl (hf299.cons 48 rfl (hf299.cons 49 rfl (hf299.cons 50 rfl (hf299.cons 67 rfl (hf299.cons 68 rfl (hf299.cons 69 rfl (hf299.cons 70 rfl (hf299.cons 71 rfl (hf299.cons 72 rfl (hf299.cons 73 rfl (hf299.cons 74 rfl (hf299.cons 75 rfl (hf299.cons 76 rfl (hf299.cons 77 rfl (hf299.cons 78 rfl (hf299.cons 79 rfl (hf299.cons 80 rfl (hf299.cons 81 rfl (hf299.cons 82 rfl (hf299.cons 83 rfl (hf299.cons 84 rfl (hf299.cons 85 rfl (hf299.cons 86 rfl (hf299.cons 87 rfl (hf299.cons 94 rfl (hf299.cons 95 rfl (hf299.cons 96 rfl (hf299.cons 97 rfl (hf299.cons 98 rfl (hf299.cons 99 rfl (hf299.cons 100 rfl (hf299.cons 101 rfl (hf299.cons 102 rfl (hf299.cons 103 rfl (hf299.cons 104 rfl (hf299.cons 105 rfl (hf299.cons 106 rfl (hf299.cons 107 rfl (hf299.cons 108 rfl (hf299.cons 109 rfl (hf299.cons 110 rfl (hf299.cons 111 rfl (hf299.cons 113 rfl (hf299.cons 114 rfl (hf299.cons 115 rfl (hf299.cons 116 rfl (hf299.cons 117 rfl (hf299.cons 118 rfl (hf299.cons 119 rfl (hf299.cons 120 rfl (hf299.cons 175 rfl (hf299.cons 176 rfl (hf299.cons 177 rfl (hf299.cons 178 rfl (hf299.cons 179 rfl (hf299.cons 180 rfl (hf299.cons 181 rfl (hf299.cons 182 rfl (hf299.cons 183 rfl (hf299.cons 184 rfl (hf299.cons 185 rfl (hf299.cons 186 rfl (hf299.cons 187 rfl (hf299.cons 188 rfl (hf299.cons 213 rfl (hf299.cons 214 rfl (hf299.cons 215 rfl (hf299.cons 216 rfl hf299.nil)))))))))))))))))))))))))))))))))))))))))))))))))))))))))))))))))))))))))))))))))))))))))))))))))))), ⟨hI53, ⟨by have := of_decide_eq_true c217_9; omega, List.length_set.trans hx3.2⟩⟩, (by have := of_decide_eq_true c217_9; show n - (d3 + 1) < n - d3; omega)⟩
                  · have hf300 := hf288.know 217 (u := .bool false) rfl (congrArg Value.bool c217_9)
                    refine wp_exit ?_
                    refine then_exit ?_
                    refine then_exit ?_
                    refine block_here ?_
                    refine then_normal ?_
                    refine code_seq ?_
                    refine seq_start (l := [0]) rfl ?_
                    refine seq_one (op_val (v := .int .i64 (-1)) hf300 rfl rfl rfl rfl rfl rfl (r_assign rfl) fun ac276 hf301 => ?_)
                    refine seq_end ?_
                    clear hf288 ac265 hf300
                    refine then_normal ?_
                    refine wp_block ?_
                    refine code_loop (α := Nat) (fun (d : Nat) => [(0, .int .i64 (n : Int)), (1, .int .i64 (k : Int)), (2, .slice p L cap), (3, .slice q M caq), (4, .int .u64 now), (11, .int .u64 ((aheadF now (M : Int) (k : Int)).1)), (12, .int .i64 0), (13, .int .u64 ((aheadF now (M : Int) (k : Int)).1)), (14, .bool true), (15, .pointer (some ⟨b2, 0, none⟩)), (16, .pointer (some ⟨b4, 0, none⟩)), (18, .pointer (some ⟨b6, 0, none⟩)), (24, .slice q7 (((sinceR ys ws n M k).1).length) capq7), (25, .int .i64 ((sinceR ys ws n M k).2)), (26, .slice q8 (((sinceR ys ws n M k).1).length) capq8), (27, .bool ((sinceR ys ws n M k).2 == 0)), (28, .slice (some ⟨b9, 0, none⟩) n (n + m9)), (33, .tuple #[.int .u64 ((aheadF now (M : Int) (k : Int)).1), .int .i64 ((aheadF now (M : Int) (k : Int)).2)]), (34, .int .u64 now), (35, .slice q M caq), (36, .int .i64 (M : Int)), (37, .int .u64 (M : Int)), (38, .int .i64 (k : Int)), (39, .tuple #[.int .u64 ((aheadF now (M : Int) (k : Int)).1), .int .i64 ((aheadF now (M : Int) (k : Int)).2)]), (40, .int .u64 ((aheadF now (M : Int) (k : Int)).1)), (41, .int .i64 ((aheadF now (M : Int) (k : Int)).2)), (42, .tuple #[.int .u64 ((aheadF now (M : Int) (k : Int)).1), .bool ((aheadF now (M : Int) (k : Int)).2 == 0)]), (43, .int .u64 now), (44, .slice q M caq), (45, .int .i64 (M : Int)), (46, .int .u64 (M : Int)), (47, .int .i64 (k : Int)), (48, .tuple #[.int .u64 ((aheadF now (M : Int) (k : Int)).1), .bool ((aheadF now (M : Int) (k : Int)).2 == 0)]), (49, .int .u64 ((aheadF now (M : Int) (k : Int)).1)), (50, .bool ((aheadF now (M : Int) (k : Int)).2 == 0)), (67, .bool false), (68, .tuple #[.pointer (some ⟨b2, 0, none⟩), .int .i64 0]), (69, .int .i64 (n : Int)), (70, .int .i64 (k : Int)), (71, .tuple #[.pointer (some ⟨b2, 0, none⟩), .int .i64 0]), (72, .pointer (some ⟨b2, 0, none⟩)), (73, .int .i64 0), (74, .tuple #[.agg #[.int .i64 (k : Int), .slice (some ⟨b3, 0, none⟩) n (n + 0)], .bool true]), (75, .int .i64 (n : Int)), (76, .int .i64 (k : Int)), (77, .tuple #[.agg #[.int .i64 (k : Int), .slice (some ⟨b3, 0, none⟩) n (n + 0)], .bool true]), (78, .agg #[.int .i64 (k : Int), .slice (some ⟨b3, 0, none⟩) n (n + 0)]), (79, .bool true), (80, .int .i64 0), (81, .bool true), (82, .bool true), (83, .bool false), (84, .bool false), (85, .bool true), (86, .bool false), (87, .bool false), (94, .bool false), (95, .bool false), (96, .bool true), (97, .bool false), (98, .bool false), (99, .int .i64 (n : Int)), (100, .bool (decide ((n : Int) > 20))), (101, .bool (decide ((n : Int) > 20))), (102, .bool false), (103, .slice p L cap), (104, .int .i64 (L : Int)), (105, .bool (decide ((L : Int) > 60))), (106, .bool (decide ((L : Int) > 60))), (107, .bool false), (108, .slice q M caq), (109, .int .i64 (M : Int)), (110, .bool (decide ((M : Int) > 300))), (111, .bool false), (113, .slice p L cap), (114, .int .i64 (L : Int)), (115, .int .i64 (i : Int)), (116, .bool true), (117, .pointer (slAt p (i * 3))), (118, .agg #[.int .u8 kd5, .int .i64 ii5, .int .u64 nn5]), (119, .pointer (some ⟨b6, 0, none⟩)), (120, .int .u8 kd5), (175, .tuple #[.slice q7 (((sinceR ys ws n M k).1).length) capq7, .int .i64 ((sinceR ys ws n M k).2)]), (176, .pointer (some ⟨b2, 0, none⟩)), (177, .slice q M caq), (178, .tuple #[.slice q7 (((sinceR ys ws n M k).1).length) capq7, .int .i64 ((sinceR ys ws n M k).2)]), (179, .slice q7 (((sinceR ys ws n M k).1).length) capq7), (180, .int .i64 ((sinceR ys ws n M k).2)), (181, .tuple #[.slice q8 (((sinceR ys ws n M k).1).length) capq8, .bool ((sinceR ys ws n M k).2 == 0)]), (182, .agg #[.int .i64 (k : Int), .slice (some ⟨rc, 0, none⟩) n (n + mm)]), (183, .slice q M caq), (184, .tuple #[.slice q8 (((sinceR ys ws n M k).1).length) capq8, .bool ((sinceR ys ws n M k).2 == 0)]), (185, .slice q8 (((sinceR ys ws n M k).1).length) capq8), (186, .bool ((sinceR ys ws n M k).2 == 0)), (187, .pointer (some ⟨b2, 0, none⟩)), (188, .slice (some ⟨b9, 0, none⟩) n (n + m9)), (213, .bool false), (214, .slice (some ⟨b9, 0, none⟩) n (n + m9)), (215, .int .i64 (n : Int)), (216, .int .i64 (d3 : Int)), (217, .bool false), (30, .int .i64 ((d : Int) - 1))]) (fun (d : Nat) => fun wL => Inv w ([(b1, arr .u64 ys, 24), (b2, #[.slice (some ⟨b1, 0, none⟩) n n, .int .i64 (k : Int)], 58), (rc, arr .u64 (ys ++ List.replicate mm 0), 24), (b4, #[.int .i64 (k : Int), .slice (some ⟨rc, 0, none⟩) n (n + mm)], 34), (b6, #[.int .u8 kd5, .int .i64 ii5, .int .u64 nn5], 39), (b9, arr .u64 ts3, 24)] ++ (Sq7 ++ Sq8)) wL ∧ (d ≤ n + 2)) (fun (d : Nat) => n + 2 - d) 0 (hf301.cons 0 rfl (hf301.cons 1 rfl (hf301.cons 2 rfl (hf301.cons 3 rfl (hf301.cons 4 rfl (hf301.cons 11 rfl (hf301.cons 12 rfl (hf301.cons 13 rfl (hf301.cons 14 rfl (hf301.cons 15 rfl (hf301.cons 16 rfl (hf301.cons 18 rfl (hf301.cons 24 rfl (hf301.cons 25 rfl (hf301.cons 26 rfl (hf301.cons 27 rfl (hf301.cons 28 rfl (hf301.cons 33 rfl (hf301.cons 34 rfl (hf301.cons 35 rfl (hf301.cons 36 rfl (hf301.cons 37 rfl (hf301.cons 38 rfl (hf301.cons 39 rfl (hf301.cons 40 rfl (hf301.cons 41 rfl (hf301.cons 42 rfl (hf301.cons 43 rfl (hf301.cons 44 rfl (hf301.cons 45 rfl (hf301.cons 46 rfl (hf301.cons 47 rfl (hf301.cons 48 rfl (hf301.cons 49 rfl (hf301.cons 50 rfl (hf301.cons 67 rfl (hf301.cons 68 rfl (hf301.cons 69 rfl (hf301.cons 70 rfl (hf301.cons 71 rfl (hf301.cons 72 rfl (hf301.cons 73 rfl (hf301.cons 74 rfl (hf301.cons 75 rfl (hf301.cons 76 rfl (hf301.cons 77 rfl (hf301.cons 78 rfl (hf301.cons 79 rfl (hf301.cons 80 rfl (hf301.cons 81 rfl (hf301.cons 82 rfl (hf301.cons 83 rfl (hf301.cons 84 rfl (hf301.cons 85 rfl (hf301.cons 86 rfl (hf301.cons 87 rfl (hf301.cons 94 rfl (hf301.cons 95 rfl (hf301.cons 96 rfl (hf301.cons 97 rfl (hf301.cons 98 rfl (hf301.cons 99 rfl (hf301.cons 100 rfl (hf301.cons 101 rfl (hf301.cons 102 rfl (hf301.cons 103 rfl (hf301.cons 104 rfl (hf301.cons 105 rfl (hf301.cons 106 rfl (hf301.cons 107 rfl (hf301.cons 108 rfl (hf301.cons 109 rfl (hf301.cons 110 rfl (hf301.cons 111 rfl (hf301.cons 113 rfl (hf301.cons 114 rfl (hf301.cons 115 rfl (hf301.cons 116 rfl (hf301.cons 117 rfl (hf301.cons 118 rfl (hf301.cons 119 rfl (hf301.cons 120 rfl (hf301.cons 175 rfl (hf301.cons 176 rfl (hf301.cons 177 rfl (hf301.cons 178 rfl (hf301.cons 179 rfl (hf301.cons 180 rfl (hf301.cons 181 rfl (hf301.cons 182 rfl (hf301.cons 183 rfl (hf301.cons 184 rfl (hf301.cons 185 rfl (hf301.cons 186 rfl (hf301.cons 187 rfl (hf301.cons 188 rfl (hf301.cons 213 rfl (hf301.cons 214 rfl (hf301.cons 215 rfl (hf301.cons 216 rfl (hf301.cons 217 rfl (hf301.cons 30 rfl hf301.nil)))))))))))))))))))))))))))))))))))))))))))))))))))))))))))))))))))))))))))))))))))))))))))))))))))))) ⟨hI51, Nat.zero_le _⟩ ?_
                    intro d ac277 wd39 hf302 hL9
                    obtain ⟨hI54, hx9⟩ := hL9
                    clear ac276 wd37 hf301 hI51
                    refine code_seq ?_
                    refine code_seq ?_
                    refine seq_start (l := [0, 1, 2]) rfl ?_
                    refine seq_one (op_val (v := .int .i64 ((d : Int) - 1)) hf302 rfl rfl rfl rfl rfl rfl (r_move rfl) fun ac278 hf303 => ?_)
                    refine seq_one (op_val (v := .int .i64 (n : Int)) hf303 rfl rfl rfl rfl rfl rfl (r_move rfl) fun ac279 hf304 => ?_)
                    refine seq_one (op_val (v := .bool (decide (((d : Int) - 1) ≤ (n : Int)))) hf304 rfl rfl rfl rfl rfl rfl (r_leq rfl rfl) fun ac280 hf305 => ?_)
                    refine seq_end ?_
                    clear ac277 hf302 ac278 hf303 ac279 hf304
                    refine then_normal ?_
                    refine code_if hf305 rfl (fun c228_10 => ?_) (fun c228_10 => ?_)
                    · have hf306 := hf305.know 228 (u := .bool true) rfl (congrArg Value.bool c228_10)
                      refine wp_skip ?_
                      refine then_normal ?_
                      refine code_seq ?_
                      refine wp_block ?_
                      refine code_seq ?_
                      refine seq_start (l := [0, 1, 2, 3, 4, 5, 6, 7]) rfl ?_
                      refine seq_one (op_val (v := .pointer (some ⟨b2, 0, none⟩)) hf306 rfl rfl rfl rfl rfl rfl (r_move rfl) fun ac281 hf307 => ?_)
                      refine seq_one (op_val (v := .int .i64 ((d : Int) - 1)) hf307 rfl rfl rfl rfl rfl rfl (r_move rfl) fun ac282 hf308 => ?_)
                      refine seq_one (op_pureW hf308 rfl rfl rfl rfl ca_21 (get_any (xs := ys) hj.1.len (hI54.ne (i := 0) (j := 1) rfl rfl (by decide)) (Has.cons (hI54.at 0 rfl) (Has.cons (hI54.at 1 rfl) Has.nil))) hI54 fun ac283 wd40 hI55 hf309 => ?_)
                      refine seq_one (op_val (v := .tuple #[.int .u64 (getV ys n ((d : Int) - 1)), .bool (decide (0 ≤ ((d : Int) - 1) ∧ ((d : Int) - 1) < (n : Int)))]) hf309 rfl rfl rfl rfl rfl rfl (r_move rfl) fun ac284 hf310 => ?_)
                      refine seq_one (op_val (v := .int .u64 (getV ys n ((d : Int) - 1))) hf310 rfl rfl rfl rfl rfl rfl (r_extract rfl rfl) fun ac285 hf311 => ?_)
                      refine seq_one (op_val (v := .bool (decide (0 ≤ ((d : Int) - 1) ∧ ((d : Int) - 1) < (n : Int)))) hf311 rfl rfl rfl rfl rfl rfl (r_extract rfl rfl) fun ac286 hf312 => ?_)
                      refine seq_one (op_val (v := .int .u64 (getV ys n ((d : Int) - 1))) hf312 rfl rfl rfl rfl rfl rfl (r_assign rfl) fun ac287 hf313 => ?_)
                      refine seq_one (op_val (v := .bool (decide (0 ≤ ((d : Int) - 1) ∧ ((d : Int) - 1) < (n : Int)))) hf313 rfl rfl rfl rfl rfl rfl (r_assign rfl) fun ac288 hf314 => ?_)
                      refine seq_end ?_
                      clear hf305 ac280 hf306 ac281 hf307 ac282 wd39 hI54 hf308 ac283 hf309 ac284 hf310 ac285 hf311 ac286 hf312 ac287 hf313
                      refine then_normal ?_
                      refine code_seq ?_
                      refine code_join 268 ([(0, .int .i64 (n : Int)), (1, .int .i64 (k : Int)), (2, .slice p L cap), (3, .slice q M caq), (4, .int .u64 now), (11, .int .u64 ((aheadF now (M : Int) (k : Int)).1)), (12, .int .i64 0), (13, .int .u64 ((aheadF now (M : Int) (k : Int)).1)), (14, .bool true), (15, .pointer (some ⟨b2, 0, none⟩)), (16, .pointer (some ⟨b4, 0, none⟩)), (18, .pointer (some ⟨b6, 0, none⟩)), (24, .slice q7 (((sinceR ys ws n M k).1).length) capq7), (25, .int .i64 ((sinceR ys ws n M k).2)), (26, .slice q8 (((sinceR ys ws n M k).1).length) capq8), (27, .bool ((sinceR ys ws n M k).2 == 0)), (28, .slice (some ⟨b9, 0, none⟩) n (n + m9)), (30, .int .i64 ((d : Int) - 1)), (31, .int .u64 (getV ys n ((d : Int) - 1))), (32, .bool (decide (0 ≤ ((d : Int) - 1) ∧ ((d : Int) - 1) < (n : Int)))), (33, .tuple #[.int .u64 ((aheadF now (M : Int) (k : Int)).1), .int .i64 ((aheadF now (M : Int) (k : Int)).2)]), (34, .int .u64 now), (35, .slice q M caq), (36, .int .i64 (M : Int)), (37, .int .u64 (M : Int)), (38, .int .i64 (k : Int)), (39, .tuple #[.int .u64 ((aheadF now (M : Int) (k : Int)).1), .int .i64 ((aheadF now (M : Int) (k : Int)).2)]), (40, .int .u64 ((aheadF now (M : Int) (k : Int)).1)), (41, .int .i64 ((aheadF now (M : Int) (k : Int)).2)), (42, .tuple #[.int .u64 ((aheadF now (M : Int) (k : Int)).1), .bool ((aheadF now (M : Int) (k : Int)).2 == 0)]), (43, .int .u64 now), (44, .slice q M caq), (45, .int .i64 (M : Int)), (46, .int .u64 (M : Int)), (47, .int .i64 (k : Int)), (48, .tuple #[.int .u64 ((aheadF now (M : Int) (k : Int)).1), .bool ((aheadF now (M : Int) (k : Int)).2 == 0)]), (49, .int .u64 ((aheadF now (M : Int) (k : Int)).1)), (50, .bool ((aheadF now (M : Int) (k : Int)).2 == 0)), (67, .bool false), (68, .tuple #[.pointer (some ⟨b2, 0, none⟩), .int .i64 0]), (69, .int .i64 (n : Int)), (70, .int .i64 (k : Int)), (71, .tuple #[.pointer (some ⟨b2, 0, none⟩), .int .i64 0]), (72, .pointer (some ⟨b2, 0, none⟩)), (73, .int .i64 0), (74, .tuple #[.agg #[.int .i64 (k : Int), .slice (some ⟨b3, 0, none⟩) n (n + 0)], .bool true]), (75, .int .i64 (n : Int)), (76, .int .i64 (k : Int)), (77, .tuple #[.agg #[.int .i64 (k : Int), .slice (some ⟨b3, 0, none⟩) n (n + 0)], .bool true]), (78, .agg #[.int .i64 (k : Int), .slice (some ⟨b3, 0, none⟩) n (n + 0)]), (79, .bool true), (80, .int .i64 0), (81, .bool true), (82, .bool true), (83, .bool false), (84, .bool false), (85, .bool true), (86, .bool false), (87, .bool false), (94, .bool false), (95, .bool false), (96, .bool true), (97, .bool false), (98, .bool false), (99, .int .i64 (n : Int)), (100, .bool (decide ((n : Int) > 20))), (101, .bool (decide ((n : Int) > 20))), (102, .bool false), (103, .slice p L cap), (104, .int .i64 (L : Int)), (105, .bool (decide ((L : Int) > 60))), (106, .bool (decide ((L : Int) > 60))), (107, .bool false), (108, .slice q M caq), (109, .int .i64 (M : Int)), (110, .bool (decide ((M : Int) > 300))), (111, .bool false), (113, .slice p L cap), (114, .int .i64 (L : Int)), (115, .int .i64 (i : Int)), (116, .bool true), (117, .pointer (slAt p (i * 3))), (118, .agg #[.int .u8 kd5, .int .i64 ii5, .int .u64 nn5]), (119, .pointer (some ⟨b6, 0, none⟩)), (120, .int .u8 kd5), (175, .tuple #[.slice q7 (((sinceR ys ws n M k).1).length) capq7, .int .i64 ((sinceR ys ws n M k).2)]), (176, .pointer (some ⟨b2, 0, none⟩)), (177, .slice q M caq), (178, .tuple #[.slice q7 (((sinceR ys ws n M k).1).length) capq7, .int .i64 ((sinceR ys ws n M k).2)]), (179, .slice q7 (((sinceR ys ws n M k).1).length) capq7), (180, .int .i64 ((sinceR ys ws n M k).2)), (181, .tuple #[.slice q8 (((sinceR ys ws n M k).1).length) capq8, .bool ((sinceR ys ws n M k).2 == 0)]), (182, .agg #[.int .i64 (k : Int), .slice (some ⟨rc, 0, none⟩) n (n + mm)]), (183, .slice q M caq), (184, .tuple #[.slice q8 (((sinceR ys ws n M k).1).length) capq8, .bool ((sinceR ys ws n M k).2 == 0)]), (185, .slice q8 (((sinceR ys ws n M k).1).length) capq8), (186, .bool ((sinceR ys ws n M k).2 == 0)), (187, .pointer (some ⟨b2, 0, none⟩)), (188, .slice (some ⟨b9, 0, none⟩) n (n + m9)), (213, .bool false), (214, .slice (some ⟨b9, 0, none⟩) n (n + m9)), (215, .int .i64 (n : Int)), (216, .int .i64 (d3 : Int)), (217, .bool false), (226, .int .i64 ((d : Int) - 1)), (227, .int .i64 (n : Int)), (228, .bool true), (231, .tuple #[.int .u64 (getV ys n ((d : Int) - 1)), .bool (decide (0 ≤ ((d : Int) - 1) ∧ ((d : Int) - 1) < (n : Int)))]), (232, .pointer (some ⟨b2, 0, none⟩)), (233, .int .i64 ((d : Int) - 1)), (234, .tuple #[.int .u64 (getV ys n ((d : Int) - 1)), .bool (decide (0 ≤ ((d : Int) - 1) ∧ ((d : Int) - 1) < (n : Int)))]), (235, .int .u64 (getV ys n ((d : Int) - 1))), (236, .bool (decide (0 ≤ ((d : Int) - 1) ∧ ((d : Int) - 1) < (n : Int)))), (265, .bool false)]) (fun w' => Inv w ([(b1, arr .u64 ys, 24), (b2, #[.slice (some ⟨b1, 0, none⟩) n n, .int .i64 (k : Int)], 58), (rc, arr .u64 (ys ++ List.replicate mm 0), 24), (b4, #[.int .i64 (k : Int), .slice (some ⟨rc, 0, none⟩) n (n + mm)], 34), (b6, #[.int .u8 kd5, .int .i64 ii5, .int .u64 nn5], 39), (b9, arr .u64 ts3, 24)] ++ (Sq7 ++ Sq8)) w') ?_ ?_
                      ·
                        refine seq_start (l := [0, 1, 2, 3, 4, 5, 6, 7, 8, 9, 10, 11, 12, 13, 14, 15, 16, 17, 18, 19, 20, 21, 22, 23, 24, 25, 26, 27, 28]) rfl ?_
                        refine seq_one (op_val (v := .bool (decide (0 ≤ ((d : Int) - 1) ∧ ((d : Int) - 1) < (n : Int)))) hf314 rfl rfl rfl rfl rfl rfl (r_move rfl) fun ac289 hf315 => ?_)
                        refine seq_one (op_val (v := .int .i64 ((d : Int) - 1)) hf315 rfl rfl rfl rfl rfl rfl (r_move rfl) fun ac290 hf316 => ?_)
                        refine seq_one (op_val (v := .bool (decide (((d : Int) - 1) ≥ 0))) hf316 rfl rfl rfl rfl rfl rfl (r_geq rfl rfl) fun ac291 hf317 => ?_)
                        refine seq_one (op_val (v := .bool (decide (((d : Int) - 1) ≥ 0))) hf317 rfl rfl rfl rfl rfl rfl (r_move rfl) fun ac292 hf318 => ?_)
                        rcases Bool.eq_false_or_eq_true (decide (((d : Int) - 1) ≥ 0) : Bool) with g240_11 | g240_11
                        · have hf319 := hf318.know 240 (u := .bool true) rfl (congrArg Value.bool g240_11)
                          refine seq_one (op_val (v := .int .i64 ((d : Int) - 1)) hf319 rfl rfl rfl rfl rfl rfl (r_move rfl) fun ac293 hf320 => ?_)
                          refine seq_one (op_val (v := .int .i64 (n : Int)) hf320 rfl rfl rfl rfl rfl rfl (r_move rfl) fun ac294 hf321 => ?_)
                          refine seq_one (op_val (v := .bool (decide (((d : Int) - 1) < (n : Int)))) hf321 rfl rfl rfl rfl rfl rfl (r_lss rfl rfl) fun ac295 hf322 => ?_)
                          refine seq_one (op_val (v := .bool (decide (((d : Int) - 1) < (n : Int)))) hf322 rfl rfl rfl rfl rfl rfl (r_pickT rfl rfl) fun ac296 hf323 => ?_)
                          refine seq_one (op_val (v := .bool ((decide (0 ≤ ((d : Int) - 1) ∧ ((d : Int) - 1) < (n : Int))) != (decide (((d : Int) - 1) < (n : Int))))) hf323 rfl rfl rfl rfl rfl rfl (r_neB ub_4 rfl rfl) fun ac297 hf324 => ?_)
                          refine seq_one (op_val (v := .bool ((decide (0 ≤ ((d : Int) - 1) ∧ ((d : Int) - 1) < (n : Int))) != (decide (((d : Int) - 1) < (n : Int))))) hf324 rfl rfl rfl rfl rfl rfl (r_move rfl) fun ac298 hf325 => ?_)
                          have hf326 := hf325.know 246 (u := .bool false) rfl (congrArg Value.bool (bne_eq_false_iff_eq.2 (decide_eq_decide.2 ⟨fun h => h.2, fun h => ⟨by have := of_decide_eq_true g240_11; omega, h⟩⟩)))
                          refine seq_one (op_val (v := .bool (decide (0 ≤ ((d : Int) - 1) ∧ ((d : Int) - 1) < (n : Int)))) hf326 rfl rfl rfl rfl rfl rfl (r_move rfl) fun ac299 hf327 => ?_)
                          refine seq_one (op_val (v := .bool (decide (0 ≤ ((d : Int) - 1) ∧ ((d : Int) - 1) < (n : Int)))) hf327 rfl rfl rfl rfl rfl rfl (r_move rfl) fun ac300 hf328 => ?_)
                          rcases Bool.eq_false_or_eq_true (decide (0 ≤ ((d : Int) - 1) ∧ ((d : Int) - 1) < (n : Int)) : Bool) with g248_12 | g248_12
                          · have hf329 := hf328.know 248 (u := .bool true) rfl (congrArg Value.bool g248_12)
                            refine seq_one (op_val (v := .int .u64 (getV ys n ((d : Int) - 1))) hf329 rfl rfl rfl rfl rfl rfl (r_move rfl) fun ac301 hf330 => ?_)
                            refine seq_one (op_val (v := .pointer (some ⟨b4, 1, none⟩)) hf330 rfl rfl rfl rfl rfl rfl (r_fieldAddr fi_34_1 rfl rfl) fun ac302 hf331 => ?_)
                            refine seq_one (op_val (v := .slice (some ⟨rc, 0, none⟩) n (n + mm)) hf331 rfl rfl rfl rfl rfl rfl (r_load ag_23 rfl (hI55.at 3 rfl) rfl) fun ac303 hf332 => ?_)
                            refine seq_one (op_val (v := .int .i64 ((d : Int) - 1)) hf332 rfl rfl rfl rfl rfl rfl (r_move rfl) fun ac304 hf333 => ?_)
                            refine seq_one (op_val (v := .pointer (some ⟨rc, (d - 1), none⟩)) hf333 rfl rfl rfl rfl rfl rfl (r_indexAddrS (i := (d - 1)) sl_23 rfl rfl (by have := of_decide_eq_true g248_12; omega) (by have := of_decide_eq_true g248_12; omega) (by rw [Nat.mul_one, Nat.zero_add])) fun ac305 hf334 => ?_)
                            refine seq_one (op_val (v := .int .u64 ((ys ++ List.replicate mm 0).getD (d - 1) 0)) hf334 rfl rfl rfl rfl rfl rfl (r_load ag_24 rfl (hI55.at 2 rfl) (arr_get (Nat.lt_of_lt_of_eq (by have := of_decide_eq_true g248_12; omega) (Eq.symm ((by rw [List.length_append, List.length_replicate, hj.1.len]) : (ys ++ List.replicate mm 0).length = n + mm))))) fun ac306 hf335 => ?_)
                            refine seq_one (op_val (v := .bool ((getV ys n ((d : Int) - 1)) != ((ys ++ List.replicate mm 0).getD (d - 1) 0))) hf335 rfl rfl rfl rfl rfl rfl (r_neq rfl rfl) fun ac307 hf336 => ?_)
                            refine seq_one (op_val (v := .bool ((getV ys n ((d : Int) - 1)) != ((ys ++ List.replicate mm 0).getD (d - 1) 0))) hf336 rfl rfl rfl rfl rfl rfl (r_pickT rfl rfl) fun ac308 hf337 => ?_)
                            refine seq_one (op_val (v := .bool ((getV ys n ((d : Int) - 1)) != ((ys ++ List.replicate mm 0).getD (d - 1) 0))) hf337 rfl rfl rfl rfl rfl rfl (r_pickF rfl rfl) fun ac309 hf338 => ?_)
                            refine seq_one (op_val (v := .bool ((getV ys n ((d : Int) - 1)) != ((ys ++ List.replicate mm 0).getD (d - 1) 0))) hf338 rfl rfl rfl rfl rfl rfl (r_move rfl) fun ac310 hf339 => ?_)
                            have hf340 := hf339.know 258 (u := .bool false) rfl (congrArg Value.bool (getV_in hj.1.len (of_decide_eq_true g248_12)))
                            refine seq_one (op_val (v := .bool (decide (0 ≤ ((d : Int) - 1) ∧ ((d : Int) - 1) < (n : Int)))) hf340 rfl rfl rfl rfl rfl rfl (r_move rfl) fun ac311 hf341 => ?_)
                            refine seq_one (op_val (v := .bool (!(decide (0 ≤ ((d : Int) - 1) ∧ ((d : Int) - 1) < (n : Int))))) hf341 rfl rfl rfl rfl rfl rfl (r_not rfl) fun ac312 hf342 => ?_)
                            refine seq_one (op_val (v := .bool (!(decide (0 ≤ ((d : Int) - 1) ∧ ((d : Int) - 1) < (n : Int))))) hf342 rfl rfl rfl rfl rfl rfl (r_move rfl) fun ac313 hf343 => ?_)
                            have hf344 := hf343.know 261 (u := .bool false) rfl (congrArg Value.bool (by rw [g248_12]; rfl))
                            refine seq_one (op_skip hf344 rfl rfl rfl rfl fun ac314 hf345 => ?_)
                            refine seq_one (op_skip hf345 rfl rfl rfl rfl fun ac315 hf346 => ?_)
                            refine seq_one (op_val (v := .bool false) hf346 rfl rfl rfl rfl rfl rfl (r_pickF rfl rfl) fun ac316 hf347 => ?_)
                            refine seq_one (op_val (v := .bool false) hf347 rfl rfl rfl rfl rfl rfl (r_pickF rfl rfl) fun ac317 hf348 => ?_)
                            refine seq_end ?_
                            clear ac288 hf314 ac289 hf315 ac290 hf316 ac291 hf317 hf318 ac292 hf319 ac293 hf320 ac294 hf321 ac295 hf322 ac296 hf323 ac297 hf324 hf325 ac298 hf326 ac299 hf327 hf328 ac300 hf329 ac301 hf330 ac302 hf331 ac303 hf332 ac304 hf333 ac305 hf334 ac306 hf335 ac307 hf336 ac308 hf337 ac309 hf338 hf339 ac310 hf340 ac311 hf341 ac312 hf342 hf343 ac313 hf344 ac314 hf345 ac315 hf346 ac316 hf347
                            refine then_normal ?_
                            exact ⟨(hf348.cons 0 rfl (hf348.cons 1 rfl (hf348.cons 2 rfl (hf348.cons 3 rfl (hf348.cons 4 rfl (hf348.cons 11 rfl (hf348.cons 12 rfl (hf348.cons 13 rfl (hf348.cons 14 rfl (hf348.cons 15 rfl (hf348.cons 16 rfl (hf348.cons 18 rfl (hf348.cons 24 rfl (hf348.cons 25 rfl (hf348.cons 26 rfl (hf348.cons 27 rfl (hf348.cons 28 rfl (hf348.cons 30 rfl (hf348.cons 31 rfl (hf348.cons 32 rfl (hf348.cons 33 rfl (hf348.cons 34 rfl (hf348.cons 35 rfl (hf348.cons 36 rfl (hf348.cons 37 rfl (hf348.cons 38 rfl (hf348.cons 39 rfl (hf348.cons 40 rfl (hf348.cons 41 rfl (hf348.cons 42 rfl (hf348.cons 43 rfl (hf348.cons 44 rfl (hf348.cons 45 rfl (hf348.cons 46 rfl (hf348.cons 47 rfl (hf348.cons 48 rfl (hf348.cons 49 rfl (hf348.cons 50 rfl (hf348.cons 67 rfl (hf348.cons 68 rfl (hf348.cons 69 rfl (hf348.cons 70 rfl (hf348.cons 71 rfl (hf348.cons 72 rfl (hf348.cons 73 rfl (hf348.cons 74 rfl (hf348.cons 75 rfl (hf348.cons 76 rfl (hf348.cons 77 rfl (hf348.cons 78 rfl (hf348.cons 79 rfl (hf348.cons 80 rfl (hf348.cons 81 rfl (hf348.cons 82 rfl (hf348.cons 83 rfl (hf348.cons 84 rfl (hf348.cons 85 rfl (hf348.cons 86 rfl (hf348.cons 87 rfl (hf348.cons 94 rfl (hf348.cons 95 rfl (hf348.cons 96 rfl (hf348.cons 97 rfl (hf348.cons 98 rfl (hf348.cons 99 rfl (hf348.cons 100 rfl (hf348.cons 101 rfl (hf348.cons 102 rfl (hf348.cons 103 rfl (hf348.cons 104 rfl (hf348.cons 105 rfl (hf348.cons 106 rfl (hf348.cons 107 rfl (hf348.cons 108 rfl (hf348.cons 109 rfl (hf348.cons 110 rfl (hf348.cons 111 rfl (hf348.cons 113 rfl (hf348.cons 114 rfl (hf348.cons 115 rfl (hf348.cons 116 rfl (hf348.cons 117 rfl (hf348.cons 118 rfl (hf348.cons 119 rfl (hf348.cons 120 rfl (hf348.cons 175 rfl (hf348.cons 176 rfl (hf348.cons 177 rfl (hf348.cons 178 rfl (hf348.cons 179 rfl (hf348.cons 180 rfl (hf348.cons 181 rfl (hf348.cons 182 rfl (hf348.cons 183 rfl (hf348.cons 184 rfl (hf348.cons 185 rfl (hf348.cons 186 rfl (hf348.cons 187 rfl (hf348.cons 188 rfl (hf348.cons 213 rfl (hf348.cons 214 rfl (hf348.cons 215 rfl (hf348.cons 216 rfl (hf348.cons 217 rfl (hf348.cons 226 rfl (hf348.cons 227 rfl (hf348.cons 228 rfl (hf348.cons 231 rfl (hf348.cons 232 rfl (hf348.cons 233 rfl (hf348.cons 234 rfl (hf348.cons 235 rfl (hf348.cons 236 rfl (hf348.cons 265 rfl hf348.nil)))))))))))))))))))))))))))))))))))))))))))))))))))))))))))))))))))))))))))))))))))))))))))))))))))))))))))))))))), hI55⟩
                          · have hf349 := hf328.know 248 (u := .bool false) rfl (congrArg Value.bool g248_12)
                            refine seq_one (op_skip hf349 rfl rfl rfl rfl fun ac318 hf350 => ?_)
                            refine seq_one (op_skip hf350 rfl rfl rfl rfl fun ac319 hf351 => ?_)
                            refine seq_one (op_skip hf351 rfl rfl rfl rfl fun ac320 hf352 => ?_)
                            refine seq_one (op_skip hf352 rfl rfl rfl rfl fun ac321 hf353 => ?_)
                            refine seq_one (op_skip hf353 rfl rfl rfl rfl fun ac322 hf354 => ?_)
                            refine seq_one (op_skip hf354 rfl rfl rfl rfl fun ac323 hf355 => ?_)
                            refine seq_one (op_skip hf355 rfl rfl rfl rfl fun ac324 hf356 => ?_)
                            refine seq_one (op_val (v := .bool false) hf356 rfl rfl rfl rfl rfl rfl (r_pickF rfl rfl) fun ac325 hf357 => ?_)
                            refine seq_one (op_val (v := .bool false) hf357 rfl rfl rfl rfl rfl rfl (r_pickF rfl rfl) fun ac326 hf358 => ?_)
                            refine seq_one (op_val (v := .bool false) hf358 rfl rfl rfl rfl rfl rfl (r_move rfl) fun ac327 hf359 => ?_)
                            refine seq_one (op_val (v := .bool (decide (0 ≤ ((d : Int) - 1) ∧ ((d : Int) - 1) < (n : Int)))) hf359 rfl rfl rfl rfl rfl rfl (r_move rfl) fun ac328 hf360 => ?_)
                            refine seq_one (op_val (v := .bool (!(decide (0 ≤ ((d : Int) - 1) ∧ ((d : Int) - 1) < (n : Int))))) hf360 rfl rfl rfl rfl rfl rfl (r_not rfl) fun ac329 hf361 => ?_)
                            refine seq_one (op_val (v := .bool (!(decide (0 ≤ ((d : Int) - 1) ∧ ((d : Int) - 1) < (n : Int))))) hf361 rfl rfl rfl rfl rfl rfl (r_move rfl) fun ac330 hf362 => ?_)
                            have hf363 := hf362.know 261 (u := .bool true) rfl (congrArg Value.bool (by rw [g248_12]; rfl))
                            refine seq_one (op_val (v := .int .u64 (getV ys n ((d : Int) - 1))) hf363 rfl rfl rfl rfl rfl rfl (r_move rfl) fun ac331 hf364 => ?_)
                            refine seq_one (op_val (v := .bool ((getV ys n ((d : Int) - 1)) != 0)) hf364 rfl rfl rfl rfl rfl rfl (r_neq rfl rfl) fun ac332 hf365 => ?_)
                            refine seq_one (op_val (v := .bool ((getV ys n ((d : Int) - 1)) != 0)) hf365 rfl rfl rfl rfl rfl rfl (r_pickT rfl rfl) fun ac333 hf366 => ?_)
                            refine seq_one (op_val (v := .bool ((getV ys n ((d : Int) - 1)) != 0)) hf366 rfl rfl rfl rfl rfl rfl (r_pickF rfl rfl) fun ac334 hf367 => ?_)
                            refine seq_end ?_
                            clear ac288 hf314 ac289 hf315 ac290 hf316 ac291 hf317 hf318 ac292 hf319 ac293 hf320 ac294 hf321 ac295 hf322 ac296 hf323 ac297 hf324 hf325 ac298 hf326 ac299 hf327 hf328 ac300 hf349 ac318 hf350 ac319 hf351 ac320 hf352 ac321 hf353 ac322 hf354 ac323 hf355 ac324 hf356 ac325 hf357 ac326 hf358 ac327 hf359 ac328 hf360 ac329 hf361 hf362 ac330 hf363 ac331 hf364 ac332 hf365 ac333 hf366
                            refine then_normal ?_
                            have hf368 := hf367.know 265 (u := .bool false) rfl (congrArg Value.bool (getV_out (of_decide_eq_false g248_12)))
                            clear hf367
                            exact ⟨(hf368.cons 0 rfl (hf368.cons 1 rfl (hf368.cons 2 rfl (hf368.cons 3 rfl (hf368.cons 4 rfl (hf368.cons 11 rfl (hf368.cons 12 rfl (hf368.cons 13 rfl (hf368.cons 14 rfl (hf368.cons 15 rfl (hf368.cons 16 rfl (hf368.cons 18 rfl (hf368.cons 24 rfl (hf368.cons 25 rfl (hf368.cons 26 rfl (hf368.cons 27 rfl (hf368.cons 28 rfl (hf368.cons 30 rfl (hf368.cons 31 rfl (hf368.cons 32 rfl (hf368.cons 33 rfl (hf368.cons 34 rfl (hf368.cons 35 rfl (hf368.cons 36 rfl (hf368.cons 37 rfl (hf368.cons 38 rfl (hf368.cons 39 rfl (hf368.cons 40 rfl (hf368.cons 41 rfl (hf368.cons 42 rfl (hf368.cons 43 rfl (hf368.cons 44 rfl (hf368.cons 45 rfl (hf368.cons 46 rfl (hf368.cons 47 rfl (hf368.cons 48 rfl (hf368.cons 49 rfl (hf368.cons 50 rfl (hf368.cons 67 rfl (hf368.cons 68 rfl (hf368.cons 69 rfl (hf368.cons 70 rfl (hf368.cons 71 rfl (hf368.cons 72 rfl (hf368.cons 73 rfl (hf368.cons 74 rfl (hf368.cons 75 rfl (hf368.cons 76 rfl (hf368.cons 77 rfl (hf368.cons 78 rfl (hf368.cons 79 rfl (hf368.cons 80 rfl (hf368.cons 81 rfl (hf368.cons 82 rfl (hf368.cons 83 rfl (hf368.cons 84 rfl (hf368.cons 85 rfl (hf368.cons 86 rfl (hf368.cons 87 rfl (hf368.cons 94 rfl (hf368.cons 95 rfl (hf368.cons 96 rfl (hf368.cons 97 rfl (hf368.cons 98 rfl (hf368.cons 99 rfl (hf368.cons 100 rfl (hf368.cons 101 rfl (hf368.cons 102 rfl (hf368.cons 103 rfl (hf368.cons 104 rfl (hf368.cons 105 rfl (hf368.cons 106 rfl (hf368.cons 107 rfl (hf368.cons 108 rfl (hf368.cons 109 rfl (hf368.cons 110 rfl (hf368.cons 111 rfl (hf368.cons 113 rfl (hf368.cons 114 rfl (hf368.cons 115 rfl (hf368.cons 116 rfl (hf368.cons 117 rfl (hf368.cons 118 rfl (hf368.cons 119 rfl (hf368.cons 120 rfl (hf368.cons 175 rfl (hf368.cons 176 rfl (hf368.cons 177 rfl (hf368.cons 178 rfl (hf368.cons 179 rfl (hf368.cons 180 rfl (hf368.cons 181 rfl (hf368.cons 182 rfl (hf368.cons 183 rfl (hf368.cons 184 rfl (hf368.cons 185 rfl (hf368.cons 186 rfl (hf368.cons 187 rfl (hf368.cons 188 rfl (hf368.cons 213 rfl (hf368.cons 214 rfl (hf368.cons 215 rfl (hf368.cons 216 rfl (hf368.cons 217 rfl (hf368.cons 226 rfl (hf368.cons 227 rfl (hf368.cons 228 rfl (hf368.cons 231 rfl (hf368.cons 232 rfl (hf368.cons 233 rfl (hf368.cons 234 rfl (hf368.cons 235 rfl (hf368.cons 236 rfl (hf368.cons 265 rfl hf368.nil)))))))))))))))))))))))))))))))))))))))))))))))))))))))))))))))))))))))))))))))))))))))))))))))))))))))))))))))))), hI55⟩
                        · have hf369 := hf318.know 240 (u := .bool false) rfl (congrArg Value.bool g240_11)
                          refine seq_one (op_skip hf369 rfl rfl rfl rfl fun ac335 hf370 => ?_)
                          refine seq_one (op_skip hf370 rfl rfl rfl rfl fun ac336 hf371 => ?_)
                          refine seq_one (op_skip hf371 rfl rfl rfl rfl fun ac337 hf372 => ?_)
                          refine seq_one (op_val (v := .bool false) hf372 rfl rfl rfl rfl rfl rfl (r_pickF rfl rfl) fun ac338 hf373 => ?_)
                          refine seq_one (op_val (v := .bool ((decide (0 ≤ ((d : Int) - 1) ∧ ((d : Int) - 1) < (n : Int))) != false)) hf373 rfl rfl rfl rfl rfl rfl (r_neB ub_4 rfl rfl) fun ac339 hf374 => ?_)
                          refine seq_one (op_val (v := .bool ((decide (0 ≤ ((d : Int) - 1) ∧ ((d : Int) - 1) < (n : Int))) != false)) hf374 rfl rfl rfl rfl rfl rfl (r_move rfl) fun ac340 hf375 => ?_)
                          have hf376 := hf375.know 246 (u := .bool false) rfl (congrArg Value.bool (bne_eq_false_iff_eq.2 (decide_eq_false (by have := of_decide_eq_false g240_11; omega))))
                          refine seq_one (op_val (v := .bool (decide (0 ≤ ((d : Int) - 1) ∧ ((d : Int) - 1) < (n : Int)))) hf376 rfl rfl rfl rfl rfl rfl (r_move rfl) fun ac341 hf377 => ?_)
                          refine seq_one (op_val (v := .bool (decide (0 ≤ ((d : Int) - 1) ∧ ((d : Int) - 1) < (n : Int)))) hf377 rfl rfl rfl rfl rfl rfl (r_move rfl) fun ac342 hf378 => ?_)
                          rcases Bool.eq_false_or_eq_true (decide (0 ≤ ((d : Int) - 1) ∧ ((d : Int) - 1) < (n : Int)) : Bool) with g248_13 | g248_13
                          · have hf379 := hf378.know 248 (u := .bool true) rfl (congrArg Value.bool g248_13)
                            refine seq_one (op_val (v := .int .u64 (getV ys n ((d : Int) - 1))) hf379 rfl rfl rfl rfl rfl rfl (r_move rfl) fun ac343 hf380 => ?_)
                            refine seq_one (op_val (v := .pointer (some ⟨b4, 1, none⟩)) hf380 rfl rfl rfl rfl rfl rfl (r_fieldAddr fi_34_1 rfl rfl) fun ac344 hf381 => ?_)
                            refine seq_one (op_val (v := .slice (some ⟨rc, 0, none⟩) n (n + mm)) hf381 rfl rfl rfl rfl rfl rfl (r_load ag_23 rfl (hI55.at 3 rfl) rfl) fun ac345 hf382 => ?_)
                            refine seq_one (op_val (v := .int .i64 ((d : Int) - 1)) hf382 rfl rfl rfl rfl rfl rfl (r_move rfl) fun ac346 hf383 => ?_)
                            refine seq_one (op_val (v := .pointer (some ⟨rc, (d - 1), none⟩)) hf383 rfl rfl rfl rfl rfl rfl (r_indexAddrS (i := (d - 1)) sl_23 rfl rfl (by have := of_decide_eq_true g248_13; omega) (by have := of_decide_eq_true g248_13; omega) (by rw [Nat.mul_one, Nat.zero_add])) fun ac347 hf384 => ?_)
                            refine seq_one (op_val (v := .int .u64 ((ys ++ List.replicate mm 0).getD (d - 1) 0)) hf384 rfl rfl rfl rfl rfl rfl (r_load ag_24 rfl (hI55.at 2 rfl) (arr_get (Nat.lt_of_lt_of_eq (by have := of_decide_eq_true g248_13; omega) (Eq.symm ((by rw [List.length_append, List.length_replicate, hj.1.len]) : (ys ++ List.replicate mm 0).length = n + mm))))) fun ac348 hf385 => ?_)
                            refine seq_one (op_val (v := .bool ((getV ys n ((d : Int) - 1)) != ((ys ++ List.replicate mm 0).getD (d - 1) 0))) hf385 rfl rfl rfl rfl rfl rfl (r_neq rfl rfl) fun ac349 hf386 => ?_)
                            refine seq_one (op_val (v := .bool ((getV ys n ((d : Int) - 1)) != ((ys ++ List.replicate mm 0).getD (d - 1) 0))) hf386 rfl rfl rfl rfl rfl rfl (r_pickT rfl rfl) fun ac350 hf387 => ?_)
                            refine seq_one (op_val (v := .bool ((getV ys n ((d : Int) - 1)) != ((ys ++ List.replicate mm 0).getD (d - 1) 0))) hf387 rfl rfl rfl rfl rfl rfl (r_pickF rfl rfl) fun ac351 hf388 => ?_)
                            refine seq_one (op_val (v := .bool ((getV ys n ((d : Int) - 1)) != ((ys ++ List.replicate mm 0).getD (d - 1) 0))) hf388 rfl rfl rfl rfl rfl rfl (r_move rfl) fun ac352 hf389 => ?_)
                            have hf390 := hf389.know 258 (u := .bool false) rfl (congrArg Value.bool (getV_in hj.1.len (of_decide_eq_true g248_13)))
                            refine seq_one (op_val (v := .bool (decide (0 ≤ ((d : Int) - 1) ∧ ((d : Int) - 1) < (n : Int)))) hf390 rfl rfl rfl rfl rfl rfl (r_move rfl) fun ac353 hf391 => ?_)
                            refine seq_one (op_val (v := .bool (!(decide (0 ≤ ((d : Int) - 1) ∧ ((d : Int) - 1) < (n : Int))))) hf391 rfl rfl rfl rfl rfl rfl (r_not rfl) fun ac354 hf392 => ?_)
                            refine seq_one (op_val (v := .bool (!(decide (0 ≤ ((d : Int) - 1) ∧ ((d : Int) - 1) < (n : Int))))) hf392 rfl rfl rfl rfl rfl rfl (r_move rfl) fun ac355 hf393 => ?_)
                            have hf394 := hf393.know 261 (u := .bool false) rfl (congrArg Value.bool (by rw [g248_13]; rfl))
                            refine seq_one (op_skip hf394 rfl rfl rfl rfl fun ac356 hf395 => ?_)
                            refine seq_one (op_skip hf395 rfl rfl rfl rfl fun ac357 hf396 => ?_)
                            refine seq_one (op_val (v := .bool false) hf396 rfl rfl rfl rfl rfl rfl (r_pickF rfl rfl) fun ac358 hf397 => ?_)
                            refine seq_one (op_val (v := .bool false) hf397 rfl rfl rfl rfl rfl rfl (r_pickF rfl rfl) fun ac359 hf398 => ?_)
                            refine seq_end ?_
                            clear ac288 hf314 ac289 hf315 ac290 hf316 ac291 hf317 hf318 ac292 hf369 ac335 hf370 ac336 hf371 ac337 hf372 ac338 hf373 ac339 hf374 hf375 ac340 hf376 ac341 hf377 hf378 ac342 hf379 ac343 hf380 ac344 hf381 ac345 hf382 ac346 hf383 ac347 hf384 ac348 hf385 ac349 hf386 ac350 hf387 ac351 hf388 hf389 ac352 hf390 ac353 hf391 ac354 hf392 hf393 ac355 hf394 ac356 hf395 ac357 hf396 ac358 hf397
                            refine then_normal ?_
                            exact ⟨(hf398.cons 0 rfl (hf398.cons 1 rfl (hf398.cons 2 rfl (hf398.cons 3 rfl (hf398.cons 4 rfl (hf398.cons 11 rfl (hf398.cons 12 rfl (hf398.cons 13 rfl (hf398.cons 14 rfl (hf398.cons 15 rfl (hf398.cons 16 rfl (hf398.cons 18 rfl (hf398.cons 24 rfl (hf398.cons 25 rfl (hf398.cons 26 rfl (hf398.cons 27 rfl (hf398.cons 28 rfl (hf398.cons 30 rfl (hf398.cons 31 rfl (hf398.cons 32 rfl (hf398.cons 33 rfl (hf398.cons 34 rfl (hf398.cons 35 rfl (hf398.cons 36 rfl (hf398.cons 37 rfl (hf398.cons 38 rfl (hf398.cons 39 rfl (hf398.cons 40 rfl (hf398.cons 41 rfl (hf398.cons 42 rfl (hf398.cons 43 rfl (hf398.cons 44 rfl (hf398.cons 45 rfl (hf398.cons 46 rfl (hf398.cons 47 rfl (hf398.cons 48 rfl (hf398.cons 49 rfl (hf398.cons 50 rfl (hf398.cons 67 rfl (hf398.cons 68 rfl (hf398.cons 69 rfl (hf398.cons 70 rfl (hf398.cons 71 rfl (hf398.cons 72 rfl (hf398.cons 73 rfl (hf398.cons 74 rfl (hf398.cons 75 rfl (hf398.cons 76 rfl (hf398.cons 77 rfl (hf398.cons 78 rfl (hf398.cons 79 rfl (hf398.cons 80 rfl (hf398.cons 81 rfl (hf398.cons 82 rfl (hf398.cons 83 rfl (hf398.cons 84 rfl (hf398.cons 85 rfl (hf398.cons 86 rfl (hf398.cons 87 rfl (hf398.cons 94 rfl (hf398.cons 95 rfl (hf398.cons 96 rfl (hf398.cons 97 rfl (hf398.cons 98 rfl (hf398.cons 99 rfl (hf398.cons 100 rfl (hf398.cons 101 rfl (hf398.cons 102 rfl (hf398.cons 103 rfl (hf398.cons 104 rfl (hf398.cons 105 rfl (hf398.cons 106 rfl (hf398.cons 107 rfl (hf398.cons 108 rfl (hf398.cons 109 rfl (hf398.cons 110 rfl (hf398.cons 111 rfl (hf398.cons 113 rfl (hf398.cons 114 rfl (hf398.cons 115 rfl (hf398.cons 116 rfl (hf398.cons 117 rfl (hf398.cons 118 rfl (hf398.cons 119 rfl (hf398.cons 120 rfl (hf398.cons 175 rfl (hf398.cons 176 rfl (hf398.cons 177 rfl (hf398.cons 178 rfl (hf398.cons 179 rfl (hf398.cons 180 rfl (hf398.cons 181 rfl (hf398.cons 182 rfl (hf398.cons 183 rfl (hf398.cons 184 rfl (hf398.cons 185 rfl (hf398.cons 186 rfl (hf398.cons 187 rfl (hf398.cons 188 rfl (hf398.cons 213 rfl (hf398.cons 214 rfl (hf398.cons 215 rfl (hf398.cons 216 rfl (hf398.cons 217 rfl (hf398.cons 226 rfl (hf398.cons 227 rfl (hf398.cons 228 rfl (hf398.cons 231 rfl (hf398.cons 232 rfl (hf398.cons 233 rfl (hf398.cons 234 rfl (hf398.cons 235 rfl (hf398.cons 236 rfl (hf398.cons 265 rfl hf398.nil)))))))))))))))))))))))))))))))))))))))))))))))))))))))))))))))))))))))))))))))))))))))))))))))))))))))))))))))))), hI55⟩
                          · have hf399 := hf378.know 248 (u := .bool false) rfl (congrArg Value.bool g248_13)
                            refine seq_one (op_skip hf399 rfl rfl rfl rfl fun ac360 hf400 => ?_)
                            refine seq_one (op_skip hf400 rfl rfl rfl rfl fun ac361 hf401 => ?_)
                            refine seq_one (op_skip hf401 rfl rfl rfl rfl fun ac362 hf402 => ?_)
                            refine seq_one (op_skip hf402 rfl rfl rfl rfl fun ac363 hf403 => ?_)
                            refine seq_one (op_skip hf403 rfl rfl rfl rfl fun ac364 hf404 => ?_)
                            refine seq_one (op_skip hf404 rfl rfl rfl rfl fun ac365 hf405 => ?_)
                            refine seq_one (op_skip hf405 rfl rfl rfl rfl fun ac366 hf406 => ?_)
                            refine seq_one (op_val (v := .bool false) hf406 rfl rfl rfl rfl rfl rfl (r_pickF rfl rfl) fun ac367 hf407 => ?_)
                            refine seq_one (op_val (v := .bool false) hf407 rfl rfl rfl rfl rfl rfl (r_pickF rfl rfl) fun ac368 hf408 => ?_)
                            refine seq_one (op_val (v := .bool false) hf408 rfl rfl rfl rfl rfl rfl (r_move rfl) fun ac369 hf409 => ?_)
                            refine seq_one (op_val (v := .bool (decide (0 ≤ ((d : Int) - 1) ∧ ((d : Int) - 1) < (n : Int)))) hf409 rfl rfl rfl rfl rfl rfl (r_move rfl) fun ac370 hf410 => ?_)
                            refine seq_one (op_val (v := .bool (!(decide (0 ≤ ((d : Int) - 1) ∧ ((d : Int) - 1) < (n : Int))))) hf410 rfl rfl rfl rfl rfl rfl (r_not rfl) fun ac371 hf411 => ?_)
                            refine seq_one (op_val (v := .bool (!(decide (0 ≤ ((d : Int) - 1) ∧ ((d : Int) - 1) < (n : Int))))) hf411 rfl rfl rfl rfl rfl rfl (r_move rfl) fun ac372 hf412 => ?_)
                            have hf413 := hf412.know 261 (u := .bool true) rfl (congrArg Value.bool (by rw [g248_13]; rfl))
                            refine seq_one (op_val (v := .int .u64 (getV ys n ((d : Int) - 1))) hf413 rfl rfl rfl rfl rfl rfl (r_move rfl) fun ac373 hf414 => ?_)
                            refine seq_one (op_val (v := .bool ((getV ys n ((d : Int) - 1)) != 0)) hf414 rfl rfl rfl rfl rfl rfl (r_neq rfl rfl) fun ac374 hf415 => ?_)
                            refine seq_one (op_val (v := .bool ((getV ys n ((d : Int) - 1)) != 0)) hf415 rfl rfl rfl rfl rfl rfl (r_pickT rfl rfl) fun ac375 hf416 => ?_)
                            refine seq_one (op_val (v := .bool ((getV ys n ((d : Int) - 1)) != 0)) hf416 rfl rfl rfl rfl rfl rfl (r_pickF rfl rfl) fun ac376 hf417 => ?_)
                            refine seq_end ?_
                            clear ac288 hf314 ac289 hf315 ac290 hf316 ac291 hf317 hf318 ac292 hf369 ac335 hf370 ac336 hf371 ac337 hf372 ac338 hf373 ac339 hf374 hf375 ac340 hf376 ac341 hf377 hf378 ac342 hf399 ac360 hf400 ac361 hf401 ac362 hf402 ac363 hf403 ac364 hf404 ac365 hf405 ac366 hf406 ac367 hf407 ac368 hf408 ac369 hf409 ac370 hf410 ac371 hf411 hf412 ac372 hf413 ac373 hf414 ac374 hf415 ac375 hf416
                            refine then_normal ?_
                            have hf418 := hf417.know 265 (u := .bool false) rfl (congrArg Value.bool (getV_out (of_decide_eq_false g248_13)))
                            clear hf417
                            exact ⟨(hf418.cons 0 rfl (hf418.cons 1 rfl (hf418.cons 2 rfl (hf418.cons 3 rfl (hf418.cons 4 rfl (hf418.cons 11 rfl (hf418.cons 12 rfl (hf418.cons 13 rfl (hf418.cons 14 rfl (hf418.cons 15 rfl (hf418.cons 16 rfl (hf418.cons 18 rfl (hf418.cons 24 rfl (hf418.cons 25 rfl (hf418.cons 26 rfl (hf418.cons 27 rfl (hf418.cons 28 rfl (hf418.cons 30 rfl (hf418.cons 31 rfl (hf418.cons 32 rfl (hf418.cons 33 rfl (hf418.cons 34 rfl (hf418.cons 35 rfl (hf418.cons 36 rfl (hf418.cons 37 rfl (hf418.cons 38 rfl (hf418.cons 39 rfl (hf418.cons 40 rfl (hf418.cons 41 rfl (hf418.cons 42 rfl (hf418.cons 43 rfl (hf418.cons 44 rfl (hf418.cons 45 rfl (hf418.cons 46 rfl (hf418.cons 47 rfl (hf418.cons 48 rfl (hf418.cons 49 rfl (hf418.cons 50 rfl (hf418.cons 67 rfl (hf418.cons 68 rfl (hf418.cons 69 rfl (hf418.cons 70 rfl (hf418.cons 71 rfl (hf418.cons 72 rfl (hf418.cons 73 rfl (hf418.cons 74 rfl (hf418.cons 75 rfl (hf418.cons 76 rfl (hf418.cons 77 rfl (hf418.cons 78 rfl (hf418.cons 79 rfl (hf418.cons 80 rfl (hf418.cons 81 rfl (hf418.cons 82 rfl (hf418.cons 83 rfl (hf418.cons 84 rfl (hf418.cons 85 rfl (hf418.cons 86 rfl (hf418.cons 87 rfl (hf418.cons 94 rfl (hf418.cons 95 rfl (hf418.cons 96 rfl (hf418.cons 97 rfl (hf418.cons 98 rfl (hf418.cons 99 rfl (hf418.cons 100 rfl (hf418.cons 101 rfl (hf418.cons 102 rfl (hf418.cons 103 rfl (hf418.cons 104 rfl (hf418.cons 105 rfl (hf418.cons 106 rfl (hf418.cons 107 rfl (hf418.cons 108 rfl (hf418.cons 109 rfl (hf418.cons 110 rfl (hf418.cons 111 rfl (hf418.cons 113 rfl (hf418.cons 114 rfl (hf418.cons 115 rfl (hf418.cons 116 rfl (hf418.cons 117 rfl (hf418.cons 118 rfl (hf418.cons 119 rfl (hf418.cons 120 rfl (hf418.cons 175 rfl (hf418.cons 176 rfl (hf418.cons 177 rfl (hf418.cons 178 rfl (hf418.cons 179 rfl (hf418.cons 180 rfl (hf418.cons 181 rfl (hf418.cons 182 rfl (hf418.cons 183 rfl (hf418.cons 184 rfl (hf418.cons 185 rfl (hf418.cons 186 rfl (hf418.cons 187 rfl (hf418.cons 188 rfl (hf418.cons 213 rfl (hf418.cons 214 rfl (hf418.cons 215 rfl (hf418.cons 216 rfl (hf418.cons 217 rfl (hf418.cons 226 rfl (hf418.cons 227 rfl (hf418.cons 228 rfl (hf418.cons 231 rfl (hf418.cons 232 rfl (hf418.cons 233 rfl (hf418.cons 234 rfl (hf418.cons 235 rfl (hf418.cons 236 rfl (hf418.cons 265 rfl hf418.nil)))))))))))))))))))))))))))))))))))))))))))))))))))))))))))))))))))))))))))))))))))))))))))))))))))))))))))))))))), hI55⟩
                      ·
                        intro ac377 wd41 hf419 hI56
                        clear ac288 wd40 hf314 hI55
                        refine then_normal ?_
                        refine code_if_false hf419 rfl ?_
                        refine wp_skip ?_
                        refine block_normal ?_
                        refine then_normal ?_
                        refine seq_start (l := [0, 1, 2]) rfl ?_
                        refine seq_one (op_val (v := .int .i64 ((d : Int) - 1)) hf419 rfl rfl rfl rfl rfl rfl (r_move rfl) fun ac378 hf420 => ?_)
                        refine seq_one (op_val (v := .int .i64 (((d + 1 : Nat) : Int) - 1)) hf420 rfl rfl rfl rfl rfl rfl (r_add (c := (((d + 1 : Nat) : Int) - 1)) rfl rfl (by rw [show ((d : Int) - 1) + 1 = ((d + 1 : Nat) : Int) - 1 by omega]; exact wrap_i64 (by omega) (by have := hx9; omega))) fun ac379 hf421 => ?_)
                        refine seq_one (op_val (v := .int .i64 (((d + 1 : Nat) : Int) - 1)) hf421 rfl rfl rfl rfl rfl rfl (r_assign rfl) fun ac380 hf422 => ?_)
                        refine seq_end ?_
                        clear ac377 hf419 ac378 hf420 ac379 hf421
                        refine then_normal ?_
                        exact ⟨d + 1, (hf422.cons 0 rfl (hf422.cons 1 rfl (hf422.cons 2 rfl (hf422.cons 3 rfl (hf422.cons 4 rfl (hf422.cons 11 rfl (hf422.cons 12 rfl (hf422.cons 13 rfl (hf422.cons 14 rfl (hf422.cons 15 rfl (hf422.cons 16 rfl (hf422.cons 18 rfl (hf422.cons 24 rfl (hf422.cons 25 rfl (hf422.cons 26 rfl (hf422.cons 27 rfl (hf422.cons 28 rfl (hf422.cons 33 rfl (hf422.cons 34 rfl (hf422.cons 35 rfl (hf422.cons 36 rfl (hf422.cons 37 rfl (hf422.cons 38 rfl (hf422.cons 39 rfl (hf422.cons 40 rfl (hf422.cons 41 rfl (hf422.cons 42 rfl (hf422.cons 43 rfl (hf422.cons 44 rfl (hf422.cons 45 rfl (hf422.cons 46 rfl (hf422.cons 47 rfl (hf422.cons 48 rfl (hf422.cons 49 rfl (hf422.cons 50 rfl (hf422.cons 67 rfl (hf422.cons 68 rfl (hf422.cons 69 rfl (hf422.cons 70 rfl (hf422.cons 71 rfl (hf422.cons 72 rfl (hf422.cons 73 rfl (hf422.cons 74 rfl (hf422.cons 75 rfl (hf422.cons 76 rfl (hf422.cons 77 rfl (hf422.cons 78 rfl (hf422.cons 79 rfl (hf422.cons 80 rfl (hf422.cons 81 rfl (hf422.cons 82 rfl (hf422.cons 83 rfl (hf422.cons 84 rfl (hf422.cons 85 rfl (hf422.cons 86 rfl (hf422.cons 87 rfl (hf422.cons 94 rfl (hf422.cons 95 rfl (hf422.cons 96 rfl (hf422.cons 97 rfl (hf422.cons 98 rfl (hf422.cons 99 rfl (hf422.cons 100 rfl (hf422.cons 101 rfl (hf422.cons 102 rfl (hf422.cons 103 rfl (hf422.cons 104 rfl (hf422.cons 105 rfl (hf422.cons 106 rfl (hf422.cons 107 rfl (hf422.cons 108 rfl (hf422.cons 109 rfl (hf422.cons 110 rfl (hf422.cons 111 rfl (hf422.cons 113 rfl (hf422.cons 114 rfl (hf422.cons 115 rfl (hf422.cons 116 rfl (hf422.cons 117 rfl (hf422.cons 118 rfl (hf422.cons 119 rfl (hf422.cons 120 rfl (hf422.cons 175 rfl (hf422.cons 176 rfl (hf422.cons 177 rfl (hf422.cons 178 rfl (hf422.cons 179 rfl (hf422.cons 180 rfl (hf422.cons 181 rfl (hf422.cons 182 rfl (hf422.cons 183 rfl (hf422.cons 184 rfl (hf422.cons 185 rfl (hf422.cons 186 rfl (hf422.cons 187 rfl (hf422.cons 188 rfl (hf422.cons 213 rfl (hf422.cons 214 rfl (hf422.cons 215 rfl (hf422.cons 216 rfl (hf422.cons 217 rfl (hf422.cons 30 rfl hf422.nil)))))))))))))))))))))))))))))))))))))))))))))))))))))))))))))))))))))))))))))))))))))))))))))))))))))), ⟨hI56, (by have := of_decide_eq_true c228_10; omega)⟩, (by have := of_decide_eq_true c228_10; show n + 2 - (d + 1) < n + 2 - d; omega)⟩
                    · have hf423 := hf305.know 228 (u := .bool false) rfl (congrArg Value.bool c228_10)
                      refine wp_exit ?_
                      refine then_exit ?_
                      refine then_exit ?_
                      refine block_here ?_
                      refine block_normal ?_
                      refine then_normal ?_
                      refine seq_start (l := [0, 1]) rfl ?_
                      refine seq_one (op_val (v := .int .i64 ((i + 1 : Nat) : Int)) hf423 rfl rfl rfl rfl rfl rfl (r_add (c := ((i + 1 : Nat) : Int)) rfl rfl (wrap_i64 (by omega) (by have := of_decide_eq_true c116_5; omega))) fun ac381 hf424 => ?_)
                      refine seq_one (op_val (v := .int .i64 ((i + 1 : Nat) : Int)) hf424 rfl rfl rfl rfl rfl rfl (r_move rfl) fun ac382 hf425 => ?_)
                      refine seq_end ?_
                      clear hf305 ac280 hf423 ac381 hf424
                      refine then_normal ?_
                      exact ⟨(i + 1, ys, rc, mm), (hf425.cons 0 rfl (hf425.cons 1 rfl (hf425.cons 2 rfl (hf425.cons 3 rfl (hf425.cons 4 rfl (hf425.cons 11 rfl (hf425.cons 12 rfl (hf425.cons 13 rfl (hf425.cons 14 rfl (hf425.cons 15 rfl (hf425.cons 16 rfl (hf425.cons 33 rfl (hf425.cons 34 rfl (hf425.cons 35 rfl (hf425.cons 36 rfl (hf425.cons 37 rfl (hf425.cons 38 rfl (hf425.cons 39 rfl (hf425.cons 40 rfl (hf425.cons 41 rfl (hf425.cons 42 rfl (hf425.cons 43 rfl (hf425.cons 44 rfl (hf425.cons 45 rfl (hf425.cons 46 rfl (hf425.cons 47 rfl (hf425.cons 48 rfl (hf425.cons 49 rfl (hf425.cons 50 rfl (hf425.cons 67 rfl (hf425.cons 68 rfl (hf425.cons 69 rfl (hf425.cons 70 rfl (hf425.cons 71 rfl (hf425.cons 72 rfl (hf425.cons 73 rfl (hf425.cons 74 rfl (hf425.cons 75 rfl (hf425.cons 76 rfl (hf425.cons 77 rfl (hf425.cons 78 rfl (hf425.cons 79 rfl (hf425.cons 80 rfl (hf425.cons 81 rfl (hf425.cons 82 rfl (hf425.cons 83 rfl (hf425.cons 84 rfl (hf425.cons 85 rfl (hf425.cons 86 rfl (hf425.cons 87 rfl (hf425.cons 94 rfl (hf425.cons 95 rfl (hf425.cons 96 rfl (hf425.cons 97 rfl (hf425.cons 98 rfl (hf425.cons 99 rfl (hf425.cons 100 rfl (hf425.cons 101 rfl (hf425.cons 102 rfl (hf425.cons 103 rfl (hf425.cons 104 rfl (hf425.cons 105 rfl (hf425.cons 106 rfl (hf425.cons 107 rfl (hf425.cons 108 rfl (hf425.cons 109 rfl (hf425.cons 110 rfl (hf425.cons 111 rfl (hf425.cons 113 rfl (hf425.cons 114 rfl (hf425.cons 115 rfl hf425.nil))))))))))))))))))))))))))))))))))))))))))))))))))))))))))))))))))))))), ⟨(Inv.drop (A := [(b1, arr .u64 ys, 24), (b2, #[.slice (some ⟨b1, 0, none⟩) n n, .int .i64 (k : Int)], 58), (rc, arr .u64 (ys ++ List.replicate mm 0), 24), (b4, #[.int .i64 (k : Int), .slice (some ⟨rc, 0, none⟩) n (n + mm)], 34)]) (B := ([(b6, #[.int .u8 kd5, .int .i64 ii5, .int .u64 nn5], 39), (b9, arr .u64 ts3, 24)] ++ (Sq7 ++ Sq8))) hI54 (fk_app (fresh_keys (ks := [b6, b9]) rfl (fk_cons hb6 (fk_cons hb9 fk_nil))) (fk_app hyq7 hyq8))), ⟨by have := of_decide_eq_true c116_5; omega, hj.1, hj.2⟩⟩, (by have := of_decide_eq_true c116_5; show L - (i + 1) < L - i; omega)⟩
            · have hf426 := hf129.know 116 (u := .bool false) rfl (congrArg Value.bool c116_5)
              refine wp_exit ?_
              refine then_exit ?_
              refine then_exit ?_
              refine block_here ?_
              refine then_normal ?_
              refine code_seq ?_
              refine seq_start (l := [0, 1]) rfl ?_
              refine seq_one (op_pure hf426 rfl rfl rfl rfl ca_13 awake_pur hI14 fun ac383 wd42 hI57 hf427 => ?_)
              refine seq_one (op_val (v := .bool true) hf427 rfl rfl rfl rfl rfl rfl (r_assign rfl) fun ac384 hf428 => ?_)
              refine seq_end ?_
              clear hf129 ac118 wd11 hI14 hf426 ac383 hf427
              refine then_normal ?_
              refine wp_ret ?_
              refine post1 rfl hf428 rfl ⟨?_, hI57.done (fresh_keys (ks := [b1, b2, rb, b4]) rfl (fk_cons hb1 (fk_cons hb2 (fk_cons hrb (fk_cons hb4 fk_nil)))))⟩
              rfl
    ·
      refine seq_one (op_pure hf53 rfl rfl rfl rfl ca_11 (new_bad hbad) hI4 fun ac385 wd43 hI58 hf429 => ?_)
      refine seq_one (op_val (v := .tuple #[.pointer none, .int .i64 2]) hf429 rfl rfl rfl rfl rfl rfl (r_move rfl) fun ac386 hf430 => ?_)
      refine seq_one (op_val (v := .pointer none) hf430 rfl rfl rfl rfl rfl rfl (r_extract rfl rfl) fun ac387 hf431 => ?_)
      refine seq_one (op_val (v := .int .i64 2) hf431 rfl rfl rfl rfl rfl rfl (r_extract rfl rfl) fun ac388 hf432 => ?_)
      refine seq_one (op_val (v := .pointer none) hf432 rfl rfl rfl rfl rfl rfl (r_assign rfl) fun ac389 hf433 => ?_)
      refine seq_one (op_val (v := .int .i64 2) hf433 rfl rfl rfl rfl rfl rfl (r_assign rfl) fun ac390 hf434 => ?_)
      refine seq_end ?_
      clear ac46 hf51 ac47 hf52 ac48 wd3 hI4 hf53 ac385 hf429 ac386 hf430 ac387 hf431 ac388 hf432 ac389 hf433
      refine then_normal ?_
      refine code_seq ?_
      refine seq_start (l := [0, 1, 2, 3, 4, 5, 6, 7, 8]) rfl ?_
      refine seq_one (op_val (v := .int .i64 cells) hf434 rfl rfl rfl rfl rfl rfl (r_move rfl) fun ac391 hf435 => ?_)
      refine seq_one (op_val (v := .int .i64 bits) hf435 rfl rfl rfl rfl rfl rfl (r_move rfl) fun ac392 hf436 => ?_)
      refine seq_one (op_pure hf436 rfl rfl rfl rfl ca_12 (newR_bad hbad) hI58 fun ac393 wd44 hI59 hf437 => ?_)
      refine seq_one (op_val (v := .tuple #[.agg #[.int .i64 0, .slice none 0 0], .bool false]) hf437 rfl rfl rfl rfl rfl rfl (r_move rfl) fun ac394 hf438 => ?_)
      refine seq_one (op_val (v := .agg #[.int .i64 0, .slice none 0 0]) hf438 rfl rfl rfl rfl rfl rfl (r_extract rfl rfl) fun ac395 hf439 => ?_)
      refine seq_one (op_val (v := .bool false) hf439 rfl rfl rfl rfl rfl rfl (r_extract rfl rfl) fun ac396 hf440 => ?_)
      refine seq_one (op_alloc hf440 rfl rfl rfl ze_34 hI59 fun ac397 b1 wd45 hb1 hI60 hf441 => ?_)
      have hI61 : Inv w [(b1, #[.int .i64 0, .slice none 0 0], 34)] wd45 := hI60
      refine seq_one (op_storeW (cells := #[.int .i64 0, .slice none 0 0]) 0 hf441 rfl rfl rfl rfl rfl sz_34 rfl rfl hI61 rfl rfl fun wd46 hI62 => ?_)
      refine seq_one (op_val (v := .bool false) hf441 rfl rfl rfl rfl rfl rfl (r_assign rfl) fun ac398 hf442 => ?_)
      refine seq_end ?_
      clear ac390 hf434 ac391 hf435 ac392 wd43 hI58 hf436 ac393 hf437 ac394 hf438 ac395 hf439 ac396 wd44 hI59 hf440 hI60 wd45 hI61 ac397 hf441
      refine then_normal ?_
      refine code_seq ?_
      refine code_seq ?_
      refine seq_start (l := [0, 1, 2, 3, 4, 5, 6, 7, 8, 9, 10, 11, 12, 13, 14, 15]) rfl ?_
      refine seq_one (op_val (v := .int .i64 2) hf442 rfl rfl rfl rfl rfl rfl (r_move rfl) fun ac399 hf443 => ?_)
      refine seq_one (op_val (v := .bool false) hf443 rfl rfl rfl rfl rfl rfl (r_eqlC rfl rfl (by decide)) fun ac400 hf444 => ?_)
      refine seq_one (op_val (v := .bool false) hf444 rfl rfl rfl rfl rfl rfl (r_move rfl) fun ac401 hf445 => ?_)
      refine seq_one (op_val (v := .bool false) hf445 rfl rfl rfl rfl rfl rfl ((r_neB (p := false) (q := false) ub_4 rfl rfl).trans rfl) fun ac402 hf446 => ?_)
      refine seq_one (op_val (v := .bool false) hf446 rfl rfl rfl rfl rfl rfl (r_move rfl) fun ac403 hf447 => ?_)
      refine seq_one (op_val (v := .bool false) hf447 rfl rfl rfl rfl rfl rfl (r_move rfl) fun ac404 hf448 => ?_)
      refine seq_one (op_val (v := .bool true) hf448 rfl rfl rfl rfl rfl rfl ((r_not (b := false) rfl).trans rfl) fun ac405 hf449 => ?_)
      refine seq_one (op_val (v := .bool true) hf449 rfl rfl rfl rfl rfl rfl (r_move rfl) fun ac406 hf450 => ?_)
      refine seq_one (op_val (v := .int .i64 2) hf450 rfl rfl rfl rfl rfl rfl (r_move rfl) fun ac407 hf451 => ?_)
      refine seq_one (op_val (v := .bool false) hf451 rfl rfl rfl rfl rfl rfl (r_neqC rfl rfl (by decide)) fun ac408 hf452 => ?_)
      refine seq_one (op_val (v := .bool false) hf452 rfl rfl rfl rfl rfl rfl (r_move rfl) fun ac409 hf453 => ?_)
      refine seq_one (op_val (v := .pointer none) hf453 rfl rfl rfl rfl rfl rfl (r_move rfl) fun ac410 hf454 => ?_)
      refine seq_one (op_val (v := .bool false) hf454 rfl rfl rfl rfl rfl rfl (r_neNil up_30 rfl rfl rfl) fun ac411 hf455 => ?_)
      refine seq_one (op_val (v := .bool false) hf455 rfl rfl rfl rfl rfl rfl (r_pickF rfl rfl) fun ac412 hf456 => ?_)
      refine seq_one (op_val (v := .bool false) hf456 rfl rfl rfl rfl rfl rfl (r_pickT rfl rfl) fun ac413 hf457 => ?_)
      refine seq_one (op_val (v := .bool false) hf457 rfl rfl rfl rfl rfl rfl (r_pickF rfl rfl) fun ac414 hf458 => ?_)
      refine seq_end ?_
      clear ac398 hf442 ac399 hf443 ac400 hf444 ac401 hf445 ac402 hf446 ac403 hf447 ac404 hf448 ac405 hf449 ac406 hf450 ac407 hf451 ac408 hf452 ac409 hf453 ac410 hf454 ac411 hf455 ac412 hf456 ac413 hf457
      refine then_normal ?_
      refine code_if_false hf458 rfl ?_
      refine wp_skip ?_
      refine then_normal ?_
      refine code_seq ?_
      refine code_seq ?_
      refine seq_start (l := [0, 1, 2, 3, 4, 5, 6, 7, 8, 9, 10, 11, 12, 13, 14, 15]) rfl ?_
      refine seq_one (op_val (v := .bool false) hf458 rfl rfl rfl rfl rfl rfl (r_move rfl) fun ac415 hf459 => ?_)
      refine seq_one (op_val (v := .bool true) hf459 rfl rfl rfl rfl rfl rfl ((r_not (b := false) rfl).trans rfl) fun ac416 hf460 => ?_)
      refine seq_one (op_val (v := .bool true) hf460 rfl rfl rfl rfl rfl rfl (r_move rfl) fun ac417 hf461 => ?_)
      refine seq_one (op_skip hf461 rfl rfl rfl rfl fun ac418 hf462 => ?_)
      refine seq_one (op_skip hf462 rfl rfl rfl rfl fun ac419 hf463 => ?_)
      refine seq_one (op_val (v := .bool true) hf463 rfl rfl rfl rfl rfl rfl (r_pickT rfl rfl) fun ac420 hf464 => ?_)
      refine seq_one (op_val (v := .bool true) hf464 rfl rfl rfl rfl rfl rfl (r_move rfl) fun ac421 hf465 => ?_)
      refine seq_one (op_skip hf465 rfl rfl rfl rfl fun ac422 hf466 => ?_)
      refine seq_one (op_skip hf466 rfl rfl rfl rfl fun ac423 hf467 => ?_)
      refine seq_one (op_skip hf467 rfl rfl rfl rfl fun ac424 hf468 => ?_)
      refine seq_one (op_val (v := .bool true) hf468 rfl rfl rfl rfl rfl rfl (r_pickT rfl rfl) fun ac425 hf469 => ?_)
      refine seq_one (op_val (v := .bool true) hf469 rfl rfl rfl rfl rfl rfl (r_move rfl) fun ac426 hf470 => ?_)
      refine seq_one (op_skip hf470 rfl rfl rfl rfl fun ac427 hf471 => ?_)
      refine seq_one (op_skip hf471 rfl rfl rfl rfl fun ac428 hf472 => ?_)
      refine seq_one (op_skip hf472 rfl rfl rfl rfl fun ac429 hf473 => ?_)
      refine seq_one (op_val (v := .bool true) hf473 rfl rfl rfl rfl rfl rfl (r_pickT rfl rfl) fun ac430 hf474 => ?_)
      refine seq_end ?_
      clear ac414 hf458 ac415 hf459 ac416 hf460 ac417 hf461 ac418 hf462 ac419 hf463 ac420 hf464 ac421 hf465 ac422 hf466 ac423 hf467 ac424 hf468 ac425 hf469 ac426 hf470 ac427 hf471 ac428 hf472 ac429 hf473
      refine then_normal ?_
      refine code_if_true hf474 rfl ?_
      refine code_seq ?_
      refine seq_start (l := [0, 1]) rfl ?_
      refine seq_one (op_pure hf474 rfl rfl rfl rfl ca_13 awake_pur hI62 fun ac431 wd47 hI63 hf475 => ?_)
      refine seq_one (op_val (v := .bool true) hf475 rfl rfl rfl rfl rfl rfl (r_assign rfl) fun ac432 hf476 => ?_)
      refine seq_end ?_
      clear ac430 wd46 hI62 hf474 ac431 hf475
      refine then_normal ?_
      refine wp_ret ?_
      refine then_ret ?_
      refine post1 rfl hf476 rfl ⟨?_, hI63.done (fresh_keys (ks := [b1]) rfl (fk_cons hb1 fk_nil))⟩
      rfl
end Go.Proofs.Ytohkdjaobdgenaa
