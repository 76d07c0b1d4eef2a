/-
  The walk of CountSince.
-/
import Derived.Test.YtohkdjaobdgenaaPlain5
namespace Go.Proofs.Ytohkdjaobdgenaa
set_option linter.unusedVariables false
set_option linter.unusedSimpArgs false
set_option maxRecDepth 100000
open Go.RowKit
set_option maxHeartbeats 8000000 in
theorem countSince_walk {a b : Int} {n k : Nat} (ta : 0 ≤ a.tmod 20 ∧ a.tmod 20 ≤ 19) (tb : 0 ≤ b.tmod 64 ∧ b.tmod 64 ≤ 63) (en : 1 + a.tmod 20 = (n : Int)) (ek : 1 + b.tmod 64 = (k : Int)) (hn1 : 1 ≤ n) (hn20 : n ≤ 20) (hk1 : 1 ≤ k) (hk2 : k ≤ 64) {p : Option Addr} {L cap : Nat} {rows : List (List Value)} (hl : rows.length = L) (hc : L ≤ cap) (ho : ∀ row ∈ rows, Oks opKinds row) {q : Option Addr} {L2 cap2 : Nat} {rows2 : List (List Value)} (hl2 : rows2.length = L2) (hc2 : L2 ≤ cap2) (ho2 : ∀ row ∈ rows2, Oks opKinds row) {w : World} (hr : Rows_ w p 3 rows) (hr2 : Rows_ w q 3 rows2) : Calls Try.prog 4 [.int .u8 a, .int .u8 b, .slice p L cap, .slice q L2 cap2].toArray w fun e w' => e = .returned (.bool true) ∧ Inv w [] w' := by
  have hn2 : n ≤ 256 := by omega
  have hI1 := Inv.start w
  refine enter (n := 194) Try.func4 rfl rfl rfl ?_
  intro ac1 hf1
  refine code_seq ?_
  refine seq_start (l := [0]) rfl ?_
  refine seq_one (op_val (v := .bool false) hf1 rfl rfl rfl rfl rfl rfl (r_assign rfl) fun ac2 hf2 => ?_)
  refine seq_end ?_
  clear ac1 hf1
  refine then_normal ?_
  refine code_seq ?_
  refine seq_start (l := [0, 1, 2, 3, 4, 5, 6, 7, 8, 9, 10, 11]) rfl ?_
  refine seq_one (op_val (v := .int .u8 a) hf2 rfl rfl rfl rfl rfl rfl (r_move rfl) fun ac3 hf3 => ?_)
  refine seq_one (op_val (v := .int .u8 b) hf3 rfl rfl rfl rfl rfl rfl (r_move rfl) fun ac4 hf4 => ?_)
  refine seq_one (op_call (R := fun v w' => ∃ lb cb, Array.size (World.heap w) ≤ lb ∧ Array.size (World.heap w) ≤ cb ∧ v = .tuple #[.pointer (some ⟨cb, 0, none⟩), .int .i64 (n : Int), .int .u64 (pw k - 1), .bool true] ∧ Inv w [(lb, arr .u64 (List.replicate n 0), 24), (cb, #[.slice (some ⟨lb, 0, none⟩) n n, .int .i64 (k : Int)], 58)] w') hf4 rfl rfl rfl rfl ca_22 ((made_walk ta tb en ek hn1 hn2 hk1 hk2 _).mono fun e w' ⟨lb, cb, h1, h2, h3, h4⟩ => ⟨_, h3, lb, cb, h1, h2, rfl, h4⟩) fun ac5 v wd1 hR hf5 => ?_)
  obtain ⟨b1, b2, hqb1, hqb2, rfl, hwb1⟩ := hR
  have hb1 := Nat.le_trans hI1.size hqb1
  have hb2 := Nat.le_trans hI1.size hqb2
  have hI2 : Inv w [(b1, arr .u64 (List.replicate n 0), 24), (b2, #[.slice (some ⟨b1, 0, none⟩) n n, .int .i64 (k : Int)], 58)] _ := hI1.callN hwb1 (fun x hx => by simp only [List.mem_cons, List.mem_nil_iff, or_false] at hx; rcases hx with rfl | rfl <;> assumption)
  refine seq_one (op_val (v := .tuple #[.pointer (some ⟨b2, 0, none⟩), .int .i64 (n : Int), .int .u64 (pw k - 1), .bool true]) hf5 rfl rfl rfl rfl rfl rfl (r_move rfl) fun ac6 hf6 => ?_)
  refine seq_one (op_val (v := .pointer (some ⟨b2, 0, none⟩)) hf6 rfl rfl rfl rfl rfl rfl (r_extract rfl rfl) fun ac7 hf7 => ?_)
  refine seq_one (op_val (v := .int .i64 (n : Int)) hf7 rfl rfl rfl rfl rfl rfl (r_extract rfl rfl) fun ac8 hf8 => ?_)
  refine seq_one (op_val (v := .int .u64 (pw k - 1)) hf8 rfl rfl rfl rfl rfl rfl (r_extract rfl rfl) fun ac9 hf9 => ?_)
  refine seq_one (op_val (v := .bool true) hf9 rfl rfl rfl rfl rfl rfl (r_extract rfl rfl) fun ac10 hf10 => ?_)
  refine seq_one (op_val (v := .pointer (some ⟨b2, 0, none⟩)) hf10 rfl rfl rfl rfl rfl rfl (r_assign rfl) fun ac11 hf11 => ?_)
  refine seq_one (op_val (v := .int .i64 (n : Int)) hf11 rfl rfl rfl rfl rfl rfl (r_assign rfl) fun ac12 hf12 => ?_)
  refine seq_one (op_val (v := .int .u64 (pw k - 1)) hf12 rfl rfl rfl rfl rfl rfl (r_assign rfl) fun ac13 hf13 => ?_)
  refine seq_one (op_val (v := .bool true) hf13 rfl rfl rfl rfl rfl rfl (r_assign rfl) fun ac14 hf14 => ?_)
  refine seq_end ?_
  clear ac2 hf2 ac3 hf3 ac4 hf4 hI1 hwb1 hqb1 hqb2 ac5 hf5 ac6 hf6 ac7 hf7 ac8 hf8 ac9 hf9 ac10 hf10 ac11 hf11 ac12 hf12 ac13 hf13
  refine then_normal ?_
  refine code_seq ?_
  refine code_seq ?_
  refine seq_start (l := [0, 1]) rfl ?_
  refine seq_one (op_val (v := .bool true) hf14 rfl rfl rfl rfl rfl rfl (r_move rfl) fun ac15 hf15 => ?_)
  refine seq_one (op_val (v := .bool false) hf15 rfl rfl rfl rfl rfl rfl ((r_not (b := true) rfl).trans rfl) fun ac16 hf16 => ?_)
  refine seq_end ?_
  clear ac14 hf14 ac15 hf15
  refine then_normal ?_
  refine code_if_false hf16 rfl ?_
  refine wp_skip ?_
  refine then_normal ?_
  refine code_seq ?_
  refine code_seq ?_
  refine seq_start (l := [0]) rfl ?_
  refine seq_one (op_val (v := .int .i64 0) hf16 rfl rfl rfl rfl rfl rfl (r_assign rfl) fun ac17 hf17 => ?_)
  refine seq_end ?_
  clear ac16 hf16
  refine then_normal ?_
  refine wp_block ?_
  refine code_loop (α := Nat × (List Int)) (fun (x : Nat × (List Int)) => match x with | (i, xs) => [(0, .int .u8 a), (1, .int .u8 b), (2, .slice p L cap), (3, .slice q L2 cap2), (8, .bool false), (9, .pointer (some ⟨b2, 0, none⟩)), (10, .int .i64 (n : Int)), (11, .int .u64 (pw k - 1)), (12, .bool true), (23, .tuple #[.pointer (some ⟨b2, 0, none⟩), .int .i64 (n : Int), .int .u64 (pw k - 1), .bool true]), (24, .int .u8 a), (25, .int .u8 b), (26, .tuple #[.pointer (some ⟨b2, 0, none⟩), .int .i64 (n : Int), .int .u64 (pw k - 1), .bool true]), (27, .pointer (some ⟨b2, 0, none⟩)), (28, .int .i64 (n : Int)), (29, .int .u64 (pw k - 1)), (30, .bool true), (31, .bool true), (32, .bool false), (13, .int .i64 (i : Int))]) (fun (x : Nat × (List Int)) => match x with | (i, xs) => fun wL => Inv w [(b1, arr .u64 xs, 24), (b2, #[.slice (some ⟨b1, 0, none⟩) n n, .int .i64 (k : Int)], 58)] wL ∧ (Rg xs n k)) (fun (x : Nat × (List Int)) => match x with | (i, xs) => 40 - i) (0, List.replicate n 0) (hf17.cons 0 rfl (hf17.cons 1 rfl (hf17.cons 2 rfl (hf17.cons 3 rfl (hf17.cons 8 rfl (hf17.cons 9 rfl (hf17.cons 10 rfl (hf17.cons 11 rfl (hf17.cons 12 rfl (hf17.cons 23 rfl (hf17.cons 24 rfl (hf17.cons 25 rfl (hf17.cons 26 rfl (hf17.cons 27 rfl (hf17.cons 28 rfl (hf17.cons 29 rfl (hf17.cons 30 rfl (hf17.cons 31 rfl (hf17.cons 32 rfl (hf17.cons 13 rfl hf17.nil)))))))))))))))))))) ⟨hI2, (Rg.init hk1 hk2)⟩ ?_
  intro ⟨i, xs⟩ ac18 wd2 hf18 hL1
  obtain ⟨hI3, hx1⟩ := hL1
  dsimp only at hf18 hI3 hx1
  clear ac17 wd1 hf17 hI2
  refine code_seq ?_
  refine code_seq ?_
  refine code_joinG 194 ((Bool)) (fun (qb : Bool) => [(0, .int .u8 a), (1, .int .u8 b), (2, .slice p L cap), (3, .slice q L2 cap2), (8, .bool false), (9, .pointer (some ⟨b2, 0, none⟩)), (10, .int .i64 (n : Int)), (11, .int .u64 (pw k - 1)), (12, .bool true), (13, .int .i64 (i : Int)), (23, .tuple #[.pointer (some ⟨b2, 0, none⟩), .int .i64 (n : Int), .int .u64 (pw k - 1), .bool true]), (24, .int .u8 a), (25, .int .u8 b), (26, .tuple #[.pointer (some ⟨b2, 0, none⟩), .int .i64 (n : Int), .int .u64 (pw k - 1), .bool true]), (27, .pointer (some ⟨b2, 0, none⟩)), (28, .int .i64 (n : Int)), (29, .int .u64 (pw k - 1)), (30, .bool true), (31, .bool true), (32, .bool false), (40, .bool qb)]) (fun (qb : Bool) => fun w' => Inv w [(b1, arr .u64 xs, 24), (b2, #[.slice (some ⟨b1, 0, none⟩) n n, .int .i64 (k : Int)], 58)] w' ∧ (qb = true → (i < L ∧ i < 40))) ?_ ?_
  ·
    refine seq_start (l := [0, 1, 2, 3, 4, 5, 6, 7]) rfl ?_
    refine seq_one (op_val (v := .int .i64 (i : Int)) hf18 rfl rfl rfl rfl rfl rfl (r_move rfl) fun ac19 hf19 => ?_)
    refine seq_one (op_val (v := .slice p L cap) hf19 rfl rfl rfl rfl rfl rfl (r_move rfl) fun ac20 hf20 => ?_)
    refine seq_one (op_val (v := .int .i64 (L : Int)) hf20 rfl rfl rfl rfl rfl rfl (r_len sl_22 rfl) fun ac21 hf21 => ?_)
    refine seq_one (op_val (v := .bool (decide ((i : Int) < (L : Int)))) hf21 rfl rfl rfl rfl rfl rfl (r_lss rfl rfl) fun ac22 hf22 => ?_)
    refine seq_one (op_val (v := .bool (decide ((i : Int) < (L : Int)))) hf22 rfl rfl rfl rfl rfl rfl (r_move rfl) fun ac23 hf23 => ?_)
    rcases Bool.eq_false_or_eq_true (decide ((i : Int) < (L : Int)) : Bool) with g37_1 | g37_1
    · have hf24 := hf23.know 37 (u := .bool true) rfl (congrArg Value.bool g37_1)
      refine seq_one (op_val (v := .int .i64 (i : Int)) hf24 rfl rfl rfl rfl rfl rfl (r_move rfl) fun ac24 hf25 => ?_)
      refine seq_one (op_val (v := .bool (decide ((i : Int) < 40))) hf25 rfl rfl rfl rfl rfl rfl (r_lss rfl rfl) fun ac25 hf26 => ?_)
      refine seq_one (op_val (v := .bool (decide ((i : Int) < 40))) hf26 rfl rfl rfl rfl rfl rfl (r_pickT rfl rfl) fun ac26 hf27 => ?_)
      refine seq_end ?_
      clear ac18 hf18 ac19 hf19 ac20 hf20 ac21 hf21 ac22 hf22 hf23 ac23 hf24 ac24 hf25 ac25 hf26
      refine then_normal ?_
      exact ⟨((decide ((i : Int) < 40))), (hf27.cons 0 rfl (hf27.cons 1 rfl (hf27.cons 2 rfl (hf27.cons 3 rfl (hf27.cons 8 rfl (hf27.cons 9 rfl (hf27.cons 10 rfl (hf27.cons 11 rfl (hf27.cons 12 rfl (hf27.cons 13 rfl (hf27.cons 23 rfl (hf27.cons 24 rfl (hf27.cons 25 rfl (hf27.cons 26 rfl (hf27.cons 27 rfl (hf27.cons 28 rfl (hf27.cons 29 rfl (hf27.cons 30 rfl (hf27.cons 31 rfl (hf27.cons 32 rfl (hf27.cons 40 rfl hf27.nil))))))))))))))))))))), ⟨hI3, (fun h => ⟨by have := of_decide_eq_true g37_1; omega, by have := of_decide_eq_true h; omega⟩)⟩⟩
    · have hf28 := hf23.know 37 (u := .bool false) rfl (congrArg Value.bool g37_1)
      refine seq_one (op_skip hf28 rfl rfl rfl rfl fun ac27 hf29 => ?_)
      refine seq_one (op_skip hf29 rfl rfl rfl rfl fun ac28 hf30 => ?_)
      refine seq_one (op_val (v := .bool false) hf30 rfl rfl rfl rfl rfl rfl (r_pickF rfl rfl) fun ac29 hf31 => ?_)
      refine seq_end ?_
      clear ac18 hf18 ac19 hf19 ac20 hf20 ac21 hf21 ac22 hf22 hf23 ac23 hf28 ac27 hf29 ac28 hf30
      refine then_normal ?_
      exact ⟨(false), (hf31.cons 0 rfl (hf31.cons 1 rfl (hf31.cons 2 rfl (hf31.cons 3 rfl (hf31.cons 8 rfl (hf31.cons 9 rfl (hf31.cons 10 rfl (hf31.cons 11 rfl (hf31.cons 12 rfl (hf31.cons 13 rfl (hf31.cons 23 rfl (hf31.cons 24 rfl (hf31.cons 25 rfl (hf31.cons 26 rfl (hf31.cons 27 rfl (hf31.cons 28 rfl (hf31.cons 29 rfl (hf31.cons 30 rfl (hf31.cons 31 rfl (hf31.cons 32 rfl (hf31.cons 40 rfl hf31.nil))))))))))))))))))))), ⟨hI3, (fun h => by cases h)⟩⟩
  ·
    intro qb ac30 wd3 hf32 ⟨hI4, hj4⟩
    clear ac18 wd2 hf18 hI3
    refine then_normal ?_
    refine code_if hf32 rfl (fun c40_2 => ?_) (fun c40_2 => ?_)
    · have hf33 := hf32.know 40 (u := .bool true) rfl (congrArg Value.bool c40_2)
      refine wp_skip ?_
      refine then_normal ?_
      refine code_seq ?_
      refine wp_block ?_
      refine code_seq ?_
      refine seq_start (l := [0, 1, 2, 3, 4, 5]) rfl ?_
      refine seq_one (op_val (v := .slice p L cap) hf33 rfl rfl rfl rfl rfl rfl (r_move rfl) fun ac31 hf34 => ?_)
      refine seq_one (op_val (v := .int .i64 (i : Int)) hf34 rfl rfl rfl rfl rfl rfl (r_move rfl) fun ac32 hf35 => ?_)
      obtain ⟨kd3, ii3, nn3, hri3, hnn3, hii3, ek3, ei3, en3⟩ := op_row (i := i) ho (by have := hj4 c40_2; omega)
      refine seq_one (op_val (v := .pointer (slAt p (i * 3))) hf35 rfl rfl rfl rfl rfl rfl (r_indexAddrR (i := i) (sz := 3) sl_22 rfl rfl rfl (by have := hj4 c40_2; omega) rfl ⟨_, ((hr.old hI4 (fresh_keys (ks := [b1, b2]) rfl (fk_cons hb1 (fk_cons hb2 fk_nil)))) _ _ hri3).choose_spec.1⟩) fun ac33 hf36 => ?_)
      refine seq_one (op_val (v := .pointer (slAt p (i * 3 + 0))) hf36 rfl rfl rfl rfl rfl rfl (r_fieldAddrR fi_39_0 rfl ⟨_, ((hr.old hI4 (fresh_keys (ks := [b1, b2]) rfl (fk_cons hb1 (fk_cons hb2 fk_nil)))) _ _ hri3).choose_spec.1⟩) fun ac34 hf37 => ?_)
      refine seq_one (op_val (v := .int .u8 kd3) hf37 rfl rfl rfl rfl rfl rfl (r_loadF ag_5 rfl (hr.old hI4 (fresh_keys (ks := [b1, b2]) rfl (fk_cons hb1 (fk_cons hb2 fk_nil)))) hri3 rfl) fun ac35 hf38 => ?_)
      refine seq_one (op_val (v := .bool (kd3 == 1)) hf38 rfl rfl rfl rfl rfl rfl (r_eql rfl rfl) fun ac36 hf39 => ?_)
      refine seq_end ?_
      clear hf32 ac30 hf33 ac31 hf34 ac32 hf35 ac33 hf36 ac34 hf37 ac35 hf38
      refine then_normal ?_
      refine code_if hf39 rfl (fun c48_3 => ?_) (fun c48_3 => ?_)
      · have hf40 := hf39.know 48 (u := .bool true) rfl (congrArg Value.bool c48_3)
        refine seq_start (l := [0, 1]) rfl ?_
        refine seq_one (op_val (v := .pointer (some ⟨b2, 0, none⟩)) hf40 rfl rfl rfl rfl rfl rfl (r_move rfl) fun ac37 hf41 => ?_)
        refine seq_one (op_call (R := fun v w' => ∃ b m, Array.size (World.heap _) ≤ b ∧ n + m ≤ maxLen ∧ v = .slice (some ⟨b, 0, none⟩) n (n + m) ∧ Inv _ [(b1, arr .u64 (List.replicate n 0), 24), (b2, #[.slice (some ⟨b1, 0, none⟩) n n, .int .i64 (k : Int)], 58), (b, arr .u64 (xs ++ List.replicate m 0), 24)] w') hf41 rfl rfl rfl rfl ca_14 ((drain_walk hx1.len hn1 hn2 (hI4.ne (i := 0) (j := 1) rfl rfl (by decide)) (Has.cons (hI4.at 0 rfl) (Has.cons (hI4.at 1 rfl) Has.nil))).mono fun e w' ⟨b, m, h1, h2, h3, h4⟩ => ⟨_, h3, b, m, h1, h2, rfl, h4⟩) fun ac38 v wd4 hR hf42 => ?_)
        obtain ⟨b4, m4, hqb4, hm4, rfl, hwb4⟩ := hR
        have hb4 := Nat.le_trans hI4.size hqb4
        have hI5 : Inv w [(b1, arr .u64 (List.replicate n 0), 24), (b2, #[.slice (some ⟨b1, 0, none⟩) n n, .int .i64 (k : Int)], 58), (b4, arr .u64 (xs ++ List.replicate m4 0), 24)] _ := Inv.callS (A := []) (S := [(b1, arr .u64 xs, 24), (b2, #[.slice (some ⟨b1, 0, none⟩) n n, .int .i64 (k : Int)], 58)]) (S' := [(b1, arr .u64 (List.replicate n 0), 24), (b2, #[.slice (some ⟨b1, 0, none⟩) n n, .int .i64 (k : Int)], 58)]) (L := []) (N := [(b4, arr .u64 (xs ++ List.replicate m4 0), 24)]) hI4 hwb4 rfl (fun x hx => by simp only [List.mem_singleton] at hx; subst hx; exact hqb4)
        refine seq_end ?_
        clear hf39 ac36 hf40 ac37 wd3 hf41 hI4 hwb4 hqb4
        refine block_normal ?_
        refine then_normal ?_
        refine seq_start (l := [0, 1, 2]) rfl ?_
        refine seq_one (op_val (v := .int .i64 (i : Int)) hf42 rfl rfl rfl rfl rfl rfl (r_move rfl) fun ac39 hf43 => ?_)
        refine seq_one (op_val (v := .int .i64 ((i + 1 : Nat) : Int)) hf43 rfl rfl rfl rfl rfl rfl (r_add (c := ((i + 1 : Nat) : Int)) rfl rfl (wrap_i64 (by omega) (by have := hj4 c40_2; omega))) fun ac40 hf44 => ?_)
        refine seq_one (op_val (v := .int .i64 ((i + 1 : Nat) : Int)) hf44 rfl rfl rfl rfl rfl rfl (r_assign rfl) fun ac41 hf45 => ?_)
        refine seq_end ?_
        clear ac38 hf42 ac39 hf43 ac40 hf44
        refine then_normal ?_
        exact ⟨(i + 1, List.replicate n 0), (hf45.cons 0 rfl (hf45.cons 1 rfl (hf45.cons 2 rfl (hf45.cons 3 rfl (hf45.cons 8 rfl (hf45.cons 9 rfl (hf45.cons 10 rfl (hf45.cons 11 rfl (hf45.cons 12 rfl (hf45.cons 23 rfl (hf45.cons 24 rfl (hf45.cons 25 rfl (hf45.cons 26 rfl (hf45.cons 27 rfl (hf45.cons 28 rfl (hf45.cons 29 rfl (hf45.cons 30 rfl (hf45.cons 31 rfl (hf45.cons 32 rfl (hf45.cons 13 rfl hf45.nil)))))))))))))))))))), ⟨(Inv.drop (A := [(b1, arr .u64 (List.replicate n 0), 24), (b2, #[.slice (some ⟨b1, 0, none⟩) n n, .int .i64 (k : Int)], 58)]) (B := [(b4, arr .u64 (xs ++ List.replicate m4 0), 24)]) hI5 (fresh_keys (ks := [b4]) rfl (fk_cons hb4 fk_nil))), (Rg.init hk1 hk2)⟩, (by have := hj4 c40_2; show 40 - (i + 1) < 40 - i; omega)⟩
      · have hf46 := hf39.know 48 (u := .bool false) rfl (congrArg Value.bool c48_3)
        have hrd4_0 := (hr.old hI4 (fresh_keys (ks := [b1, b2]) rfl (fk_cons hb1 (fk_cons hb2 fk_nil))))
        refine any_start (fun w => Has [] w ∧ Rows_ w p 3 rows) follows ⟨Has.drew (hI4.has0), hrd4_0⟩ ?_
        have hS1 : Has [] _ ∧ Rows_ _ p 3 rows := ⟨Has.drew (hI4.has0), hrd4_0⟩
        have hI6 := hI4.drew
        refine any_val (i := 0) (v := .pointer (some ⟨b2, 0, none⟩)) hf46 rfl rfl rfl rfl rfl rfl (fun _ _ _ h => h) (by kernel_rfl) (by kernel_rfl) (by kernel_rfl) (fun wd3 hS1 => (r_move rfl)) hS1 fun ac42 hf47 => ?_
        refine any_val (i := 1) (v := .slice p L cap) hf47 rfl rfl rfl rfl rfl rfl (fun _ _ _ h => h) (by kernel_rfl) (by kernel_rfl) (by kernel_rfl) (fun wd3 hS1 => (r_move rfl)) hS1 fun ac43 hf48 => ?_
        refine any_val (i := 2) (v := .int .i64 (i : Int)) hf48 rfl rfl rfl rfl rfl rfl (fun _ _ _ h => h) (by kernel_rfl) (by kernel_rfl) (by kernel_rfl) (fun wd3 hS1 => (r_move rfl)) hS1 fun ac44 hf49 => ?_
        refine any_val (i := 3) (v := .pointer (slAt p (i * 3))) hf49 rfl rfl rfl rfl rfl rfl (fun _ _ _ h => h) (by kernel_rfl) (by kernel_rfl) (by kernel_rfl) (fun wd3 hS1 => (r_indexAddrR (i := i) (sz := 3) sl_22 rfl rfl rfl (by have := hj4 c40_2; omega) rfl ⟨_, ((hr.old hI6 (fresh_keys (ks := [b1, b2]) rfl (fk_cons hb1 (fk_cons hb2 fk_nil)))) _ _ hri3).choose_spec.1⟩)) hS1 fun ac45 hf50 => ?_
        refine any_val (i := 4) (v := .pointer (slAt p (i * 3 + 1))) hf50 rfl rfl rfl rfl rfl rfl (fun _ _ _ h => h) (by kernel_rfl) (by kernel_rfl) (by kernel_rfl) (fun wd3 hS1 => (r_fieldAddrR fi_39_1 rfl ⟨_, ((hr.old hI6 (fresh_keys (ks := [b1, b2]) rfl (fk_cons hb1 (fk_cons hb2 fk_nil)))) _ _ hri3).choose_spec.1⟩)) hS1 fun ac46 hf51 => ?_
        refine any_val (i := 5) (v := .int .i64 ii3) hf51 rfl rfl rfl rfl rfl rfl (fun _ _ _ h => h) (by kernel_rfl) (by kernel_rfl) (by kernel_rfl) (fun wd3 hS1 => (r_loadF ag_3 rfl hS1.2 hri3 rfl)) hS1 fun ac47 hf52 => ?_
        refine any_val (i := 6) (v := .slice p L cap) hf52 rfl rfl rfl rfl rfl rfl (fun _ _ _ h => h) (by kernel_rfl) (by kernel_rfl) (by kernel_rfl) (fun wd3 hS1 => (r_move rfl)) hS1 fun ac48 hf53 => ?_
        refine any_val (i := 7) (v := .int .i64 (i : Int)) hf53 rfl rfl rfl rfl rfl rfl (fun _ _ _ h => h) (by kernel_rfl) (by kernel_rfl) (by kernel_rfl) (fun wd3 hS1 => (r_move rfl)) hS1 fun ac49 hf54 => ?_
        refine any_val (i := 8) (v := .pointer (slAt p (i * 3))) hf54 rfl rfl rfl rfl rfl rfl (fun _ _ _ h => h) (by kernel_rfl) (by kernel_rfl) (by kernel_rfl) (fun wd3 hS1 => (r_indexAddrR (i := i) (sz := 3) sl_22 rfl rfl rfl (by have := hj4 c40_2; omega) rfl ⟨_, ((hr.old hI6 (fresh_keys (ks := [b1, b2]) rfl (fk_cons hb1 (fk_cons hb2 fk_nil)))) _ _ hri3).choose_spec.1⟩)) hS1 fun ac50 hf55 => ?_
        refine any_val (i := 9) (v := .pointer (slAt p (i * 3 + 2))) hf55 rfl rfl rfl rfl rfl rfl (fun _ _ _ h => h) (by kernel_rfl) (by kernel_rfl) (by kernel_rfl) (fun wd3 hS1 => (r_fieldAddrR fi_39_2 rfl ⟨_, ((hr.old hI6 (fresh_keys (ks := [b1, b2]) rfl (fk_cons hb1 (fk_cons hb2 fk_nil)))) _ _ hri3).choose_spec.1⟩)) hS1 fun ac51 hf56 => ?_
        refine any_val (i := 10) (v := .int .u64 nn3) hf56 rfl rfl rfl rfl rfl rfl (fun _ _ _ h => h) (by kernel_rfl) (by kernel_rfl) (by kernel_rfl) (fun wd3 hS1 => (r_loadF ag_24 rfl hS1.2 hri3 rfl)) hS1 fun ac52 hf57 => ?_
        refine any_one (i := 11) (by kernel_rfl) ?_
        refine (op_call (R := fun v w' => v = .int .i64 (addE n ii3) ∧ Inv _ [(b1, arr .u64 (addX xs n k ii3 nn3), 24), (b2, #[.slice (some ⟨b1, 0, none⟩) n n, .int .i64 (k : Int)], 58)] w') hf57 rfl rfl rfl rfl ca_16 ((add_any hx1.len hk1 hk2 (hI6.ne (i := 0) (j := 1) rfl rfl (by decide)) (Has.cons (hI6.at 0 rfl) (Has.cons (hI6.at 1 rfl) Has.nil))).mono fun _ _ h => ⟨_, h.1, rfl, h.2⟩) fun ac53 v wd5 hR5 hf58 => ?_)
        obtain ⟨rfl, hR5⟩ := hR5
        have hI7 : Inv w [(b1, arr .u64 (addX xs n k ii3 nn3), 24), (b2, #[.slice (some ⟨b1, 0, none⟩) n n, .int .i64 (k : Int)], 58)] _ := Inv.callS (A := []) (S := [(b1, arr .u64 xs, 24), (b2, #[.slice (some ⟨b1, 0, none⟩) n n, .int .i64 (k : Int)], 58)]) (S' := [(b1, arr .u64 (addX xs n k ii3 nn3), 24), (b2, #[.slice (some ⟨b1, 0, none⟩) n n, .int .i64 (k : Int)], 58)]) (L := []) (N := []) hI6 hR5 rfl (fun _ h => by cases h)
        refine ⟨?_, ?_⟩
        · exact ⟨(hI7.has0), (hr.old hI7 (fresh_keys (ks := [b1, b2]) rfl (fk_cons hb1 (fk_cons hb2 fk_nil))))⟩
        have hS2 : Has [] _ ∧ Rows_ _ p 3 rows := ⟨(hI7.has0), (hr.old hI7 (fresh_keys (ks := [b1, b2]) rfl (fk_cons hb1 (fk_cons hb2 fk_nil))))⟩
        refine any_end (by kernel_rfl) ?_
        clear hf39 hrd4_0 hI4 ac36 hf46 ac42 hf47 ac43 hf48 ac44 hf49 ac45 hf50 ac46 hf51 ac47 hf52 ac48 hf53 ac49 hf54 ac50 hf55 ac51 hf56 ac52 wd3 hf57 hI6 hR5 hS1 hS2
        refine block_normal ?_
        refine then_normal ?_
        refine seq_start (l := [0, 1, 2]) rfl ?_
        refine seq_one (op_val (v := .int .i64 (i : Int)) hf58 rfl rfl rfl rfl rfl rfl (r_move rfl) fun ac54 hf59 => ?_)
        refine seq_one (op_val (v := .int .i64 ((i + 1 : Nat) : Int)) hf59 rfl rfl rfl rfl rfl rfl (r_add (c := ((i + 1 : Nat) : Int)) rfl rfl (wrap_i64 (by omega) (by have := hj4 c40_2; omega))) fun ac55 hf60 => ?_)
        refine seq_one (op_val (v := .int .i64 ((i + 1 : Nat) : Int)) hf60 rfl rfl rfl rfl rfl rfl (r_assign rfl) fun ac56 hf61 => ?_)
        refine seq_end ?_
        clear ac53 hf58 ac54 hf59 ac55 hf60
        refine then_normal ?_
        exact ⟨(i + 1, (addX xs n k ii3 nn3)), (hf61.cons 0 rfl (hf61.cons 1 rfl (hf61.cons 2 rfl (hf61.cons 3 rfl (hf61.cons 8 rfl (hf61.cons 9 rfl (hf61.cons 10 rfl (hf61.cons 11 rfl (hf61.cons 12 rfl (hf61.cons 23 rfl (hf61.cons 24 rfl (hf61.cons 25 rfl (hf61.cons 26 rfl (hf61.cons 27 rfl (hf61.cons 28 rfl (hf61.cons 29 rfl (hf61.cons 30 rfl (hf61.cons 31 rfl (hf61.cons 32 rfl (hf61.cons 13 rfl hf61.nil)))))))))))))))))))), ⟨hI7, (hx1.add hk1 hk2)⟩, (by have := hj4 c40_2; show 40 - (i + 1) < 40 - i; omega)⟩
    · have hf62 := hf32.know 40 (u := .bool false) rfl (congrArg Value.bool c40_2)
      refine wp_exit ?_
      refine then_exit ?_
      refine then_exit ?_
      refine block_here ?_
      refine then_normal ?_
      refine code_seq ?_
      refine seq_start (l := [0, 1, 2]) rfl ?_
      refine seq_one (op_val (v := .pointer (some ⟨b2, 0, none⟩)) hf62 rfl rfl rfl rfl rfl rfl (r_move rfl) fun ac57 hf63 => ?_)
      refine seq_one (op_call (R := fun v w' => ∃ b m, Array.size (World.heap _) ≤ b ∧ n + m ≤ maxLen ∧ v = .slice (some ⟨b, 0, none⟩) n (n + m) ∧ Inv _ [(b, arr .u64 (xs ++ List.replicate m 0), 24)] w') hf63 rfl rfl rfl rfl ca_20 ((all_walk hx1.len hn1 hn2 (hI4.ne (i := 0) (j := 1) rfl rfl (by decide)) (Has.cons (hI4.at 0 rfl) (Has.cons (hI4.at 1 rfl) Has.nil))).mono fun e w' ⟨b, m, h1, h2, h3, h4⟩ => ⟨_, h3, b, m, h1, h2, rfl, h4⟩) fun ac58 v wd6 hR hf64 => ?_)
      obtain ⟨b3, m3, hqb3, hm3, rfl, hwb3⟩ := hR
      have hb3 := Nat.le_trans hI4.size hqb3
      have hI8 : Inv w [(b1, arr .u64 xs, 24), (b2, #[.slice (some ⟨b1, 0, none⟩) n n, .int .i64 (k : Int)], 58), (b3, arr .u64 (xs ++ List.replicate m3 0), 24)] _ := hI4.callN hwb3 (fun x hx => by simp only [List.mem_singleton] at hx; subst hx; exact hqb3)
      refine seq_one (op_val (v := .slice (some ⟨b3, 0, none⟩) n (n + m3)) hf64 rfl rfl rfl rfl rfl rfl (r_assign rfl) fun ac59 hf65 => ?_)
      refine seq_end ?_
      clear hf32 ac30 hf62 ac57 wd3 hf63 hI4 hwb3 hqb3 ac58 hf64
      refine then_normal ?_
      refine code_seq ?_
      refine code_joinG 194 ((Nat) × (Nat)) (fun (x : (Nat) × (Nat)) => match x with | (sb, rb) => [(0, .int .u8 a), (1, .int .u8 b), (2, .slice p L cap), (3, .slice q L2 cap2), (8, .bool false), (9, .pointer (some ⟨b2, 0, none⟩)), (10, .int .i64 (n : Int)), (11, .int .u64 (pw k - 1)), (12, .bool true), (13, .int .i64 (i : Int)), (14, .slice (some ⟨b3, 0, none⟩) n (n + m3)), (23, .tuple #[.pointer (some ⟨b2, 0, none⟩), .int .i64 (n : Int), .int .u64 (pw k - 1), .bool true]), (24, .int .u8 a), (25, .int .u8 b), (26, .tuple #[.pointer (some ⟨b2, 0, none⟩), .int .i64 (n : Int), .int .u64 (pw k - 1), .bool true]), (27, .pointer (some ⟨b2, 0, none⟩)), (28, .int .i64 (n : Int)), (29, .int .u64 (pw k - 1)), (30, .bool true), (31, .bool true), (32, .bool false), (40, .bool false), (63, .pointer (some ⟨b2, 0, none⟩)), (64, .slice (some ⟨b3, 0, none⟩) n (n + m3)), (15, .slice (some ⟨sb, 0, none⟩) n n), (16, .slice (some ⟨rb, 0, none⟩) n n)]) (fun (x : (Nat) × (Nat)) => match x with | (sb, rb) => fun w' => Inv w [(b1, arr .u64 xs, 24), (b2, #[.slice (some ⟨b1, 0, none⟩) n n, .int .i64 (k : Int)], 58), (b3, arr .u64 (xs ++ List.replicate m3 0), 24), (sb, arr .u64 (List.replicate n 0), 24), (rb, barr (List.replicate n false), 4)] w' ∧ (w.heap.size ≤ sb) ∧ (w.heap.size ≤ rb)) ?_ ?_
      ·
        refine any_start (fun w => Has [] w) follows (Has.drew Has.nil) ?_
        have hS3 : ∀ {w : World}, Has [] w := Has.nil
        have hI9 := hI8.drew
        refine any_val (i := 0) (v := .int .i64 (n : Int)) hf65 rfl rfl rfl rfl rfl rfl (fun _ _ _ h => h) (by kernel_rfl) (by kernel_rfl) (by kernel_rfl) (fun wd6 hS3 => (r_move rfl)) hS3 fun ac60 hf66 => ?_
        refine any_val (i := 2) (v := .int .i64 (n : Int)) hf66 rfl rfl rfl rfl rfl rfl (fun _ _ _ h => h) (by kernel_rfl) (by kernel_rfl) (by kernel_rfl) (fun wd6 hS3 => (r_move rfl)) hS3 fun ac61 hf67 => ?_
        refine any_two (i := 1) (j := 3) (by kernel_rfl) ?_ ?_
        ·
          refine (op_make (m := n) hf67 rfl rfl rfl us_23 if_24 rfl rfl rfl (by omega) (by omega) hI9 fun ac62 b4 wd7 hb4 hI10 hf68 => ?_)
          rw [arr_rep] at hI10
          refine ⟨?_, ?_⟩
          · exact Has.nil
          have hI11 : Inv w [(b1, arr .u64 xs, 24), (b2, #[.slice (some ⟨b1, 0, none⟩) n n, .int .i64 (k : Int)], 58), (b3, arr .u64 (xs ++ List.replicate m3 0), 24), (b4, arr .u64 (List.replicate n 0), 24)] wd7 := hI10
          have hS4 : ∀ {w : World}, Has [] w := Has.nil
          refine any_val (i := 4) (v := .slice (some ⟨b4, 0, none⟩) n n) hf68 rfl rfl rfl rfl rfl rfl (fun _ _ _ h => h) (by kernel_rfl) (by kernel_rfl) (by kernel_rfl) (fun wd7 hS4 => (r_assign rfl)) hS4 fun ac63 hf69 => ?_
          refine any_one (i := 3) (by kernel_rfl) ?_
          refine (op_make (m := n) hf69 rfl rfl rfl us_52 if_4 rfl rfl rfl (by omega) (by omega) hI11 fun ac64 b5 wd8 hb5 hI12 hf70 => ?_)
          rw [barr_rep] at hI12
          refine ⟨?_, ?_⟩
          · exact Has.nil
          have hI13 : Inv w [(b1, arr .u64 xs, 24), (b2, #[.slice (some ⟨b1, 0, none⟩) n n, .int .i64 (k : Int)], 58), (b3, arr .u64 (xs ++ List.replicate m3 0), 24), (b4, arr .u64 (List.replicate n 0), 24), (b5, barr (List.replicate n false), 4)] wd8 := hI12
          have hS5 : ∀ {w : World}, Has [] w := Has.nil
          refine any_val (i := 5) (v := .slice (some ⟨b5, 0, none⟩) n n) hf70 rfl rfl rfl rfl rfl rfl (fun _ _ _ h => h) (by kernel_rfl) (by kernel_rfl) (by kernel_rfl) (fun wd8 hS5 => (r_assign rfl)) hS5 fun ac65 hf71 => ?_
          refine any_end (by kernel_rfl) ?_
          clear hI8 ac59 hf65 ac60 hf66 ac61 wd6 hI9 hf67 hI10 hS3 ac62 hf68 ac63 wd7 hI11 hf69 hI12 hS4 ac64 hf70 hS5
          refine then_normal ?_
          exact ⟨(b4, b5), (hf71.cons 0 rfl (hf71.cons 1 rfl (hf71.cons 2 rfl (hf71.cons 3 rfl (hf71.cons 8 rfl (hf71.cons 9 rfl (hf71.cons 10 rfl (hf71.cons 11 rfl (hf71.cons 12 rfl (hf71.cons 13 rfl (hf71.cons 14 rfl (hf71.cons 23 rfl (hf71.cons 24 rfl (hf71.cons 25 rfl (hf71.cons 26 rfl (hf71.cons 27 rfl (hf71.cons 28 rfl (hf71.cons 29 rfl (hf71.cons 30 rfl (hf71.cons 31 rfl (hf71.cons 32 rfl (hf71.cons 40 rfl (hf71.cons 63 rfl (hf71.cons 64 rfl (hf71.cons 15 rfl (hf71.cons 16 rfl hf71.nil)))))))))))))))))))))))))), ⟨hI13, hb4, hb5⟩⟩
        ·
          refine (op_make (m := n) hf67 rfl rfl rfl us_52 if_4 rfl rfl rfl (by omega) (by omega) hI9 fun ac66 b4 wd9 hb4 hI14 hf72 => ?_)
          rw [barr_rep] at hI14
          refine ⟨?_, ?_⟩
          · exact Has.nil
          have hI15 : Inv w [(b1, arr .u64 xs, 24), (b2, #[.slice (some ⟨b1, 0, none⟩) n n, .int .i64 (k : Int)], 58), (b3, arr .u64 (xs ++ List.replicate m3 0), 24), (b4, barr (List.replicate n false), 4)] wd9 := hI14
          have hS6 : ∀ {w : World}, Has [] w := Has.nil
          refine any_one (i := 1) (by kernel_rfl) ?_
          refine (op_make (m := n) hf72 rfl rfl rfl us_23 if_24 rfl rfl rfl (by omega) (by omega) hI15 fun ac67 b5 wd10 hb5 hI16 hf73 => ?_)
          rw [arr_rep] at hI16
          refine ⟨?_, ?_⟩
          · exact Has.nil
          have hI17 : Inv w [(b1, arr .u64 xs, 24), (b2, #[.slice (some ⟨b1, 0, none⟩) n n, .int .i64 (k : Int)], 58), (b3, arr .u64 (xs ++ List.replicate m3 0), 24), (b4, barr (List.replicate n false), 4), (b5, arr .u64 (List.replicate n 0), 24)] wd10 := hI16
          have hS7 : ∀ {w : World}, Has [] w := Has.nil
          refine any_val (i := 4) (v := .slice (some ⟨b5, 0, none⟩) n n) hf73 rfl rfl rfl rfl rfl rfl (fun _ _ _ h => h) (by kernel_rfl) (by kernel_rfl) (by kernel_rfl) (fun wd10 hS7 => (r_assign rfl)) hS7 fun ac68 hf74 => ?_
          refine any_val (i := 5) (v := .slice (some ⟨b4, 0, none⟩) n n) hf74 rfl rfl rfl rfl rfl rfl (fun _ _ _ h => h) (by kernel_rfl) (by kernel_rfl) (by kernel_rfl) (fun wd10 hS7 => (r_assign rfl)) hS7 fun ac69 hf75 => ?_
          refine any_end (by kernel_rfl) ?_
          clear hI8 ac59 hf65 ac60 hf66 ac61 wd6 hI9 hf67 hI14 hS3 ac66 wd9 hI15 hf72 hI16 hS6 ac67 hf73 ac68 hf74 hS7
          refine then_normal ?_
          have hI18 := Inv.swap2 (A := [(b1, arr .u64 xs, 24), (b2, #[.slice (some ⟨b1, 0, none⟩) n n, .int .i64 (k : Int)], 58), (b3, arr .u64 (xs ++ List.replicate m3 0), 24)]) hI17
          clear hI17
          exact ⟨(b5, b4), (hf75.cons 0 rfl (hf75.cons 1 rfl (hf75.cons 2 rfl (hf75.cons 3 rfl (hf75.cons 8 rfl (hf75.cons 9 rfl (hf75.cons 10 rfl (hf75.cons 11 rfl (hf75.cons 12 rfl (hf75.cons 13 rfl (hf75.cons 14 rfl (hf75.cons 23 rfl (hf75.cons 24 rfl (hf75.cons 25 rfl (hf75.cons 26 rfl (hf75.cons 27 rfl (hf75.cons 28 rfl (hf75.cons 29 rfl (hf75.cons 30 rfl (hf75.cons 31 rfl (hf75.cons 32 rfl (hf75.cons 40 rfl (hf75.cons 63 rfl (hf75.cons 64 rfl (hf75.cons 15 rfl (hf75.cons 16 rfl hf75.nil)))))))))))))))))))))))))), ⟨hI18, hb5, hb4⟩⟩
      ·
        intro ⟨sb, rb⟩ ac70 wd11 hf76 ⟨hI19, hsb, hrb⟩
        clear ac59 wd6 hf65 hI8
        refine then_normal ?_
        refine code_seq ?_
        refine code_seq ?_
        refine seq_start (l := [0]) rfl ?_
        refine seq_one (op_val (v := .int .i64 0) hf76 rfl rfl rfl rfl rfl rfl (r_assign rfl) fun ac71 hf77 => ?_)
        refine seq_end ?_
        clear ac70 hf76
        refine then_normal ?_
        refine wp_block ?_
        refine code_loop (α := Nat × (List Int) × (List Int) × (List Bool)) (fun (x : Nat × (List Int) × (List Int) × (List Bool)) => match x with | (d, ys, ss, rs) => [(0, .int .u8 a), (1, .int .u8 b), (2, .slice p L cap), (3, .slice q L2 cap2), (9, .pointer (some ⟨b2, 0, none⟩)), (10, .int .i64 (n : Int)), (11, .int .u64 (pw k - 1)), (12, .bool true), (13, .int .i64 (i : Int)), (14, .slice (some ⟨b3, 0, none⟩) n (n + m3)), (15, .slice (some ⟨sb, 0, none⟩) n n), (16, .slice (some ⟨rb, 0, none⟩) n n), (23, .tuple #[.pointer (some ⟨b2, 0, none⟩), .int .i64 (n : Int), .int .u64 (pw k - 1), .bool true]), (24, .int .u8 a), (25, .int .u8 b), (26, .tuple #[.pointer (some ⟨b2, 0, none⟩), .int .i64 (n : Int), .int .u64 (pw k - 1), .bool true]), (27, .pointer (some ⟨b2, 0, none⟩)), (28, .int .i64 (n : Int)), (29, .int .u64 (pw k - 1)), (30, .bool true), (31, .bool true), (32, .bool false), (40, .bool false), (63, .pointer (some ⟨b2, 0, none⟩)), (64, .slice (some ⟨b3, 0, none⟩) n (n + m3)), (17, .int .i64 (d : Int))]) (fun (x : Nat × (List Int) × (List Int) × (List Bool)) => match x with | (d, ys, ss, rs) => fun wL => Inv w [(b1, arr .u64 ys, 24), (b2, #[.slice (some ⟨b1, 0, none⟩) n n, .int .i64 (k : Int)], 58), (b3, arr .u64 (xs ++ List.replicate m3 0), 24), (sb, arr .u64 ss, 24), (rb, barr rs, 4)] wL ∧ (Si xs ys ss rs n k)) (fun (x : Nat × (List Int) × (List Int) × (List Bool)) => match x with | (d, ys, ss, rs) => 40 - d) (0, xs, List.replicate n 0, List.replicate n false) (hf77.cons 0 rfl (hf77.cons 1 rfl (hf77.cons 2 rfl (hf77.cons 3 rfl (hf77.cons 9 rfl (hf77.cons 10 rfl (hf77.cons 11 rfl (hf77.cons 12 rfl (hf77.cons 13 rfl (hf77.cons 14 rfl (hf77.cons 15 rfl (hf77.cons 16 rfl (hf77.cons 23 rfl (hf77.cons 24 rfl (hf77.cons 25 rfl (hf77.cons 26 rfl (hf77.cons 27 rfl (hf77.cons 28 rfl (hf77.cons 29 rfl (hf77.cons 30 rfl (hf77.cons 31 rfl (hf77.cons 32 rfl (hf77.cons 40 rfl (hf77.cons 63 rfl (hf77.cons 64 rfl (hf77.cons 17 rfl hf77.nil)))))))))))))))))))))))))) ⟨hI19, (Si.init hk1 hk2 hx1)⟩ ?_
        intro ⟨d, ys, ss, rs⟩ ac72 wd12 hf78 hL2
        obtain ⟨hI20, hx2⟩ := hL2
        dsimp only at hf78 hI20 hx2
        clear ac71 wd11 hf77 hI19
        refine code_seq ?_
        refine code_seq ?_
        refine code_joinG 194 ((Bool)) (fun (qb : Bool) => [(0, .int .u8 a), (1, .int .u8 b), (2, .slice p L cap), (3, .slice q L2 cap2), (9, .pointer (some ⟨b2, 0, none⟩)), (10, .int .i64 (n : Int)), (11, .int .u64 (pw k - 1)), (12, .bool true), (13, .int .i64 (i : Int)), (14, .slice (some ⟨b3, 0, none⟩) n (n + m3)), (15, .slice (some ⟨sb, 0, none⟩) n n), (16, .slice (some ⟨rb, 0, none⟩) n n), (17, .int .i64 (d : Int)), (23, .tuple #[.pointer (some ⟨b2, 0, none⟩), .int .i64 (n : Int), .int .u64 (pw k - 1), .bool true]), (24, .int .u8 a), (25, .int .u8 b), (26, .tuple #[.pointer (some ⟨b2, 0, none⟩), .int .i64 (n : Int), .int .u64 (pw k - 1), .bool true]), (27, .pointer (some ⟨b2, 0, none⟩)), (28, .int .i64 (n : Int)), (29, .int .u64 (pw k - 1)), (30, .bool true), (31, .bool true), (32, .bool false), (40, .bool false), (63, .pointer (some ⟨b2, 0, none⟩)), (64, .slice (some ⟨b3, 0, none⟩) n (n + m3)), (76, .bool qb)]) (fun (qb : Bool) => fun w' => Inv w [(b1, arr .u64 ys, 24), (b2, #[.slice (some ⟨b1, 0, none⟩) n n, .int .i64 (k : Int)], 58), (b3, arr .u64 (xs ++ List.replicate m3 0), 24), (sb, arr .u64 ss, 24), (rb, barr rs, 4)] w' ∧ (qb = true → (d < L2 ∧ d < 40))) ?_ ?_
        ·
          refine seq_start (l := [0, 1, 2, 3, 4, 5, 6, 7]) rfl ?_
          refine seq_one (op_val (v := .int .i64 (d : Int)) hf78 rfl rfl rfl rfl rfl rfl (r_move rfl) fun ac73 hf79 => ?_)
          refine seq_one (op_val (v := .slice q L2 cap2) hf79 rfl rfl rfl rfl rfl rfl (r_move rfl) fun ac74 hf80 => ?_)
          refine seq_one (op_val (v := .int .i64 (L2 : Int)) hf80 rfl rfl rfl rfl rfl rfl (r_len sl_22 rfl) fun ac75 hf81 => ?_)
          refine seq_one (op_val (v := .bool (decide ((d : Int) < (L2 : Int)))) hf81 rfl rfl rfl rfl rfl rfl (r_lss rfl rfl) fun ac76 hf82 => ?_)
          refine seq_one (op_val (v := .bool (decide ((d : Int) < (L2 : Int)))) hf82 rfl rfl rfl rfl rfl rfl (r_move rfl) fun ac77 hf83 => ?_)
          rcases Bool.eq_false_or_eq_true (decide ((d : Int) < (L2 : Int)) : Bool) with g73_4 | g73_4
          · have hf84 := hf83.know 73 (u := .bool true) rfl (congrArg Value.bool g73_4)
            refine seq_one (op_val (v := .int .i64 (d : Int)) hf84 rfl rfl rfl rfl rfl rfl (r_move rfl) fun ac78 hf85 => ?_)
            refine seq_one (op_val (v := .bool (decide ((d : Int) < 40))) hf85 rfl rfl rfl rfl rfl rfl (r_lss rfl rfl) fun ac79 hf86 => ?_)
            refine seq_one (op_val (v := .bool (decide ((d : Int) < 40))) hf86 rfl rfl rfl rfl rfl rfl (r_pickT rfl rfl) fun ac80 hf87 => ?_)
            refine seq_end ?_
            clear ac72 hf78 ac73 hf79 ac74 hf80 ac75 hf81 ac76 hf82 hf83 ac77 hf84 ac78 hf85 ac79 hf86
            refine then_normal ?_
            exact ⟨((decide ((d : Int) < 40))), (hf87.cons 0 rfl (hf87.cons 1 rfl (hf87.cons 2 rfl (hf87.cons 3 rfl (hf87.cons 9 rfl (hf87.cons 10 rfl (hf87.cons 11 rfl (hf87.cons 12 rfl (hf87.cons 13 rfl (hf87.cons 14 rfl (hf87.cons 15 rfl (hf87.cons 16 rfl (hf87.cons 17 rfl (hf87.cons 23 rfl (hf87.cons 24 rfl (hf87.cons 25 rfl (hf87.cons 26 rfl (hf87.cons 27 rfl (hf87.cons 28 rfl (hf87.cons 29 rfl (hf87.cons 30 rfl (hf87.cons 31 rfl (hf87.cons 32 rfl (hf87.cons 40 rfl (hf87.cons 63 rfl (hf87.cons 64 rfl (hf87.cons 76 rfl hf87.nil))))))))))))))))))))))))))), ⟨hI20, (fun h => ⟨by have := of_decide_eq_true g73_4; omega, by have := of_decide_eq_true h; omega⟩)⟩⟩
          · have hf88 := hf83.know 73 (u := .bool false) rfl (congrArg Value.bool g73_4)
            refine seq_one (op_skip hf88 rfl rfl rfl rfl fun ac81 hf89 => ?_)
            refine seq_one (op_skip hf89 rfl rfl rfl rfl fun ac82 hf90 => ?_)
            refine seq_one (op_val (v := .bool false) hf90 rfl rfl rfl rfl rfl rfl (r_pickF rfl rfl) fun ac83 hf91 => ?_)
            refine seq_end ?_
            clear ac72 hf78 ac73 hf79 ac74 hf80 ac75 hf81 ac76 hf82 hf83 ac77 hf88 ac81 hf89 ac82 hf90
            refine then_normal ?_
            exact ⟨(false), (hf91.cons 0 rfl (hf91.cons 1 rfl (hf91.cons 2 rfl (hf91.cons 3 rfl (hf91.cons 9 rfl (hf91.cons 10 rfl (hf91.cons 11 rfl (hf91.cons 12 rfl (hf91.cons 13 rfl (hf91.cons 14 rfl (hf91.cons 15 rfl (hf91.cons 16 rfl (hf91.cons 17 rfl (hf91.cons 23 rfl (hf91.cons 24 rfl (hf91.cons 25 rfl (hf91.cons 26 rfl (hf91.cons 27 rfl (hf91.cons 28 rfl (hf91.cons 29 rfl (hf91.cons 30 rfl (hf91.cons 31 rfl (hf91.cons 32 rfl (hf91.cons 40 rfl (hf91.cons 63 rfl (hf91.cons 64 rfl (hf91.cons 76 rfl hf91.nil))))))))))))))))))))))))))), ⟨hI20, (fun h => by cases h)⟩⟩
        ·
          intro qb ac84 wd13 hf92 ⟨hI21, hj21⟩
          clear ac72 wd12 hf78 hI20
          refine then_normal ?_
          refine code_if hf92 rfl (fun c76_5 => ?_) (fun c76_5 => ?_)
          · have hf93 := hf92.know 76 (u := .bool true) rfl (congrArg Value.bool c76_5)
            refine wp_skip ?_
            refine then_normal ?_
            refine code_seq ?_
            refine wp_block ?_
            refine code_seq ?_
            refine seq_start (l := [0, 1, 2, 3, 4, 5]) rfl ?_
            refine seq_one (op_val (v := .slice q L2 cap2) hf93 rfl rfl rfl rfl rfl rfl (r_move rfl) fun ac85 hf94 => ?_)
            refine seq_one (op_val (v := .int .i64 (d : Int)) hf94 rfl rfl rfl rfl rfl rfl (r_move rfl) fun ac86 hf95 => ?_)
            obtain ⟨kd6, ii6, nn6, hri6, hnn6, hii6, ek6, ei6, en6⟩ := op_row (i := d) ho2 (by have := hj21 c76_5; omega)
            refine seq_one (op_val (v := .pointer (slAt q (d * 3))) hf95 rfl rfl rfl rfl rfl rfl (r_indexAddrR (i := d) (sz := 3) sl_22 rfl rfl rfl (by have := hj21 c76_5; omega) rfl ⟨_, ((hr2.old hI21 (fresh_keys (ks := [b1, b2, b3, sb, rb]) rfl (fk_cons hb1 (fk_cons hb2 (fk_cons hb3 (fk_cons hsb (fk_cons hrb fk_nil))))))) _ _ hri6).choose_spec.1⟩) fun ac87 hf96 => ?_)
            refine seq_one (op_val (v := .pointer (slAt q (d * 3 + 1))) hf96 rfl rfl rfl rfl rfl rfl (r_fieldAddrR fi_39_1 rfl ⟨_, ((hr2.old hI21 (fresh_keys (ks := [b1, b2, b3, sb, rb]) rfl (fk_cons hb1 (fk_cons hb2 (fk_cons hb3 (fk_cons hsb (fk_cons hrb fk_nil))))))) _ _ hri6).choose_spec.1⟩) fun ac88 hf97 => ?_)
            refine seq_one (op_val (v := .int .i64 ii6) hf97 rfl rfl rfl rfl rfl rfl (r_loadF ag_3 rfl (hr2.old hI21 (fresh_keys (ks := [b1, b2, b3, sb, rb]) rfl (fk_cons hb1 (fk_cons hb2 (fk_cons hb3 (fk_cons hsb (fk_cons hrb fk_nil))))))) hri6 rfl) fun ac89 hf98 => ?_)
            refine seq_one (op_val (v := .int .i64 ii6) hf98 rfl rfl rfl rfl rfl rfl (r_assign rfl) fun ac90 hf99 => ?_)
            refine seq_end ?_
            clear hf92 ac84 hf93 ac85 hf94 ac86 hf95 ac87 hf96 ac88 hf97 ac89 hf98
            refine then_normal ?_
            refine code_seq ?_
            refine code_seq ?_
            refine seq_start (l := [0, 1, 2, 3, 4, 5, 6, 7, 8]) rfl ?_
            refine seq_one (op_val (v := .pointer (some ⟨b2, 0, none⟩)) hf99 rfl rfl rfl rfl rfl rfl (r_move rfl) fun ac91 hf100 => ?_)
            refine seq_one (op_val (v := .int .i64 ii6) hf100 rfl rfl rfl rfl rfl rfl (r_move rfl) fun ac92 hf101 => ?_)
            refine seq_one (op_val (v := .slice q L2 cap2) hf101 rfl rfl rfl rfl rfl rfl (r_move rfl) fun ac93 hf102 => ?_)
            refine seq_one (op_val (v := .int .i64 (d : Int)) hf102 rfl rfl rfl rfl rfl rfl (r_move rfl) fun ac94 hf103 => ?_)
            refine seq_one (op_val (v := .pointer (slAt q (d * 3))) hf103 rfl rfl rfl rfl rfl rfl (r_indexAddrR (i := d) (sz := 3) sl_22 rfl rfl rfl (by have := hj21 c76_5; omega) rfl ⟨_, ((hr2.old hI21 (fresh_keys (ks := [b1, b2, b3, sb, rb]) rfl (fk_cons hb1 (fk_cons hb2 (fk_cons hb3 (fk_cons hsb (fk_cons hrb fk_nil))))))) _ _ hri6).choose_spec.1⟩) fun ac95 hf104 => ?_)
            refine seq_one (op_val (v := .pointer (slAt q (d * 3 + 2))) hf104 rfl rfl rfl rfl rfl rfl (r_fieldAddrR fi_39_2 rfl ⟨_, ((hr2.old hI21 (fresh_keys (ks := [b1, b2, b3, sb, rb]) rfl (fk_cons hb1 (fk_cons hb2 (fk_cons hb3 (fk_cons hsb (fk_cons hrb fk_nil))))))) _ _ hri6).choose_spec.1⟩) fun ac96 hf105 => ?_)
            refine seq_one (op_val (v := .int .u64 nn6) hf105 rfl rfl rfl rfl rfl rfl (r_loadF ag_24 rfl (hr2.old hI21 (fresh_keys (ks := [b1, b2, b3, sb, rb]) rfl (fk_cons hb1 (fk_cons hb2 (fk_cons hb3 (fk_cons hsb (fk_cons hrb fk_nil))))))) hri6 rfl) fun ac97 hf106 => ?_)
            rcases place_cases n ii6 with ⟨pp6, hp6, rfl⟩ | ho6
            ·
              refine seq_one (op_call (R := fun v w' => v = .int .i64 0 ∧ Inv _ [(b1, arr .u64 (ys.set pp6 ((ys.getD pp6 0 + nn6) % pw k)), 24), (b2, #[.slice (some ⟨b1, 0, none⟩) n n, .int .i64 (k : Int)], 58)] w') hf106 rfl rfl rfl rfl ca_16 ((add_in (n := n) (k := k) (j := pp6) hx2.lx hp6 hk1 hk2 (hI21.ne (i := 0) (j := 1) rfl rfl (by decide)) (Has.cons (hI21.at 0 rfl) (Has.cons (hI21.at 1 rfl) Has.nil))).mono fun _ _ h => ⟨_, h.1, rfl, h.2⟩) fun ac98 v wd14 hR7 hf107 => ?_)
              obtain ⟨rfl, hR7⟩ := hR7
              have hI22 : Inv w [(b1, arr .u64 (ys.set pp6 ((ys.getD pp6 0 + nn6) % pw k)), 24), (b2, #[.slice (some ⟨b1, 0, none⟩) n n, .int .i64 (k : Int)], 58), (b3, arr .u64 (xs ++ List.replicate m3 0), 24), (sb, arr .u64 ss, 24), (rb, barr rs, 4)] _ := Inv.callS (A := []) (S := [(b1, arr .u64 ys, 24), (b2, #[.slice (some ⟨b1, 0, none⟩) n n, .int .i64 (k : Int)], 58)]) (S' := [(b1, arr .u64 (ys.set pp6 ((ys.getD pp6 0 + nn6) % pw k)), 24), (b2, #[.slice (some ⟨b1, 0, none⟩) n n, .int .i64 (k : Int)], 58)]) (L := [(b3, arr .u64 (xs ++ List.replicate m3 0), 24), (sb, arr .u64 ss, 24), (rb, barr rs, 4)]) (N := []) hI21 hR7 rfl (fun _ h => by cases h)
              refine seq_one (op_val (v := .bool false) hf107 rfl rfl rfl rfl rfl rfl (r_neqC rfl rfl (by decide)) fun ac99 hf108 => ?_)
              refine seq_end ?_
              clear ac90 hf99 ac91 hf100 ac92 hf101 ac93 hf102 ac94 hf103 ac95 hf104 ac96 hf105 ac97 wd13 hf106 hI21 hR7 ac98 hf107
              refine then_normal ?_
              refine code_if_false hf108 rfl ?_
              refine wp_skip ?_
              refine then_normal ?_
              refine code_seq ?_
              refine code_seq ?_
              refine seq_start (l := [0, 1, 2, 3, 4, 5, 6]) rfl ?_
              refine seq_one (op_val (v := .int .i64 (pp6 : Int)) hf108 rfl rfl rfl rfl rfl rfl (r_move rfl) fun ac100 hf109 => ?_)
              refine seq_one (op_val (v := .bool (decide ((pp6 : Int) < 0))) hf109 rfl rfl rfl rfl rfl rfl (r_lss rfl rfl) fun ac101 hf110 => ?_)
              refine seq_one (op_val (v := .bool (decide ((pp6 : Int) < 0))) hf110 rfl rfl rfl rfl rfl rfl (r_move rfl) fun ac102 hf111 => ?_)
              have hf112 := hf111.know 102 (u := .bool false) rfl (congrArg Value.bool (decide_eq_false (by have := hp6; omega)))
              refine seq_one (op_val (v := .int .i64 (pp6 : Int)) hf112 rfl rfl rfl rfl rfl rfl (r_move rfl) fun ac103 hf113 => ?_)
              refine seq_one (op_val (v := .int .i64 (n : Int)) hf113 rfl rfl rfl rfl rfl rfl (r_move rfl) fun ac104 hf114 => ?_)
              refine seq_one (op_val (v := .bool (decide ((pp6 : Int) ≥ (n : Int)))) hf114 rfl rfl rfl rfl rfl rfl (r_geq rfl rfl) fun ac105 hf115 => ?_)
              refine seq_one (op_val (v := .bool (decide ((pp6 : Int) ≥ (n : Int)))) hf115 rfl rfl rfl rfl rfl rfl (r_pickF rfl rfl) fun ac106 hf116 => ?_)
              refine seq_end ?_
              clear ac99 hf108 ac100 hf109 ac101 hf110 hf111 ac102 hf112 ac103 hf113 ac104 hf114 ac105 hf115
              refine then_normal ?_
              have hf117 := hf116.know 106 (u := .bool false) rfl (congrArg Value.bool (decide_eq_false (by have := hp6; omega)))
              refine code_if_false hf117 rfl ?_
              refine wp_skip ?_
              refine then_normal ?_
              refine code_seq ?_
              have hrd8_0 := (hr2.old hI22 (fresh_keys (ks := [b1, b2, b3, sb, rb]) rfl (fk_cons hb1 (fk_cons hb2 (fk_cons hb3 (fk_cons hsb (fk_cons hrb fk_nil)))))))
              refine any_start (fun w => Has [(sb, arr .u64 ss, 24)] w ∧ Rows_ w q 3 rows2) follows ⟨Has.drew (Has.cons (hI22.at 3 rfl) Has.nil), hrd8_0⟩ ?_
              have hS8 : Has [(sb, arr .u64 ss, 24)] _ ∧ Rows_ _ q 3 rows2 := ⟨Has.drew (Has.cons (hI22.at 3 rfl) Has.nil), hrd8_0⟩
              have hI23 := hI22.drew
              refine any_val (i := 0) (v := .slice (some ⟨rb, 0, none⟩) n n) hf117 rfl rfl rfl rfl rfl rfl (fun _ _ _ h => h) (by kernel_rfl) (by kernel_rfl) (by kernel_rfl) (fun wd14 hS8 => (r_move rfl)) hS8 fun ac107 hf118 => ?_
              refine any_val (i := 1) (v := .int .i64 (pp6 : Int)) hf118 rfl rfl rfl rfl rfl rfl (fun _ _ _ h => h) (by kernel_rfl) (by kernel_rfl) (by kernel_rfl) (fun wd14 hS8 => (r_move rfl)) hS8 fun ac108 hf119 => ?_
              refine any_val (i := 2) (v := .slice (some ⟨rb, 0, none⟩) n n) hf119 rfl rfl rfl rfl rfl rfl (fun _ _ _ h => h) (by kernel_rfl) (by kernel_rfl) (by kernel_rfl) (fun wd14 hS8 => (r_move rfl)) hS8 fun ac109 hf120 => ?_
              refine any_val (i := 3) (v := .int .i64 (pp6 : Int)) hf120 rfl rfl rfl rfl rfl rfl (fun _ _ _ h => h) (by kernel_rfl) (by kernel_rfl) (by kernel_rfl) (fun wd14 hS8 => (r_move rfl)) hS8 fun ac110 hf121 => ?_
              refine any_val (i := 4) (v := .pointer (some ⟨rb, pp6, none⟩)) hf121 rfl rfl rfl rfl rfl rfl (fun _ _ _ h => h) (by kernel_rfl) (by kernel_rfl) (by kernel_rfl) (fun wd14 hS8 => (r_indexAddrS (i := pp6) sl_52 rfl rfl rfl hp6 (by rw [Nat.mul_one, Nat.zero_add]))) hS8 fun ac111 hf122 => ?_
              refine any_one (i := 5) (by kernel_rfl) ?_
              refine op_val (v := .bool (rs.getD pp6 false)) hf122 rfl rfl rfl rfl rfl rfl (r_load ag_4 rfl (hI23.at 4 rfl) (barr_get (Nat.lt_of_lt_of_eq hp6 (Eq.symm hx2.lr)))) fun ac112 hf123 => ⟨?_, ?_⟩
              · exact ⟨(Has.cons (hI23.at 3 rfl) Has.nil), (hr2.old hI23 (fresh_keys (ks := [b1, b2, b3, sb, rb]) rfl (fk_cons hb1 (fk_cons hb2 (fk_cons hb3 (fk_cons hsb (fk_cons hrb fk_nil)))))))⟩
              have hS9 : Has [(sb, arr .u64 ss, 24)] _ ∧ Rows_ _ q 3 rows2 := ⟨(Has.cons (hI23.at 3 rfl) Has.nil), (hr2.old hI23 (fresh_keys (ks := [b1, b2, b3, sb, rb]) rfl (fk_cons hb1 (fk_cons hb2 (fk_cons hb3 (fk_cons hsb (fk_cons hrb fk_nil)))))))⟩
              refine any_val (i := 6) (v := .bool (rs.getD pp6 false)) hf123 rfl rfl rfl rfl rfl rfl (fun _ _ _ h => h) (by kernel_rfl) (by kernel_rfl) (by kernel_rfl) (fun wd14 hS9 => (r_move rfl)) hS9 fun ac113 hf124 => ?_
              rcases Bool.eq_false_or_eq_true (rs.getD pp6 false : Bool) with g113_6 | g113_6
              · have hf125 := hf124.know 113 (u := .bool true) rfl (congrArg Value.bool g113_6)
                refine any_skip (i := 7) hf125 rfl rfl rfl rfl (fun _ _ _ h => h) (by kernel_rfl) (by kernel_rfl) (by kernel_rfl) hS9 fun ac114 hf126 => ?_
                refine any_skip (i := 8) hf126 rfl rfl rfl rfl (fun _ _ _ h => h) (by kernel_rfl) (by kernel_rfl) (by kernel_rfl) hS9 fun ac115 hf127 => ?_
                refine any_skip (i := 9) hf127 rfl rfl rfl rfl (fun _ _ _ h => h) (by kernel_rfl) (by kernel_rfl) (by kernel_rfl) hS9 fun ac116 hf128 => ?_
                refine any_skip (i := 10) hf128 rfl rfl rfl rfl (fun _ _ _ h => h) (by kernel_rfl) (by kernel_rfl) (by kernel_rfl) hS9 fun ac117 hf129 => ?_
                refine any_skip (i := 11) hf129 rfl rfl rfl rfl (fun _ _ _ h => h) (by kernel_rfl) (by kernel_rfl) (by kernel_rfl) hS9 fun ac118 hf130 => ?_
                refine any_skip (i := 12) hf130 rfl rfl rfl rfl (fun _ _ _ h => h) (by kernel_rfl) (by kernel_rfl) (by kernel_rfl) hS9 fun ac119 hf131 => ?_
                refine any_skip (i := 13) hf131 rfl rfl rfl rfl (fun _ _ _ h => h) (by kernel_rfl) (by kernel_rfl) (by kernel_rfl) hS9 fun ac120 hf132 => ?_
                refine any_val (i := 14) (v := .bool true) hf132 rfl rfl rfl rfl rfl rfl (fun _ _ _ h => h) (by kernel_rfl) (by kernel_rfl) (by kernel_rfl) (fun wd14 hS9 => (r_pickT rfl rfl)) hS9 fun ac121 hf133 => ?_
                refine any_val (i := 15) (v := .bool true) hf133 rfl rfl rfl rfl rfl rfl (fun _ _ _ h => h) (by kernel_rfl) (by kernel_rfl) (by kernel_rfl) (fun wd14 hS9 => (r_move rfl)) hS9 fun ac122 hf134 => ?_
                refine any_skip (i := 16) hf134 rfl rfl rfl rfl (fun _ _ _ h => h) (by kernel_rfl) (by kernel_rfl) (by kernel_rfl) hS9 fun ac123 hf135 => ?_
                refine any_skip (i := 17) hf135 rfl rfl rfl rfl (fun _ _ _ h => h) (by kernel_rfl) (by kernel_rfl) (by kernel_rfl) hS9 fun ac124 hf136 => ?_
                refine any_skip (i := 18) hf136 rfl rfl rfl rfl (fun _ _ _ h => h) (by kernel_rfl) (by kernel_rfl) (by kernel_rfl) hS9 fun ac125 hf137 => ?_
                refine any_skip (i := 19) hf137 rfl rfl rfl rfl (fun _ _ _ h => h) (by kernel_rfl) (by kernel_rfl) (by kernel_rfl) hS9 fun ac126 hf138 => ?_
                refine any_skip (i := 20) hf138 rfl rfl rfl rfl (fun _ _ _ h => h) (by kernel_rfl) (by kernel_rfl) (by kernel_rfl) hS9 fun ac127 hf139 => ?_
                refine any_skip (i := 21) hf139 rfl rfl rfl rfl (fun _ _ _ h => h) (by kernel_rfl) (by kernel_rfl) (by kernel_rfl) hS9 fun ac128 hf140 => ?_
                refine any_skip (i := 22) hf140 rfl rfl rfl rfl (fun _ _ _ h => h) (by kernel_rfl) (by kernel_rfl) (by kernel_rfl) hS9 fun ac129 hf141 => ?_
                refine any_skip (i := 23) hf141 rfl rfl rfl rfl (fun _ _ _ h => h) (by kernel_rfl) (by kernel_rfl) (by kernel_rfl) hS9 fun ac130 hf142 => ?_
                refine any_skip (i := 24) hf142 rfl rfl rfl rfl (fun _ _ _ h => h) (by kernel_rfl) (by kernel_rfl) (by kernel_rfl) hS9 fun ac131 hf143 => ?_
                refine any_skip (i := 25) hf143 rfl rfl rfl rfl (fun _ _ _ h => h) (by kernel_rfl) (by kernel_rfl) (by kernel_rfl) hS9 fun ac132 hf144 => ?_
                refine any_skip (i := 26) hf144 rfl rfl rfl rfl (fun _ _ _ h => h) (by kernel_rfl) (by kernel_rfl) (by kernel_rfl) hS9 fun ac133 hf145 => ?_
                refine any_skip (i := 27) hf145 rfl rfl rfl rfl (fun _ _ _ h => h) (by kernel_rfl) (by kernel_rfl) (by kernel_rfl) hS9 fun ac134 hf146 => ?_
                refine any_val (i := 28) (v := .bool true) hf146 rfl rfl rfl rfl rfl rfl (fun _ _ _ h => h) (by kernel_rfl) (by kernel_rfl) (by kernel_rfl) (fun wd14 hS9 => (r_pickT rfl rfl)) hS9 fun ac135 hf147 => ?_
                refine any_val (i := 29) (v := .pointer (some ⟨rb, pp6, none⟩)) hf147 rfl rfl rfl rfl rfl rfl (fun _ _ _ h => h) (by kernel_rfl) (by kernel_rfl) (by kernel_rfl) (fun wd14 hS9 => (r_indexAddrS (i := pp6) sl_52 rfl rfl rfl hp6 (by rw [Nat.mul_one, Nat.zero_add]))) hS9 fun ac136 hf148 => ?_
                refine any_one (i := 30) (by kernel_rfl) ?_
                refine (op_store (cs' := barr (rs.set pp6 true)) 4 hf148 rfl rfl rfl rfl rfl sz_4 hI23 rfl (Nat.lt_of_lt_of_eq hp6 (Eq.symm (barr_size hx2.lr))) barr_set fun wd15 hI24 => ⟨?_, ?_⟩)
                · exact ⟨(Has.cons (hI24.at 3 rfl) Has.nil), (hr2.old hI24 (fresh_keys (ks := [b1, b2, b3, sb, rb]) rfl (fk_cons hb1 (fk_cons hb2 (fk_cons hb3 (fk_cons hsb (fk_cons hrb fk_nil)))))))⟩
                have hI25 : Inv w [(b1, arr .u64 (ys.set pp6 ((ys.getD pp6 0 + nn6) % pw k)), 24), (b2, #[.slice (some ⟨b1, 0, none⟩) n n, .int .i64 (k : Int)], 58), (b3, arr .u64 (xs ++ List.replicate m3 0), 24), (sb, arr .u64 ss, 24), (rb, barr (rs.set pp6 true), 4)] wd15 := hI24
                have hS10 : Has [(sb, arr .u64 ss, 24)] _ ∧ Rows_ _ q 3 rows2 := ⟨(Has.cons (hI25.at 3 rfl) Has.nil), (hr2.old hI25 (fresh_keys (ks := [b1, b2, b3, sb, rb]) rfl (fk_cons hb1 (fk_cons hb2 (fk_cons hb3 (fk_cons hsb (fk_cons hrb fk_nil)))))))⟩
                refine any_end (by kernel_rfl) ?_
                clear hf116 hrd8_0 hI22 ac106 hf117 ac107 hf118 ac108 hf119 ac109 hf120 ac110 hf121 ac111 hf122 hS8 ac112 hf123 hf124 ac113 hf125 ac114 hf126 ac115 hf127 ac116 hf128 ac117 hf129 ac118 hf130 ac119 hf131 ac120 hf132 ac121 hf133 ac122 hf134 ac123 hf135 ac124 hf136 ac125 hf137 ac126 hf138 ac127 hf139 ac128 hf140 ac129 hf141 ac130 hf142 ac131 hf143 ac132 hf144 ac133 hf145 ac134 hf146 ac135 hf147 wd14 hI23 hI24 hS9 hS10
                refine then_normal ?_
                have hrd9_0 := (hr2.old hI25 (fresh_keys (ks := [b1, b2, b3, sb, rb]) rfl (fk_cons hb1 (fk_cons hb2 (fk_cons hb3 (fk_cons hsb (fk_cons hrb fk_nil)))))))
                refine any_start (fun w => Has [] w ∧ Rows_ w q 3 rows2) follows ⟨Has.drew (hI25.has0), hrd9_0⟩ ?_
                have hS11 : Has [] _ ∧ Rows_ _ q 3 rows2 := ⟨Has.drew (hI25.has0), hrd9_0⟩
                have hI26 := hI25.drew
                refine any_val (i := 0) (v := .slice (some ⟨sb, 0, none⟩) n n) hf148 rfl rfl rfl rfl rfl rfl (fun _ _ _ h => h) (by kernel_rfl) (by kernel_rfl) (by kernel_rfl) (fun wd15 hS11 => (r_move rfl)) hS11 fun ac137 hf149 => ?_
                refine any_val (i := 1) (v := .int .i64 (pp6 : Int)) hf149 rfl rfl rfl rfl rfl rfl (fun _ _ _ h => h) (by kernel_rfl) (by kernel_rfl) (by kernel_rfl) (fun wd15 hS11 => (r_move rfl)) hS11 fun ac138 hf150 => ?_
                refine any_val (i := 2) (v := .pointer (some ⟨sb, pp6, none⟩)) hf150 rfl rfl rfl rfl rfl rfl (fun _ _ _ h => h) (by kernel_rfl) (by kernel_rfl) (by kernel_rfl) (fun wd15 hS11 => (r_indexAddrS (i := pp6) sl_23 rfl rfl rfl hp6 (by rw [Nat.mul_one, Nat.zero_add]))) hS11 fun ac139 hf151 => ?_
                refine any_val (i := 4) (v := .slice q L2 cap2) hf151 rfl rfl rfl rfl rfl rfl (fun _ _ _ h => h) (by kernel_rfl) (by kernel_rfl) (by kernel_rfl) (fun wd15 hS11 => (r_move rfl)) hS11 fun ac140 hf152 => ?_
                refine any_val (i := 5) (v := .int .i64 (d : Int)) hf152 rfl rfl rfl rfl rfl rfl (fun _ _ _ h => h) (by kernel_rfl) (by kernel_rfl) (by kernel_rfl) (fun wd15 hS11 => (r_move rfl)) hS11 fun ac141 hf153 => ?_
                refine any_val (i := 6) (v := .pointer (slAt q (d * 3))) hf153 rfl rfl rfl rfl rfl rfl (fun _ _ _ h => h) (by kernel_rfl) (by kernel_rfl) (by kernel_rfl) (fun wd15 hS11 => (r_indexAddrR (i := d) (sz := 3) sl_22 rfl rfl rfl (by have := hj21 c76_5; omega) rfl ⟨_, ((hr2.old hI26 (fresh_keys (ks := [b1, b2, b3, sb, rb]) rfl (fk_cons hb1 (fk_cons hb2 (fk_cons hb3 (fk_cons hsb (fk_cons hrb fk_nil))))))) _ _ hri6).choose_spec.1⟩)) hS11 fun ac142 hf154 => ?_
                refine any_val (i := 7) (v := .pointer (slAt q (d * 3 + 2))) hf154 rfl rfl rfl rfl rfl rfl (fun _ _ _ h => h) (by kernel_rfl) (by kernel_rfl) (by kernel_rfl) (fun wd15 hS11 => (r_fieldAddrR fi_39_2 rfl ⟨_, ((hr2.old hI26 (fresh_keys (ks := [b1, b2, b3, sb, rb]) rfl (fk_cons hb1 (fk_cons hb2 (fk_cons hb3 (fk_cons hsb (fk_cons hrb fk_nil))))))) _ _ hri6).choose_spec.1⟩)) hS11 fun ac143 hf155 => ?_
                refine any_val (i := 8) (v := .int .u64 nn6) hf155 rfl rfl rfl rfl rfl rfl (fun _ _ _ h => h) (by kernel_rfl) (by kernel_rfl) (by kernel_rfl) (fun wd15 hS11 => (r_loadF ag_24 rfl hS11.2 hri6 rfl)) hS11 fun ac144 hf156 => ?_
                refine any_one (i := 3) (by kernel_rfl) ?_
                refine op_val (v := .int .u64 (ss.getD pp6 0)) hf156 rfl rfl rfl rfl rfl rfl (r_load ag_24 rfl (hI26.at 3 rfl) (arr_get (Nat.lt_of_lt_of_eq hp6 (Eq.symm hx2.ls)))) fun ac145 hf157 => ⟨?_, ?_⟩
                · exact ⟨(hI26.has0), (hr2.old hI26 (fresh_keys (ks := [b1, b2, b3, sb, rb]) rfl (fk_cons hb1 (fk_cons hb2 (fk_cons hb3 (fk_cons hsb (fk_cons hrb fk_nil)))))))⟩
                have hS12 : Has [] _ ∧ Rows_ _ q 3 rows2 := ⟨(hI26.has0), (hr2.old hI26 (fresh_keys (ks := [b1, b2, b3, sb, rb]) rfl (fk_cons hb1 (fk_cons hb2 (fk_cons hb3 (fk_cons hsb (fk_cons hrb fk_nil)))))))⟩
                refine any_val (i := 9) (v := .int .u64 (IntKind.wrap .u64 ((ss.getD pp6 0) + nn6))) hf157 rfl rfl rfl rfl rfl rfl (fun _ _ _ h => h) (by kernel_rfl) (by kernel_rfl) (by kernel_rfl) (fun wd15 hS12 => (r_add rfl rfl rfl)) hS12 fun ac146 hf158 => ?_
                refine any_val (i := 10) (v := .pointer (some ⟨sb, pp6, none⟩)) hf158 rfl rfl rfl rfl rfl rfl (fun _ _ _ h => h) (by kernel_rfl) (by kernel_rfl) (by kernel_rfl) (fun wd15 hS12 => (r_indexAddrS (i := pp6) sl_23 rfl rfl rfl hp6 (by rw [Nat.mul_one, Nat.zero_add]))) hS12 fun ac147 hf159 => ?_
                refine any_one (i := 11) (by kernel_rfl) ?_
                refine (op_store (cs' := arr .u64 (ss.set pp6 (IntKind.wrap .u64 ((ss.getD pp6 0) + nn6)))) 3 hf159 rfl rfl rfl rfl rfl sz_24 hI26 rfl (Nat.lt_of_lt_of_eq hp6 (Eq.symm (arr_size hx2.ls))) arr_set fun wd16 hI27 => ⟨?_, ?_⟩)
                · exact ⟨(hI27.has0), (hr2.old hI27 (fresh_keys (ks := [b1, b2, b3, sb, rb]) rfl (fk_cons hb1 (fk_cons hb2 (fk_cons hb3 (fk_cons hsb (fk_cons hrb fk_nil)))))))⟩
                have hI28 : Inv w [(b1, arr .u64 (ys.set pp6 ((ys.getD pp6 0 + nn6) % pw k)), 24), (b2, #[.slice (some ⟨b1, 0, none⟩) n n, .int .i64 (k : Int)], 58), (b3, arr .u64 (xs ++ List.replicate m3 0), 24), (sb, arr .u64 (ss.set pp6 (IntKind.wrap .u64 ((ss.getD pp6 0) + nn6))), 24), (rb, barr (rs.set pp6 true), 4)] wd16 := hI27
                have hS13 : Has [] _ ∧ Rows_ _ q 3 rows2 := ⟨(hI28.has0), (hr2.old hI28 (fresh_keys (ks := [b1, b2, b3, sb, rb]) rfl (fk_cons hb1 (fk_cons hb2 (fk_cons hb3 (fk_cons hsb (fk_cons hrb fk_nil)))))))⟩
                refine any_end (by kernel_rfl) ?_
                clear hrd9_0 hI25 ac136 hf148 ac137 hf149 ac138 hf150 ac139 hf151 ac140 hf152 ac141 hf153 ac142 hf154 ac143 hf155 ac144 hf156 hS11 ac145 hf157 ac146 hf158 wd15 hI26 hI27 hS12 hS13
                refine block_normal ?_
                refine then_normal ?_
                refine seq_start (l := [0, 1, 2]) rfl ?_
                refine seq_one (op_val (v := .int .i64 (d : Int)) hf159 rfl rfl rfl rfl rfl rfl (r_move rfl) fun ac148 hf160 => ?_)
                refine seq_one (op_val (v := .int .i64 ((d + 1 : Nat) : Int)) hf160 rfl rfl rfl rfl rfl rfl (r_add (c := ((d + 1 : Nat) : Int)) rfl rfl (wrap_i64 (by omega) (by have := hj21 c76_5; omega))) fun ac149 hf161 => ?_)
                refine seq_one (op_val (v := .int .i64 ((d + 1 : Nat) : Int)) hf161 rfl rfl rfl rfl rfl rfl (r_assign rfl) fun ac150 hf162 => ?_)
                refine seq_end ?_
                clear ac147 hf159 ac148 hf160 ac149 hf161
                refine then_normal ?_
                exact ⟨(d + 1, (ys.set pp6 ((ys.getD pp6 0 + nn6) % pw k)), (ss.set pp6 (IntKind.wrap .u64 ((ss.getD pp6 0) + nn6))), (rs.set pp6 true)), (hf162.cons 0 rfl (hf162.cons 1 rfl (hf162.cons 2 rfl (hf162.cons 3 rfl (hf162.cons 9 rfl (hf162.cons 10 rfl (hf162.cons 11 rfl (hf162.cons 12 rfl (hf162.cons 13 rfl (hf162.cons 14 rfl (hf162.cons 15 rfl (hf162.cons 16 rfl (hf162.cons 23 rfl (hf162.cons 24 rfl (hf162.cons 25 rfl (hf162.cons 26 rfl (hf162.cons 27 rfl (hf162.cons 28 rfl (hf162.cons 29 rfl (hf162.cons 30 rfl (hf162.cons 31 rfl (hf162.cons 32 rfl (hf162.cons 40 rfl (hf162.cons 63 rfl (hf162.cons 64 rfl (hf162.cons 17 rfl hf162.nil)))))))))))))))))))))))))), ⟨hI28, (hx2.step hk1 hk2 hp6 hnn6 (fun h => by cases h))⟩, (by have := hj21 c76_5; show 40 - (d + 1) < 40 - d; omega)⟩
              · have hf163 := hf124.know 113 (u := .bool false) rfl (congrArg Value.bool g113_6)
                refine any_val (i := 7) (v := .slice q L2 cap2) hf163 rfl rfl rfl rfl rfl rfl (fun _ _ _ h => h) (by kernel_rfl) (by kernel_rfl) (by kernel_rfl) (fun wd14 hS9 => (r_move rfl)) hS9 fun ac151 hf164 => ?_
                refine any_val (i := 8) (v := .int .i64 (d : Int)) hf164 rfl rfl rfl rfl rfl rfl (fun _ _ _ h => h) (by kernel_rfl) (by kernel_rfl) (by kernel_rfl) (fun wd14 hS9 => (r_move rfl)) hS9 fun ac152 hf165 => ?_
                refine any_val (i := 9) (v := .pointer (slAt q (d * 3))) hf165 rfl rfl rfl rfl rfl rfl (fun _ _ _ h => h) (by kernel_rfl) (by kernel_rfl) (by kernel_rfl) (fun wd14 hS9 => (r_indexAddrR (i := d) (sz := 3) sl_22 rfl rfl rfl (by have := hj21 c76_5; omega) rfl ⟨_, ((hr2.old hI23 (fresh_keys (ks := [b1, b2, b3, sb, rb]) rfl (fk_cons hb1 (fk_cons hb2 (fk_cons hb3 (fk_cons hsb (fk_cons hrb fk_nil))))))) _ _ hri6).choose_spec.1⟩)) hS9 fun ac153 hf166 => ?_
                refine any_val (i := 10) (v := .pointer (slAt q (d * 3 + 2))) hf166 rfl rfl rfl rfl rfl rfl (fun _ _ _ h => h) (by kernel_rfl) (by kernel_rfl) (by kernel_rfl) (fun wd14 hS9 => (r_fieldAddrR fi_39_2 rfl ⟨_, ((hr2.old hI23 (fresh_keys (ks := [b1, b2, b3, sb, rb]) rfl (fk_cons hb1 (fk_cons hb2 (fk_cons hb3 (fk_cons hsb (fk_cons hrb fk_nil))))))) _ _ hri6).choose_spec.1⟩)) hS9 fun ac154 hf167 => ?_
                refine any_val (i := 11) (v := .int .u64 nn6) hf167 rfl rfl rfl rfl rfl rfl (fun _ _ _ h => h) (by kernel_rfl) (by kernel_rfl) (by kernel_rfl) (fun wd14 hS9 => (r_loadF ag_24 rfl hS9.2 hri6 rfl)) hS9 fun ac155 hf168 => ?_
                refine any_val (i := 12) (v := .int .u64 (pw k - 1)) hf168 rfl rfl rfl rfl rfl rfl (fun _ _ _ h => h) (by kernel_rfl) (by kernel_rfl) (by kernel_rfl) (fun wd14 hS9 => (r_move rfl)) hS9 fun ac156 hf169 => ?_
                refine any_val (i := 13) (v := .bool (decide (nn6 > (pw k - 1)))) hf169 rfl rfl rfl rfl rfl rfl (fun _ _ _ h => h) (by kernel_rfl) (by kernel_rfl) (by kernel_rfl) (fun wd14 hS9 => (r_gtr rfl rfl)) hS9 fun ac157 hf170 => ?_
                refine any_val (i := 14) (v := .bool (decide (nn6 > (pw k - 1)))) hf170 rfl rfl rfl rfl rfl rfl (fun _ _ _ h => h) (by kernel_rfl) (by kernel_rfl) (by kernel_rfl) (fun wd14 hS9 => (r_pickF rfl rfl)) hS9 fun ac158 hf171 => ?_
                refine any_val (i := 15) (v := .bool (decide (nn6 > (pw k - 1)))) hf171 rfl rfl rfl rfl rfl rfl (fun _ _ _ h => h) (by kernel_rfl) (by kernel_rfl) (by kernel_rfl) (fun wd14 hS9 => (r_move rfl)) hS9 fun ac159 hf172 => ?_
                rcases Bool.eq_false_or_eq_true (decide (nn6 > (pw k - 1)) : Bool) with g122_7 | g122_7
                · have hf173 := hf172.know 122 (u := .bool true) rfl (congrArg Value.bool g122_7)
                  refine any_skip (i := 16) hf173 rfl rfl rfl rfl (fun _ _ _ h => h) (by kernel_rfl) (by kernel_rfl) (by kernel_rfl) hS9 fun ac160 hf174 => ?_
                  refine any_skip (i := 17) hf174 rfl rfl rfl rfl (fun _ _ _ h => h) (by kernel_rfl) (by kernel_rfl) (by kernel_rfl) hS9 fun ac161 hf175 => ?_
                  refine any_skip (i := 18) hf175 rfl rfl rfl rfl (fun _ _ _ h => h) (by kernel_rfl) (by kernel_rfl) (by kernel_rfl) hS9 fun ac162 hf176 => ?_
                  refine any_skip (i := 19) hf176 rfl rfl rfl rfl (fun _ _ _ h => h) (by kernel_rfl) (by kernel_rfl) (by kernel_rfl) hS9 fun ac163 hf177 => ?_
                  refine any_skip (i := 20) hf177 rfl rfl rfl rfl (fun _ _ _ h => h) (by kernel_rfl) (by kernel_rfl) (by kernel_rfl) hS9 fun ac164 hf178 => ?_
                  refine any_skip (i := 21) hf178 rfl rfl rfl rfl (fun _ _ _ h => h) (by kernel_rfl) (by kernel_rfl) (by kernel_rfl) hS9 fun ac165 hf179 => ?_
                  refine any_skip (i := 22) hf179 rfl rfl rfl rfl (fun _ _ _ h => h) (by kernel_rfl) (by kernel_rfl) (by kernel_rfl) hS9 fun ac166 hf180 => ?_
                  refine any_skip (i := 23) hf180 rfl rfl rfl rfl (fun _ _ _ h => h) (by kernel_rfl) (by kernel_rfl) (by kernel_rfl) hS9 fun ac167 hf181 => ?_
                  refine any_skip (i := 24) hf181 rfl rfl rfl rfl (fun _ _ _ h => h) (by kernel_rfl) (by kernel_rfl) (by kernel_rfl) hS9 fun ac168 hf182 => ?_
                  refine any_skip (i := 25) hf182 rfl rfl rfl rfl (fun _ _ _ h => h) (by kernel_rfl) (by kernel_rfl) (by kernel_rfl) hS9 fun ac169 hf183 => ?_
                  refine any_skip (i := 26) hf183 rfl rfl rfl rfl (fun _ _ _ h => h) (by kernel_rfl) (by kernel_rfl) (by kernel_rfl) hS9 fun ac170 hf184 => ?_
                  refine any_skip (i := 27) hf184 rfl rfl rfl rfl (fun _ _ _ h => h) (by kernel_rfl) (by kernel_rfl) (by kernel_rfl) hS9 fun ac171 hf185 => ?_
                  refine any_val (i := 28) (v := .bool true) hf185 rfl rfl rfl rfl rfl rfl (fun _ _ _ h => h) (by kernel_rfl) (by kernel_rfl) (by kernel_rfl) (fun wd14 hS9 => (r_pickT rfl rfl)) hS9 fun ac172 hf186 => ?_
                  refine any_val (i := 29) (v := .pointer (some ⟨rb, pp6, none⟩)) hf186 rfl rfl rfl rfl rfl rfl (fun _ _ _ h => h) (by kernel_rfl) (by kernel_rfl) (by kernel_rfl) (fun wd14 hS9 => (r_indexAddrS (i := pp6) sl_52 rfl rfl rfl hp6 (by rw [Nat.mul_one, Nat.zero_add]))) hS9 fun ac173 hf187 => ?_
                  refine any_one (i := 30) (by kernel_rfl) ?_
                  refine (op_store (cs' := barr (rs.set pp6 true)) 4 hf187 rfl rfl rfl rfl rfl sz_4 hI23 rfl (Nat.lt_of_lt_of_eq hp6 (Eq.symm (barr_size hx2.lr))) barr_set fun wd17 hI29 => ⟨?_, ?_⟩)
                  · exact ⟨(Has.cons (hI29.at 3 rfl) Has.nil), (hr2.old hI29 (fresh_keys (ks := [b1, b2, b3, sb, rb]) rfl (fk_cons hb1 (fk_cons hb2 (fk_cons hb3 (fk_cons hsb (fk_cons hrb fk_nil)))))))⟩
                  have hI30 : Inv w [(b1, arr .u64 (ys.set pp6 ((ys.getD pp6 0 + nn6) % pw k)), 24), (b2, #[.slice (some ⟨b1, 0, none⟩) n n, .int .i64 (k : Int)], 58), (b3, arr .u64 (xs ++ List.replicate m3 0), 24), (sb, arr .u64 ss, 24), (rb, barr (rs.set pp6 true), 4)] wd17 := hI29
                  have hS14 : Has [(sb, arr .u64 ss, 24)] _ ∧ Rows_ _ q 3 rows2 := ⟨(Has.cons (hI30.at 3 rfl) Has.nil), (hr2.old hI30 (fresh_keys (ks := [b1, b2, b3, sb, rb]) rfl (fk_cons hb1 (fk_cons hb2 (fk_cons hb3 (fk_cons hsb (fk_cons hrb fk_nil)))))))⟩
                  refine any_end (by kernel_rfl) ?_
                  clear hf116 hrd8_0 hI22 ac106 hf117 ac107 hf118 ac108 hf119 ac109 hf120 ac110 hf121 ac111 hf122 hS8 ac112 hf123 hf124 ac113 hf163 ac151 hf164 ac152 hf165 ac153 hf166 ac154 hf167 ac155 hf168 ac156 hf169 ac157 hf170 ac158 hf171 hf172 ac159 hf173 ac160 hf174 ac161 hf175 ac162 hf176 ac163 hf177 ac164 hf178 ac165 hf179 ac166 hf180 ac167 hf181 ac168 hf182 ac169 hf183 ac170 hf184 ac171 hf185 ac172 hf186 wd14 hI23 hI29 hS9 hS14
                  refine then_normal ?_
                  have hrd9_0 := (hr2.old hI30 (fresh_keys (ks := [b1, b2, b3, sb, rb]) rfl (fk_cons hb1 (fk_cons hb2 (fk_cons hb3 (fk_cons hsb (fk_cons hrb fk_nil)))))))
                  refine any_start (fun w => Has [] w ∧ Rows_ w q 3 rows2) follows ⟨Has.drew (hI30.has0), hrd9_0⟩ ?_
                  have hS15 : Has [] _ ∧ Rows_ _ q 3 rows2 := ⟨Has.drew (hI30.has0), hrd9_0⟩
                  have hI31 := hI30.drew
                  refine any_val (i := 0) (v := .slice (some ⟨sb, 0, none⟩) n n) hf187 rfl rfl rfl rfl rfl rfl (fun _ _ _ h => h) (by kernel_rfl) (by kernel_rfl) (by kernel_rfl) (fun wd17 hS15 => (r_move rfl)) hS15 fun ac174 hf188 => ?_
                  refine any_val (i := 1) (v := .int .i64 (pp6 : Int)) hf188 rfl rfl rfl rfl rfl rfl (fun _ _ _ h => h) (by kernel_rfl) (by kernel_rfl) (by kernel_rfl) (fun wd17 hS15 => (r_move rfl)) hS15 fun ac175 hf189 => ?_
                  refine any_val (i := 2) (v := .pointer (some ⟨sb, pp6, none⟩)) hf189 rfl rfl rfl rfl rfl rfl (fun _ _ _ h => h) (by kernel_rfl) (by kernel_rfl) (by kernel_rfl) (fun wd17 hS15 => (r_indexAddrS (i := pp6) sl_23 rfl rfl rfl hp6 (by rw [Nat.mul_one, Nat.zero_add]))) hS15 fun ac176 hf190 => ?_
                  refine any_val (i := 4) (v := .slice q L2 cap2) hf190 rfl rfl rfl rfl rfl rfl (fun _ _ _ h => h) (by kernel_rfl) (by kernel_rfl) (by kernel_rfl) (fun wd17 hS15 => (r_move rfl)) hS15 fun ac177 hf191 => ?_
                  refine any_val (i := 5) (v := .int .i64 (d : Int)) hf191 rfl rfl rfl rfl rfl rfl (fun _ _ _ h => h) (by kernel_rfl) (by kernel_rfl) (by kernel_rfl) (fun wd17 hS15 => (r_move rfl)) hS15 fun ac178 hf192 => ?_
                  refine any_val (i := 6) (v := .pointer (slAt q (d * 3))) hf192 rfl rfl rfl rfl rfl rfl (fun _ _ _ h => h) (by kernel_rfl) (by kernel_rfl) (by kernel_rfl) (fun wd17 hS15 => (r_indexAddrR (i := d) (sz := 3) sl_22 rfl rfl rfl (by have := hj21 c76_5; omega) rfl ⟨_, ((hr2.old hI31 (fresh_keys (ks := [b1, b2, b3, sb, rb]) rfl (fk_cons hb1 (fk_cons hb2 (fk_cons hb3 (fk_cons hsb (fk_cons hrb fk_nil))))))) _ _ hri6).choose_spec.1⟩)) hS15 fun ac179 hf193 => ?_
                  refine any_val (i := 7) (v := .pointer (slAt q (d * 3 + 2))) hf193 rfl rfl rfl rfl rfl rfl (fun _ _ _ h => h) (by kernel_rfl) (by kernel_rfl) (by kernel_rfl) (fun wd17 hS15 => (r_fieldAddrR fi_39_2 rfl ⟨_, ((hr2.old hI31 (fresh_keys (ks := [b1, b2, b3, sb, rb]) rfl (fk_cons hb1 (fk_cons hb2 (fk_cons hb3 (fk_cons hsb (fk_cons hrb fk_nil))))))) _ _ hri6).choose_spec.1⟩)) hS15 fun ac180 hf194 => ?_
                  refine any_val (i := 8) (v := .int .u64 nn6) hf194 rfl rfl rfl rfl rfl rfl (fun _ _ _ h => h) (by kernel_rfl) (by kernel_rfl) (by kernel_rfl) (fun wd17 hS15 => (r_loadF ag_24 rfl hS15.2 hri6 rfl)) hS15 fun ac181 hf195 => ?_
                  refine any_one (i := 3) (by kernel_rfl) ?_
                  refine op_val (v := .int .u64 (ss.getD pp6 0)) hf195 rfl rfl rfl rfl rfl rfl (r_load ag_24 rfl (hI31.at 3 rfl) (arr_get (Nat.lt_of_lt_of_eq hp6 (Eq.symm hx2.ls)))) fun ac182 hf196 => ⟨?_, ?_⟩
                  · exact ⟨(hI31.has0), (hr2.old hI31 (fresh_keys (ks := [b1, b2, b3, sb, rb]) rfl (fk_cons hb1 (fk_cons hb2 (fk_cons hb3 (fk_cons hsb (fk_cons hrb fk_nil)))))))⟩
                  have hS16 : Has [] _ ∧ Rows_ _ q 3 rows2 := ⟨(hI31.has0), (hr2.old hI31 (fresh_keys (ks := [b1, b2, b3, sb, rb]) rfl (fk_cons hb1 (fk_cons hb2 (fk_cons hb3 (fk_cons hsb (fk_cons hrb fk_nil)))))))⟩
                  refine any_val (i := 9) (v := .int .u64 (IntKind.wrap .u64 ((ss.getD pp6 0) + nn6))) hf196 rfl rfl rfl rfl rfl rfl (fun _ _ _ h => h) (by kernel_rfl) (by kernel_rfl) (by kernel_rfl) (fun wd17 hS16 => (r_add rfl rfl rfl)) hS16 fun ac183 hf197 => ?_
                  refine any_val (i := 10) (v := .pointer (some ⟨sb, pp6, none⟩)) hf197 rfl rfl rfl rfl rfl rfl (fun _ _ _ h => h) (by kernel_rfl) (by kernel_rfl) (by kernel_rfl) (fun wd17 hS16 => (r_indexAddrS (i := pp6) sl_23 rfl rfl rfl hp6 (by rw [Nat.mul_one, Nat.zero_add]))) hS16 fun ac184 hf198 => ?_
                  refine any_one (i := 11) (by kernel_rfl) ?_
                  refine (op_store (cs' := arr .u64 (ss.set pp6 (IntKind.wrap .u64 ((ss.getD pp6 0) + nn6)))) 3 hf198 rfl rfl rfl rfl rfl sz_24 hI31 rfl (Nat.lt_of_lt_of_eq hp6 (Eq.symm (arr_size hx2.ls))) arr_set fun wd18 hI32 => ⟨?_, ?_⟩)
                  · exact ⟨(hI32.has0), (hr2.old hI32 (fresh_keys (ks := [b1, b2, b3, sb, rb]) rfl (fk_cons hb1 (fk_cons hb2 (fk_cons hb3 (fk_cons hsb (fk_cons hrb fk_nil)))))))⟩
                  have hI33 : Inv w [(b1, arr .u64 (ys.set pp6 ((ys.getD pp6 0 + nn6) % pw k)), 24), (b2, #[.slice (some ⟨b1, 0, none⟩) n n, .int .i64 (k : Int)], 58), (b3, arr .u64 (xs ++ List.replicate m3 0), 24), (sb, arr .u64 (ss.set pp6 (IntKind.wrap .u64 ((ss.getD pp6 0) + nn6))), 24), (rb, barr (rs.set pp6 true), 4)] wd18 := hI32
                  have hS17 : Has [] _ ∧ Rows_ _ q 3 rows2 := ⟨(hI33.has0), (hr2.old hI33 (fresh_keys (ks := [b1, b2, b3, sb, rb]) rfl (fk_cons hb1 (fk_cons hb2 (fk_cons hb3 (fk_cons hsb (fk_cons hrb fk_nil)))))))⟩
                  refine any_end (by kernel_rfl) ?_
                  clear hrd9_0 hI30 ac173 hf187 ac174 hf188 ac175 hf189 ac176 hf190 ac177 hf191 ac178 hf192 ac179 hf193 ac180 hf194 ac181 hf195 hS15 ac182 hf196 ac183 hf197 wd17 hI31 hI32 hS16 hS17
                  refine block_normal ?_
                  refine then_normal ?_
                  refine seq_start (l := [0, 1, 2]) rfl ?_
                  refine seq_one (op_val (v := .int .i64 (d : Int)) hf198 rfl rfl rfl rfl rfl rfl (r_move rfl) fun ac185 hf199 => ?_)
                  refine seq_one (op_val (v := .int .i64 ((d + 1 : Nat) : Int)) hf199 rfl rfl rfl rfl rfl rfl (r_add (c := ((d + 1 : Nat) : Int)) rfl rfl (wrap_i64 (by omega) (by have := hj21 c76_5; omega))) fun ac186 hf200 => ?_)
                  refine seq_one (op_val (v := .int .i64 ((d + 1 : Nat) : Int)) hf200 rfl rfl rfl rfl rfl rfl (r_assign rfl) fun ac187 hf201 => ?_)
                  refine seq_end ?_
                  clear ac184 hf198 ac185 hf199 ac186 hf200
                  refine then_normal ?_
                  exact ⟨(d + 1, (ys.set pp6 ((ys.getD pp6 0 + nn6) % pw k)), (ss.set pp6 (IntKind.wrap .u64 ((ss.getD pp6 0) + nn6))), (rs.set pp6 true)), (hf201.cons 0 rfl (hf201.cons 1 rfl (hf201.cons 2 rfl (hf201.cons 3 rfl (hf201.cons 9 rfl (hf201.cons 10 rfl (hf201.cons 11 rfl (hf201.cons 12 rfl (hf201.cons 13 rfl (hf201.cons 14 rfl (hf201.cons 15 rfl (hf201.cons 16 rfl (hf201.cons 23 rfl (hf201.cons 24 rfl (hf201.cons 25 rfl (hf201.cons 26 rfl (hf201.cons 27 rfl (hf201.cons 28 rfl (hf201.cons 29 rfl (hf201.cons 30 rfl (hf201.cons 31 rfl (hf201.cons 32 rfl (hf201.cons 40 rfl (hf201.cons 63 rfl (hf201.cons 64 rfl (hf201.cons 17 rfl hf201.nil)))))))))))))))))))))))))), ⟨hI33, (hx2.step hk1 hk2 hp6 hnn6 (fun h => by cases h))⟩, (by have := hj21 c76_5; show 40 - (d + 1) < 40 - d; omega)⟩
                · have hf202 := hf172.know 122 (u := .bool false) rfl (congrArg Value.bool g122_7)
                  refine any_val (i := 16) (v := .slice (some ⟨sb, 0, none⟩) n n) hf202 rfl rfl rfl rfl rfl rfl (fun _ _ _ h => h) (by kernel_rfl) (by kernel_rfl) (by kernel_rfl) (fun wd14 hS9 => (r_move rfl)) hS9 fun ac188 hf203 => ?_
                  refine any_val (i := 17) (v := .int .i64 (pp6 : Int)) hf203 rfl rfl rfl rfl rfl rfl (fun _ _ _ h => h) (by kernel_rfl) (by kernel_rfl) (by kernel_rfl) (fun wd14 hS9 => (r_move rfl)) hS9 fun ac189 hf204 => ?_
                  refine any_val (i := 18) (v := .pointer (some ⟨sb, pp6, none⟩)) hf204 rfl rfl rfl rfl rfl rfl (fun _ _ _ h => h) (by kernel_rfl) (by kernel_rfl) (by kernel_rfl) (fun wd14 hS9 => (r_indexAddrS (i := pp6) sl_23 rfl rfl rfl hp6 (by rw [Nat.mul_one, Nat.zero_add]))) hS9 fun ac190 hf205 => ?_
                  refine any_val (i := 19) (v := .int .u64 (ss.getD pp6 0)) hf205 rfl rfl rfl rfl rfl rfl (fun _ _ _ h => h) (by kernel_rfl) (by kernel_rfl) (by kernel_rfl) (fun wd14 hS9 => (r_load ag_24 rfl (hS9.1.at 0 rfl) (arr_get (Nat.lt_of_lt_of_eq hp6 (Eq.symm hx2.ls))))) hS9 fun ac191 hf206 => ?_
                  refine any_val (i := 20) (v := .int .u64 (pw k - 1)) hf206 rfl rfl rfl rfl rfl rfl (fun _ _ _ h => h) (by kernel_rfl) (by kernel_rfl) (by kernel_rfl) (fun wd14 hS9 => (r_move rfl)) hS9 fun ac192 hf207 => ?_
                  refine any_val (i := 21) (v := .slice q L2 cap2) hf207 rfl rfl rfl rfl rfl rfl (fun _ _ _ h => h) (by kernel_rfl) (by kernel_rfl) (by kernel_rfl) (fun wd14 hS9 => (r_move rfl)) hS9 fun ac193 hf208 => ?_
                  refine any_val (i := 22) (v := .int .i64 (d : Int)) hf208 rfl rfl rfl rfl rfl rfl (fun _ _ _ h => h) (by kernel_rfl) (by kernel_rfl) (by kernel_rfl) (fun wd14 hS9 => (r_move rfl)) hS9 fun ac194 hf209 => ?_
                  refine any_val (i := 23) (v := .pointer (slAt q (d * 3))) hf209 rfl rfl rfl rfl rfl rfl (fun _ _ _ h => h) (by kernel_rfl) (by kernel_rfl) (by kernel_rfl) (fun wd14 hS9 => (r_indexAddrR (i := d) (sz := 3) sl_22 rfl rfl rfl (by have := hj21 c76_5; omega) rfl ⟨_, ((hr2.old hI23 (fresh_keys (ks := [b1, b2, b3, sb, rb]) rfl (fk_cons hb1 (fk_cons hb2 (fk_cons hb3 (fk_cons hsb (fk_cons hrb fk_nil))))))) _ _ hri6).choose_spec.1⟩)) hS9 fun ac195 hf210 => ?_
                  refine any_val (i := 24) (v := .pointer (slAt q (d * 3 + 2))) hf210 rfl rfl rfl rfl rfl rfl (fun _ _ _ h => h) (by kernel_rfl) (by kernel_rfl) (by kernel_rfl) (fun wd14 hS9 => (r_fieldAddrR fi_39_2 rfl ⟨_, ((hr2.old hI23 (fresh_keys (ks := [b1, b2, b3, sb, rb]) rfl (fk_cons hb1 (fk_cons hb2 (fk_cons hb3 (fk_cons hsb (fk_cons hrb fk_nil))))))) _ _ hri6).choose_spec.1⟩)) hS9 fun ac196 hf211 => ?_
                  refine any_val (i := 25) (v := .int .u64 nn6) hf211 rfl rfl rfl rfl rfl rfl (fun _ _ _ h => h) (by kernel_rfl) (by kernel_rfl) (by kernel_rfl) (fun wd14 hS9 => (r_loadF ag_24 rfl hS9.2 hri6 rfl)) hS9 fun ac197 hf212 => ?_
                  refine any_val (i := 26) (v := .int .u64 (pw k - 1 - nn6)) hf212 rfl rfl rfl rfl rfl rfl (fun _ _ _ h => h) (by kernel_rfl) (by kernel_rfl) (by kernel_rfl) (fun wd14 hS9 => (r_sub (c := (pw k - 1 - nn6)) rfl rfl (wrap_u64 (by have := Int.not_lt.1 (of_decide_eq_false g122_7); omega) (by have := pw2 hk1 hk2; have := hnn6; omega)))) hS9 fun ac198 hf213 => ?_
                  refine any_val (i := 27) (v := .bool (decide ((ss.getD pp6 0) > (pw k - 1 - nn6)))) hf213 rfl rfl rfl rfl rfl rfl (fun _ _ _ h => h) (by kernel_rfl) (by kernel_rfl) (by kernel_rfl) (fun wd14 hS9 => (r_gtr rfl rfl)) hS9 fun ac199 hf214 => ?_
                  refine any_val (i := 28) (v := .bool (decide ((ss.getD pp6 0) > (pw k - 1 - nn6)))) hf214 rfl rfl rfl rfl rfl rfl (fun _ _ _ h => h) (by kernel_rfl) (by kernel_rfl) (by kernel_rfl) (fun wd14 hS9 => (r_pickF rfl rfl)) hS9 fun ac200 hf215 => ?_
                  refine any_val (i := 29) (v := .pointer (some ⟨rb, pp6, none⟩)) hf215 rfl rfl rfl rfl rfl rfl (fun _ _ _ h => h) (by kernel_rfl) (by kernel_rfl) (by kernel_rfl) (fun wd14 hS9 => (r_indexAddrS (i := pp6) sl_52 rfl rfl rfl hp6 (by rw [Nat.mul_one, Nat.zero_add]))) hS9 fun ac201 hf216 => ?_
                  refine any_one (i := 30) (by kernel_rfl) ?_
                  refine (op_store (cs' := barr (rs.set pp6 (decide ((ss.getD pp6 0) > (pw k - 1 - nn6))))) 4 hf216 rfl rfl rfl rfl rfl sz_4 hI23 rfl (Nat.lt_of_lt_of_eq hp6 (Eq.symm (barr_size hx2.lr))) barr_set fun wd19 hI34 => ⟨?_, ?_⟩)
                  · exact ⟨(Has.cons (hI34.at 3 rfl) Has.nil), (hr2.old hI34 (fresh_keys (ks := [b1, b2, b3, sb, rb]) rfl (fk_cons hb1 (fk_cons hb2 (fk_cons hb3 (fk_cons hsb (fk_cons hrb fk_nil)))))))⟩
                  have hI35 : Inv w [(b1, arr .u64 (ys.set pp6 ((ys.getD pp6 0 + nn6) % pw k)), 24), (b2, #[.slice (some ⟨b1, 0, none⟩) n n, .int .i64 (k : Int)], 58), (b3, arr .u64 (xs ++ List.replicate m3 0), 24), (sb, arr .u64 ss, 24), (rb, barr (rs.set pp6 (decide ((ss.getD pp6 0) > (pw k - 1 - nn6)))), 4)] wd19 := hI34
                  have hS18 : Has [(sb, arr .u64 ss, 24)] _ ∧ Rows_ _ q 3 rows2 := ⟨(Has.cons (hI35.at 3 rfl) Has.nil), (hr2.old hI35 (fresh_keys (ks := [b1, b2, b3, sb, rb]) rfl (fk_cons hb1 (fk_cons hb2 (fk_cons hb3 (fk_cons hsb (fk_cons hrb fk_nil)))))))⟩
                  refine any_end (by kernel_rfl) ?_
                  clear hf116 hrd8_0 hI22 ac106 hf117 ac107 hf118 ac108 hf119 ac109 hf120 ac110 hf121 ac111 hf122 hS8 ac112 hf123 hf124 ac113 hf163 ac151 hf164 ac152 hf165 ac153 hf166 ac154 hf167 ac155 hf168 ac156 hf169 ac157 hf170 ac158 hf171 hf172 ac159 hf202 ac188 hf203 ac189 hf204 ac190 hf205 ac191 hf206 ac192 hf207 ac193 hf208 ac194 hf209 ac195 hf210 ac196 hf211 ac197 hf212 ac198 hf213 ac199 hf214 ac200 hf215 wd14 hI23 hI34 hS9 hS18
                  refine then_normal ?_
                  have hrd9_0 := (hr2.old hI35 (fresh_keys (ks := [b1, b2, b3, sb, rb]) rfl (fk_cons hb1 (fk_cons hb2 (fk_cons hb3 (fk_cons hsb (fk_cons hrb fk_nil)))))))
                  refine any_start (fun w => Has [] w ∧ Rows_ w q 3 rows2) follows ⟨Has.drew (hI35.has0), hrd9_0⟩ ?_
                  have hS19 : Has [] _ ∧ Rows_ _ q 3 rows2 := ⟨Has.drew (hI35.has0), hrd9_0⟩
                  have hI36 := hI35.drew
                  refine any_val (i := 0) (v := .slice (some ⟨sb, 0, none⟩) n n) hf216 rfl rfl rfl rfl rfl rfl (fun _ _ _ h => h) (by kernel_rfl) (by kernel_rfl) (by kernel_rfl) (fun wd19 hS19 => (r_move rfl)) hS19 fun ac202 hf217 => ?_
                  refine any_val (i := 1) (v := .int .i64 (pp6 : Int)) hf217 rfl rfl rfl rfl rfl rfl (fun _ _ _ h => h) (by kernel_rfl) (by kernel_rfl) (by kernel_rfl) (fun wd19 hS19 => (r_move rfl)) hS19 fun ac203 hf218 => ?_
                  refine any_val (i := 2) (v := .pointer (some ⟨sb, pp6, none⟩)) hf218 rfl rfl rfl rfl rfl rfl (fun _ _ _ h => h) (by kernel_rfl) (by kernel_rfl) (by kernel_rfl) (fun wd19 hS19 => (r_indexAddrS (i := pp6) sl_23 rfl rfl rfl hp6 (by rw [Nat.mul_one, Nat.zero_add]))) hS19 fun ac204 hf219 => ?_
                  refine any_val (i := 4) (v := .slice q L2 cap2) hf219 rfl rfl rfl rfl rfl rfl (fun _ _ _ h => h) (by kernel_rfl) (by kernel_rfl) (by kernel_rfl) (fun wd19 hS19 => (r_move rfl)) hS19 fun ac205 hf220 => ?_
                  refine any_val (i := 5) (v := .int .i64 (d : Int)) hf220 rfl rfl rfl rfl rfl rfl (fun _ _ _ h => h) (by kernel_rfl) (by kernel_rfl) (by kernel_rfl) (fun wd19 hS19 => (r_move rfl)) hS19 fun ac206 hf221 => ?_
                  refine any_val (i := 6) (v := .pointer (slAt q (d * 3))) hf221 rfl rfl rfl rfl rfl rfl (fun _ _ _ h => h) (by kernel_rfl) (by kernel_rfl) (by kernel_rfl) (fun wd19 hS19 => (r_indexAddrR (i := d) (sz := 3) sl_22 rfl rfl rfl (by have := hj21 c76_5; omega) rfl ⟨_, ((hr2.old hI36 (fresh_keys (ks := [b1, b2, b3, sb, rb]) rfl (fk_cons hb1 (fk_cons hb2 (fk_cons hb3 (fk_cons hsb (fk_cons hrb fk_nil))))))) _ _ hri6).choose_spec.1⟩)) hS19 fun ac207 hf222 => ?_
                  refine any_val (i := 7) (v := .pointer (slAt q (d * 3 + 2))) hf222 rfl rfl rfl rfl rfl rfl (fun _ _ _ h => h) (by kernel_rfl) (by kernel_rfl) (by kernel_rfl) (fun wd19 hS19 => (r_fieldAddrR fi_39_2 rfl ⟨_, ((hr2.old hI36 (fresh_keys (ks := [b1, b2, b3, sb, rb]) rfl (fk_cons hb1 (fk_cons hb2 (fk_cons hb3 (fk_cons hsb (fk_cons hrb fk_nil))))))) _ _ hri6).choose_spec.1⟩)) hS19 fun ac208 hf223 => ?_
                  refine any_val (i := 8) (v := .int .u64 nn6) hf223 rfl rfl rfl rfl rfl rfl (fun _ _ _ h => h) (by kernel_rfl) (by kernel_rfl) (by kernel_rfl) (fun wd19 hS19 => (r_loadF ag_24 rfl hS19.2 hri6 rfl)) hS19 fun ac209 hf224 => ?_
                  refine any_one (i := 3) (by kernel_rfl) ?_
                  refine op_val (v := .int .u64 (ss.getD pp6 0)) hf224 rfl rfl rfl rfl rfl rfl (r_load ag_24 rfl (hI36.at 3 rfl) (arr_get (Nat.lt_of_lt_of_eq hp6 (Eq.symm hx2.ls)))) fun ac210 hf225 => ⟨?_, ?_⟩
                  · exact ⟨(hI36.has0), (hr2.old hI36 (fresh_keys (ks := [b1, b2, b3, sb, rb]) rfl (fk_cons hb1 (fk_cons hb2 (fk_cons hb3 (fk_cons hsb (fk_cons hrb fk_nil)))))))⟩
                  have hS20 : Has [] _ ∧ Rows_ _ q 3 rows2 := ⟨(hI36.has0), (hr2.old hI36 (fresh_keys (ks := [b1, b2, b3, sb, rb]) rfl (fk_cons hb1 (fk_cons hb2 (fk_cons hb3 (fk_cons hsb (fk_cons hrb fk_nil)))))))⟩
                  refine any_val (i := 9) (v := .int .u64 (IntKind.wrap .u64 ((ss.getD pp6 0) + nn6))) hf225 rfl rfl rfl rfl rfl rfl (fun _ _ _ h => h) (by kernel_rfl) (by kernel_rfl) (by kernel_rfl) (fun wd19 hS20 => (r_add rfl rfl rfl)) hS20 fun ac211 hf226 => ?_
                  refine any_val (i := 10) (v := .pointer (some ⟨sb, pp6, none⟩)) hf226 rfl rfl rfl rfl rfl rfl (fun _ _ _ h => h) (by kernel_rfl) (by kernel_rfl) (by kernel_rfl) (fun wd19 hS20 => (r_indexAddrS (i := pp6) sl_23 rfl rfl rfl hp6 (by rw [Nat.mul_one, Nat.zero_add]))) hS20 fun ac212 hf227 => ?_
                  refine any_one (i := 11) (by kernel_rfl) ?_
                  refine (op_store (cs' := arr .u64 (ss.set pp6 (IntKind.wrap .u64 ((ss.getD pp6 0) + nn6)))) 3 hf227 rfl rfl rfl rfl rfl sz_24 hI36 rfl (Nat.lt_of_lt_of_eq hp6 (Eq.symm (arr_size hx2.ls))) arr_set fun wd20 hI37 => ⟨?_, ?_⟩)
                  · exact ⟨(hI37.has0), (hr2.old hI37 (fresh_keys (ks := [b1, b2, b3, sb, rb]) rfl (fk_cons hb1 (fk_cons hb2 (fk_cons hb3 (fk_cons hsb (fk_cons hrb fk_nil)))))))⟩
                  have hI38 : Inv w [(b1, arr .u64 (ys.set pp6 ((ys.getD pp6 0 + nn6) % pw k)), 24), (b2, #[.slice (some ⟨b1, 0, none⟩) n n, .int .i64 (k : Int)], 58), (b3, arr .u64 (xs ++ List.replicate m3 0), 24), (sb, arr .u64 (ss.set pp6 (IntKind.wrap .u64 ((ss.getD pp6 0) + nn6))), 24), (rb, barr (rs.set pp6 (decide ((ss.getD pp6 0) > (pw k - 1 - nn6)))), 4)] wd20 := hI37
                  have hS21 : Has [] _ ∧ Rows_ _ q 3 rows2 := ⟨(hI38.has0), (hr2.old hI38 (fresh_keys (ks := [b1, b2, b3, sb, rb]) rfl (fk_cons hb1 (fk_cons hb2 (fk_cons hb3 (fk_cons hsb (fk_cons hrb fk_nil)))))))⟩
                  refine any_end (by kernel_rfl) ?_
                  clear hrd9_0 hI35 ac201 hf216 ac202 hf217 ac203 hf218 ac204 hf219 ac205 hf220 ac206 hf221 ac207 hf222 ac208 hf223 ac209 hf224 hS19 ac210 hf225 ac211 hf226 wd19 hI36 hI37 hS20 hS21
                  refine block_normal ?_
                  refine then_normal ?_
                  refine seq_start (l := [0, 1, 2]) rfl ?_
                  refine seq_one (op_val (v := .int .i64 (d : Int)) hf227 rfl rfl rfl rfl rfl rfl (r_move rfl) fun ac213 hf228 => ?_)
                  refine seq_one (op_val (v := .int .i64 ((d + 1 : Nat) : Int)) hf228 rfl rfl rfl rfl rfl rfl (r_add (c := ((d + 1 : Nat) : Int)) rfl rfl (wrap_i64 (by omega) (by have := hj21 c76_5; omega))) fun ac214 hf229 => ?_)
                  refine seq_one (op_val (v := .int .i64 ((d + 1 : Nat) : Int)) hf229 rfl rfl rfl rfl rfl rfl (r_assign rfl) fun ac215 hf230 => ?_)
                  refine seq_end ?_
                  clear ac212 hf227 ac213 hf228 ac214 hf229
                  refine then_normal ?_
                  exact ⟨(d + 1, (ys.set pp6 ((ys.getD pp6 0 + nn6) % pw k)), (ss.set pp6 (IntKind.wrap .u64 ((ss.getD pp6 0) + nn6))), (rs.set pp6 (decide ((ss.getD pp6 0) > (pw k - 1 - nn6))))), (hf230.cons 0 rfl (hf230.cons 1 rfl (hf230.cons 2 rfl (hf230.cons 3 rfl (hf230.cons 9 rfl (hf230.cons 10 rfl (hf230.cons 11 rfl (hf230.cons 12 rfl (hf230.cons 13 rfl (hf230.cons 14 rfl (hf230.cons 15 rfl (hf230.cons 16 rfl (hf230.cons 23 rfl (hf230.cons 24 rfl (hf230.cons 25 rfl (hf230.cons 26 rfl (hf230.cons 27 rfl (hf230.cons 28 rfl (hf230.cons 29 rfl (hf230.cons 30 rfl (hf230.cons 31 rfl (hf230.cons 32 rfl (hf230.cons 40 rfl (hf230.cons 63 rfl (hf230.cons 64 rfl (hf230.cons 17 rfl hf230.nil)))))))))))))))))))))))))), ⟨hI38, (hx2.step hk1 hk2 hp6 hnn6 (fun h => ⟨g113_6, Int.not_lt.1 (of_decide_eq_false g122_7), Int.not_lt.1 (of_decide_eq_false h)⟩))⟩, (by have := hj21 c76_5; show 40 - (d + 1) < 40 - d; omega)⟩
            ·
              refine seq_one (op_pureW hf106 rfl rfl rfl rfl ca_16 (add_out hx2.lx ho6 (hI21.ne (i := 0) (j := 1) rfl rfl (by decide)) (Has.cons (hI21.at 0 rfl) (Has.cons (hI21.at 1 rfl) Has.nil))) hI21 fun ac216 wd21 hI39 hf231 => ?_)
              refine seq_one (op_val (v := .bool true) hf231 rfl rfl rfl rfl rfl rfl (r_neqC rfl rfl (by decide)) fun ac217 hf232 => ?_)
              refine seq_end ?_
              clear ac90 hf99 ac91 hf100 ac92 hf101 ac93 hf102 ac94 hf103 ac95 hf104 ac96 hf105 ac97 wd13 hI21 hf106 ac216 hf231
              refine then_normal ?_
              refine code_if_true hf232 rfl ?_
              refine code_seq ?_
              refine code_seq ?_
              refine seq_start (l := [0, 1, 2, 3, 4, 5, 6]) rfl ?_
              refine seq_one (op_val (v := .int .i64 ii6) hf232 rfl rfl rfl rfl rfl rfl (r_move rfl) fun ac218 hf233 => ?_)
              refine seq_one (op_val (v := .bool (decide (ii6 ≥ 0))) hf233 rfl rfl rfl rfl rfl rfl (r_geq rfl rfl) fun ac219 hf234 => ?_)
              refine seq_one (op_val (v := .bool (decide (ii6 ≥ 0))) hf234 rfl rfl rfl rfl rfl rfl (r_move rfl) fun ac220 hf235 => ?_)
              rcases Bool.eq_false_or_eq_true (decide (ii6 ≥ 0) : Bool) with g95_8 | g95_8
              · have hf236 := hf235.know 95 (u := .bool true) rfl (congrArg Value.bool g95_8)
                refine seq_one (op_val (v := .int .i64 ii6) hf236 rfl rfl rfl rfl rfl rfl (r_move rfl) fun ac221 hf237 => ?_)
                refine seq_one (op_val (v := .int .i64 (n : Int)) hf237 rfl rfl rfl rfl rfl rfl (r_move rfl) fun ac222 hf238 => ?_)
                refine seq_one (op_val (v := .bool (decide (ii6 < (n : Int)))) hf238 rfl rfl rfl rfl rfl rfl (r_lss rfl rfl) fun ac223 hf239 => ?_)
                refine seq_one (op_val (v := .bool (decide (ii6 < (n : Int)))) hf239 rfl rfl rfl rfl rfl rfl (r_pickT rfl rfl) fun ac224 hf240 => ?_)
                refine seq_end ?_
                clear ac217 hf232 ac218 hf233 ac219 hf234 hf235 ac220 hf236 ac221 hf237 ac222 hf238 ac223 hf239
                refine then_normal ?_
                have hf241 := hf240.know 99 (u := .bool false) rfl (congrArg Value.bool (decide_eq_false (by have := ho6; have := of_decide_eq_true g95_8; omega)))
                refine code_if_false hf241 rfl ?_
                refine wp_skip ?_
                refine then_normal ?_
                refine wp_exit ?_
                refine then_exit ?_
                refine block_here ?_
                refine then_normal ?_
                refine seq_start (l := [0, 1, 2]) rfl ?_
                refine seq_one (op_val (v := .int .i64 (d : Int)) hf241 rfl rfl rfl rfl rfl rfl (r_move rfl) fun ac225 hf242 => ?_)
                refine seq_one (op_val (v := .int .i64 ((d + 1 : Nat) : Int)) hf242 rfl rfl rfl rfl rfl rfl (r_add (c := ((d + 1 : Nat) : Int)) rfl rfl (wrap_i64 (by omega) (by have := hj21 c76_5; omega))) fun ac226 hf243 => ?_)
                refine seq_one (op_val (v := .int .i64 ((d + 1 : Nat) : Int)) hf243 rfl rfl rfl rfl rfl rfl (r_assign rfl) fun ac227 hf244 => ?_)
                refine seq_end ?_
                clear hf240 ac224 hf241 ac225 hf242 ac226 hf243
                refine then_normal ?_
                exact ⟨(d + 1, ys, ss, rs), (hf244.cons 0 rfl (hf244.cons 1 rfl (hf244.cons 2 rfl (hf244.cons 3 rfl (hf244.cons 9 rfl (hf244.cons 10 rfl (hf244.cons 11 rfl (hf244.cons 12 rfl (hf244.cons 13 rfl (hf244.cons 14 rfl (hf244.cons 15 rfl (hf244.cons 16 rfl (hf244.cons 23 rfl (hf244.cons 24 rfl (hf244.cons 25 rfl (hf244.cons 26 rfl (hf244.cons 27 rfl (hf244.cons 28 rfl (hf244.cons 29 rfl (hf244.cons 30 rfl (hf244.cons 31 rfl (hf244.cons 32 rfl (hf244.cons 40 rfl (hf244.cons 63 rfl (hf244.cons 64 rfl (hf244.cons 17 rfl hf244.nil)))))))))))))))))))))))))), ⟨hI39, hx2⟩, (by have := hj21 c76_5; show 40 - (d + 1) < 40 - d; omega)⟩
              · have hf245 := hf235.know 95 (u := .bool false) rfl (congrArg Value.bool g95_8)
                refine seq_one (op_skip hf245 rfl rfl rfl rfl fun ac228 hf246 => ?_)
                refine seq_one (op_skip hf246 rfl rfl rfl rfl fun ac229 hf247 => ?_)
                refine seq_one (op_skip hf247 rfl rfl rfl rfl fun ac230 hf248 => ?_)
                refine seq_one (op_val (v := .bool false) hf248 rfl rfl rfl rfl rfl rfl (r_pickF rfl rfl) fun ac231 hf249 => ?_)
                refine seq_end ?_
                clear ac217 hf232 ac218 hf233 ac219 hf234 hf235 ac220 hf245 ac228 hf246 ac229 hf247 ac230 hf248
                refine then_normal ?_
                refine code_if_false hf249 rfl ?_
                refine wp_skip ?_
                refine then_normal ?_
                refine wp_exit ?_
                refine then_exit ?_
                refine block_here ?_
                refine then_normal ?_
                refine seq_start (l := [0, 1, 2]) rfl ?_
                refine seq_one (op_val (v := .int .i64 (d : Int)) hf249 rfl rfl rfl rfl rfl rfl (r_move rfl) fun ac232 hf250 => ?_)
                refine seq_one (op_val (v := .int .i64 ((d + 1 : Nat) : Int)) hf250 rfl rfl rfl rfl rfl rfl (r_add (c := ((d + 1 : Nat) : Int)) rfl rfl (wrap_i64 (by omega) (by have := hj21 c76_5; omega))) fun ac233 hf251 => ?_)
                refine seq_one (op_val (v := .int .i64 ((d + 1 : Nat) : Int)) hf251 rfl rfl rfl rfl rfl rfl (r_assign rfl) fun ac234 hf252 => ?_)
                refine seq_end ?_
                clear ac231 hf249 ac232 hf250 ac233 hf251
                refine then_normal ?_
                exact ⟨(d + 1, ys, ss, rs), (hf252.cons 0 rfl (hf252.cons 1 rfl (hf252.cons 2 rfl (hf252.cons 3 rfl (hf252.cons 9 rfl (hf252.cons 10 rfl (hf252.cons 11 rfl (hf252.cons 12 rfl (hf252.cons 13 rfl (hf252.cons 14 rfl (hf252.cons 15 rfl (hf252.cons 16 rfl (hf252.cons 23 rfl (hf252.cons 24 rfl (hf252.cons 25 rfl (hf252.cons 26 rfl (hf252.cons 27 rfl (hf252.cons 28 rfl (hf252.cons 29 rfl (hf252.cons 30 rfl (hf252.cons 31 rfl (hf252.cons 32 rfl (hf252.cons 40 rfl (hf252.cons 63 rfl (hf252.cons 64 rfl (hf252.cons 17 rfl hf252.nil)))))))))))))))))))))))))), ⟨hI39, hx2⟩, (by have := hj21 c76_5; show 40 - (d + 1) < 40 - d; omega)⟩
          · have hf253 := hf92.know 76 (u := .bool false) rfl (congrArg Value.bool c76_5)
            refine wp_exit ?_
            refine then_exit ?_
            refine then_exit ?_
            refine block_here ?_
            refine then_normal ?_
            refine code_seq ?_
            refine seq_start (l := [0, 1, 2, 3, 4, 5, 6, 7]) rfl ?_
            refine seq_one (op_val (v := .pointer (some ⟨b2, 0, none⟩)) hf253 rfl rfl rfl rfl rfl rfl (r_move rfl) fun ac235 hf254 => ?_)
            refine seq_one (op_val (v := .slice (some ⟨b3, 0, none⟩) n (n + m3)) hf254 rfl rfl rfl rfl rfl rfl (r_move rfl) fun ac236 hf255 => ?_)
            refine seq_one (op_call (R := fun v w' => ∃ S p cap, v = .tuple #[.slice p (sinceL ys xs k n).length cap, .int .i64 0] ∧ Sl 24 .u64 S p cap (sinceL ys xs k n) ∧ Inv wd13 S w' ∧ ∀ x ∈ S, wd13.heap.size ≤ x.1) hf255 rfl rfl rfl rfl ca_18 ((since_ok (xs := ys) (ws := xs) (n := n) (k := k) hx2.lx hx1.len rfl hn2 (hx2.ok hk1 hk2 hx1) (hI21.ne (i := 0) (j := 1) rfl rfl (by decide)) (Has.cons (hI21.at 0 rfl) (Has.cons (hI21.at 1 rfl) Has.nil)) (Rd.blk (xs := xs) (hI21.at 2 rfl) arr_take2)).mono fun _ _ ⟨S, p, cap, he, h1, h3, h4⟩ => ⟨_, he, S, p, cap, rfl, h1, h3, h4⟩) fun ac237 v wd22 hR hf256 => ?_)
            obtain ⟨Sq6, q6, capq6, rfl, hsq6, hwq6, hzq6⟩ := hR
            have hyq6 := fk_le hI21.size hzq6
            have hI40 : Inv w ([(b1, arr .u64 ys, 24), (b2, #[.slice (some ⟨b1, 0, none⟩) n n, .int .i64 (k : Int)], 58), (b3, arr .u64 (xs ++ List.replicate m3 0), 24), (sb, arr .u64 ss, 24), (rb, barr rs, 4)] ++ Sq6) _ := hI21.callN hwq6 hzq6
            refine seq_one (op_val (v := .tuple #[.slice q6 ((sinceL ys xs k n).length) capq6, .int .i64 0]) hf256 rfl rfl rfl rfl rfl rfl (r_move rfl) fun ac238 hf257 => ?_)
            refine seq_one (op_val (v := .slice q6 ((sinceL ys xs k n).length) capq6) hf257 rfl rfl rfl rfl rfl rfl (r_extract rfl rfl) fun ac239 hf258 => ?_)
            refine seq_one (op_val (v := .int .i64 0) hf258 rfl rfl rfl rfl rfl rfl (r_extract rfl rfl) fun ac240 hf259 => ?_)
            refine seq_one (op_val (v := .slice q6 ((sinceL ys xs k n).length) capq6) hf259 rfl rfl rfl rfl rfl rfl (r_assign rfl) fun ac241 hf260 => ?_)
            refine seq_one (op_val (v := .int .i64 0) hf260 rfl rfl rfl rfl rfl rfl (r_assign rfl) fun ac242 hf261 => ?_)
            refine seq_end ?_
            clear hf92 ac84 hf253 ac235 hf254 ac236 wd13 hf255 hI21 hwq6 hzq6 ac237 hf256 ac238 hf257 ac239 hf258 ac240 hf259 ac241 hf260
            refine then_normal ?_
            refine code_seq ?_
            refine code_seq ?_
            refine seq_start (l := [0, 1, 2, 3, 4, 5, 6, 7]) rfl ?_
            refine seq_one (op_val (v := .int .i64 0) hf261 rfl rfl rfl rfl rfl rfl (r_move rfl) fun ac243 hf262 => ?_)
            refine seq_one (op_val (v := .bool false) hf262 rfl rfl rfl rfl rfl rfl (r_neqC rfl rfl (by decide)) fun ac244 hf263 => ?_)
            refine seq_one (op_val (v := .bool false) hf263 rfl rfl rfl rfl rfl rfl (r_move rfl) fun ac245 hf264 => ?_)
            refine seq_one (op_val (v := .slice q6 ((sinceL ys xs k n).length) capq6) hf264 rfl rfl rfl rfl rfl rfl (r_move rfl) fun ac246 hf265 => ?_)
            refine seq_one (op_val (v := .int .i64 ((sinceL ys xs k n).length : Int)) hf265 rfl rfl rfl rfl rfl rfl (r_len sl_23 rfl) fun ac247 hf266 => ?_)
            refine seq_one (op_val (v := .int .i64 (n : Int)) hf266 rfl rfl rfl rfl rfl rfl (r_move rfl) fun ac248 hf267 => ?_)
            refine seq_one (op_val (v := .bool (((sinceL ys xs k n).length : Int) != (n : Int))) hf267 rfl rfl rfl rfl rfl rfl (r_neq rfl rfl) fun ac249 hf268 => ?_)
            refine seq_one (op_val (v := .bool (((sinceL ys xs k n).length : Int) != (n : Int))) hf268 rfl rfl rfl rfl rfl rfl (r_pickF rfl rfl) fun ac250 hf269 => ?_)
            refine seq_end ?_
            clear ac242 hf261 ac243 hf262 ac244 hf263 ac245 hf264 ac246 hf265 ac247 hf266 ac248 hf267 ac249 hf268
            refine then_normal ?_
            have hf270 := hf269.know 161 (u := .bool false) rfl (congrArg Value.bool (bne_eq_false_iff_eq.2 (by rw [since_len])))
            refine code_if_false hf270 rfl ?_
            refine wp_skip ?_
            refine then_normal ?_
            refine code_seq ?_
            refine code_seq ?_
            refine seq_start (l := [0, 1, 2]) rfl ?_
            refine seq_one (op_val (v := .slice q6 ((sinceL ys xs k n).length) capq6) hf270 rfl rfl rfl rfl rfl rfl (r_move rfl) fun ac251 hf271 => ?_)
            refine seq_one (op_val (v := .int .i64 ((sinceL ys xs k n).length : Int)) hf271 rfl rfl rfl rfl rfl rfl (r_len sl_23 rfl) fun ac252 hf272 => ?_)
            refine seq_one (op_val (v := .int .i64 0) hf272 rfl rfl rfl rfl rfl rfl (r_move rfl) fun ac253 hf273 => ?_)
            refine seq_end ?_
            clear hf269 ac250 hf270 ac251 hf271 ac252 hf272
            refine then_normal ?_
            refine wp_block ?_
            refine code_loop (α := Nat) (fun (f : Nat) => [(0, .int .u8 a), (1, .int .u8 b), (2, .slice p L cap), (3, .slice q L2 cap2), (9, .pointer (some ⟨b2, 0, none⟩)), (10, .int .i64 (n : Int)), (11, .int .u64 (pw k - 1)), (12, .bool true), (13, .int .i64 (i : Int)), (14, .slice (some ⟨b3, 0, none⟩) n (n + m3)), (15, .slice (some ⟨sb, 0, none⟩) n n), (16, .slice (some ⟨rb, 0, none⟩) n n), (17, .int .i64 (d : Int)), (19, .slice q6 ((sinceL ys xs k n).length) capq6), (20, .int .i64 0), (23, .tuple #[.pointer (some ⟨b2, 0, none⟩), .int .i64 (n : Int), .int .u64 (pw k - 1), .bool true]), (24, .int .u8 a), (25, .int .u8 b), (26, .tuple #[.pointer (some ⟨b2, 0, none⟩), .int .i64 (n : Int), .int .u64 (pw k - 1), .bool true]), (27, .pointer (some ⟨b2, 0, none⟩)), (28, .int .i64 (n : Int)), (29, .int .u64 (pw k - 1)), (30, .bool true), (31, .bool true), (32, .bool false), (40, .bool false), (63, .pointer (some ⟨b2, 0, none⟩)), (64, .slice (some ⟨b3, 0, none⟩) n (n + m3)), (76, .bool false), (148, .tuple #[.slice q6 ((sinceL ys xs k n).length) capq6, .int .i64 0]), (149, .pointer (some ⟨b2, 0, none⟩)), (150, .slice (some ⟨b3, 0, none⟩) n (n + m3)), (151, .tuple #[.slice q6 ((sinceL ys xs k n).length) capq6, .int .i64 0]), (152, .slice q6 ((sinceL ys xs k n).length) capq6), (153, .int .i64 0), (154, .int .i64 0), (155, .bool false), (156, .bool false), (157, .slice q6 ((sinceL ys xs k n).length) capq6), (158, .int .i64 ((sinceL ys xs k n).length : Int)), (159, .int .i64 (n : Int)), (160, .bool (((sinceL ys xs k n).length : Int) != (n : Int))), (161, .bool false), (162, .slice q6 ((sinceL ys xs k n).length) capq6), (163, .int .i64 ((sinceL ys xs k n).length : Int)), (164, .int .i64 (f : Int))]) (fun (f : Nat) => fun wL => Inv w ([(b1, arr .u64 ys, 24), (b2, #[.slice (some ⟨b1, 0, none⟩) n n, .int .i64 (k : Int)], 58), (b3, arr .u64 (xs ++ List.replicate m3 0), 24), (sb, arr .u64 ss, 24), (rb, barr rs, 4)] ++ Sq6) wL ∧ (True)) (fun (f : Nat) => n - f) 0 (hf273.cons 0 rfl (hf273.cons 1 rfl (hf273.cons 2 rfl (hf273.cons 3 rfl (hf273.cons 9 rfl (hf273.cons 10 rfl (hf273.cons 11 rfl (hf273.cons 12 rfl (hf273.cons 13 rfl (hf273.cons 14 rfl (hf273.cons 15 rfl (hf273.cons 16 rfl (hf273.cons 17 rfl (hf273.cons 19 rfl (hf273.cons 20 rfl (hf273.cons 23 rfl (hf273.cons 24 rfl (hf273.cons 25 rfl (hf273.cons 26 rfl (hf273.cons 27 rfl (hf273.cons 28 rfl (hf273.cons 29 rfl (hf273.cons 30 rfl (hf273.cons 31 rfl (hf273.cons 32 rfl (hf273.cons 40 rfl (hf273.cons 63 rfl (hf273.cons 64 rfl (hf273.cons 76 rfl (hf273.cons 148 rfl (hf273.cons 149 rfl (hf273.cons 150 rfl (hf273.cons 151 rfl (hf273.cons 152 rfl (hf273.cons 153 rfl (hf273.cons 154 rfl (hf273.cons 155 rfl (hf273.cons 156 rfl (hf273.cons 157 rfl (hf273.cons 158 rfl (hf273.cons 159 rfl (hf273.cons 160 rfl (hf273.cons 161 rfl (hf273.cons 162 rfl (hf273.cons 163 rfl (hf273.cons 164 rfl hf273.nil)))))))))))))))))))))))))))))))))))))))))))))) ⟨hI40, trivial⟩ ?_
            intro f ac254 wd23 hf274 hL3
            obtain ⟨hI41, hx3⟩ := hL3
            clear ac253 wd22 hf273 hI40
            refine code_seq ?_
            refine seq_start (l := [0]) rfl ?_
            refine seq_one (op_val (v := .bool (decide ((f : Int) < ((sinceL ys xs k n).length : Int)))) hf274 rfl rfl rfl rfl rfl rfl (r_lss rfl rfl) fun ac255 hf275 => ?_)
            refine seq_end ?_
            clear ac254 hf274
            refine then_normal ?_
            refine code_seq ?_
            refine code_if hf275 rfl (fun c165_9 => ?_) (fun c165_9 => ?_)
            · have hf276 := hf275.know 165 (u := .bool true) rfl (congrArg Value.bool c165_9)
              refine wp_skip ?_
              refine then_normal ?_
              refine code_seq ?_
              refine wp_block ?_
              refine code_seq ?_
              refine seq_start (l := [0, 1, 2, 3, 4]) rfl ?_
              refine seq_one (op_val (v := .int .i64 (f : Int)) hf276 rfl rfl rfl rfl rfl rfl (r_move rfl) fun ac256 hf277 => ?_)
              refine seq_one (op_val (v := .pointer (slAt q6 f)) hf277 rfl rfl rfl rfl rfl rfl (r_indexAddrV (i := f) sl_23 rfl rfl rfl (by have := of_decide_eq_true c165_9; rw [since_len] at *; omega) (let r := (hsq6.rd hI41 (fun x hx => List.mem_append_right _ hx)) f (by have := of_decide_eq_true c165_9; rw [since_len] at *; omega); ⟨r.choose, r.choose_spec.1⟩)) fun ac257 hf278 => ?_)
              refine seq_one (op_val (v := .int .u64 ((sinceL ys xs k n).getD f 0)) hf278 rfl rfl rfl rfl rfl rfl (r_loadV ag_24 rfl (hsq6.rd hI41 (fun x hx => List.mem_append_right _ hx)) (by have := of_decide_eq_true c165_9; rw [since_len] at *; omega)) fun ac258 hf279 => ?_)
              refine seq_one (op_val (v := .int .i64 (f : Int)) hf279 rfl rfl rfl rfl rfl rfl (r_assign rfl) fun ac259 hf280 => ?_)
              refine seq_one (op_val (v := .int .u64 ((sinceL ys xs k n).getD f 0)) hf280 rfl rfl rfl rfl rfl rfl (r_assign rfl) fun ac260 hf281 => ?_)
              refine seq_end ?_
              clear hf275 ac255 hf276 ac256 hf277 ac257 hf278 ac258 hf279 ac259 hf280
              refine then_normal ?_
              refine code_seq ?_
              refine seq_start (l := [0, 1, 2, 3, 4, 5, 6, 7, 8, 9, 10, 11, 12, 13, 14, 15, 16, 17, 18, 19, 20, 21, 22]) rfl ?_
              refine seq_one (op_val (v := .slice (some ⟨rb, 0, none⟩) n n) hf281 rfl rfl rfl rfl rfl rfl (r_move rfl) fun ac261 hf282 => ?_)
              refine seq_one (op_val (v := .int .i64 (f : Int)) hf282 rfl rfl rfl rfl rfl rfl (r_move rfl) fun ac262 hf283 => ?_)
              refine seq_one (op_val (v := .pointer (some ⟨rb, f, none⟩)) hf283 rfl rfl rfl rfl rfl rfl (r_indexAddrS (i := f) sl_52 rfl rfl rfl (by have := of_decide_eq_true c165_9; rw [since_len] at this; omega) (by rw [Nat.mul_one, Nat.zero_add])) fun ac263 hf284 => ?_)
              refine seq_one (op_val (v := .bool (rs.getD f false)) hf284 rfl rfl rfl rfl rfl rfl (r_load ag_4 rfl (hI41.at 4 rfl) (barr_get (Nat.lt_of_lt_of_eq (by have := of_decide_eq_true c165_9; rw [since_len] at this; omega) (Eq.symm hx2.lr)))) fun ac264 hf285 => ?_)
              refine seq_one (op_val (v := .bool (!(rs.getD f false))) hf285 rfl rfl rfl rfl rfl rfl (r_not rfl) fun ac265 hf286 => ?_)
              refine seq_one (op_val (v := .bool (!(rs.getD f false))) hf286 rfl rfl rfl rfl rfl rfl (r_move rfl) fun ac266 hf287 => ?_)
              rcases Bool.eq_false_or_eq_true (!(rs.getD f false) : Bool) with g174_10 | g174_10
              · have hf288 := hf287.know 174 (u := .bool true) rfl (congrArg Value.bool g174_10)
                refine seq_one (op_val (v := .int .u64 ((sinceL ys xs k n).getD f 0)) hf288 rfl rfl rfl rfl rfl rfl (r_move rfl) fun ac267 hf289 => ?_)
                refine seq_one (op_val (v := .slice (some ⟨sb, 0, none⟩) n n) hf289 rfl rfl rfl rfl rfl rfl (r_move rfl) fun ac268 hf290 => ?_)
                refine seq_one (op_val (v := .int .i64 (f : Int)) hf290 rfl rfl rfl rfl rfl rfl (r_move rfl) fun ac269 hf291 => ?_)
                refine seq_one (op_val (v := .pointer (some ⟨sb, f, none⟩)) hf291 rfl rfl rfl rfl rfl rfl (r_indexAddrS (i := f) sl_23 rfl rfl rfl (by have := of_decide_eq_true c165_9; rw [since_len] at this; omega) (by rw [Nat.mul_one, Nat.zero_add])) fun ac270 hf292 => ?_)
                refine seq_one (op_val (v := .int .u64 (ss.getD f 0)) hf292 rfl rfl rfl rfl rfl rfl (r_load ag_24 rfl (hI41.at 3 rfl) (arr_get (Nat.lt_of_lt_of_eq (by have := of_decide_eq_true c165_9; rw [since_len] at this; omega) (Eq.symm hx2.ls)))) fun ac271 hf293 => ?_)
                refine seq_one (op_val (v := .bool (((sinceL ys xs k n).getD f 0) != (ss.getD f 0))) hf293 rfl rfl rfl rfl rfl rfl (r_neq rfl rfl) fun ac272 hf294 => ?_)
                refine seq_one (op_val (v := .bool (((sinceL ys xs k n).getD f 0) != (ss.getD f 0))) hf294 rfl rfl rfl rfl rfl rfl (r_pickT rfl rfl) fun ac273 hf295 => ?_)
                refine seq_one (op_val (v := .bool (((sinceL ys xs k n).getD f 0) != (ss.getD f 0))) hf295 rfl rfl rfl rfl rfl rfl (r_move rfl) fun ac274 hf296 => ?_)
                have hf297 := hf296.know 182 (u := .bool false) rfl (congrArg Value.bool ((hx2.end1 hk1 hk2 (by have := of_decide_eq_true c165_9; rw [since_len] at this; omega) g174_10)))
                refine seq_one (op_val (v := .int .u64 ((sinceL ys xs k n).getD f 0)) hf297 rfl rfl rfl rfl rfl rfl (r_move rfl) fun ac275 hf298 => ?_)
                refine seq_one (op_val (v := .slice (some ⟨sb, 0, none⟩) n n) hf298 rfl rfl rfl rfl rfl rfl (r_move rfl) fun ac276 hf299 => ?_)
                refine seq_one (op_val (v := .int .i64 (f : Int)) hf299 rfl rfl rfl rfl rfl rfl (r_move rfl) fun ac277 hf300 => ?_)
                refine seq_one (op_val (v := .pointer (some ⟨sb, f, none⟩)) hf300 rfl rfl rfl rfl rfl rfl (r_indexAddrS (i := f) sl_23 rfl rfl rfl (by have := of_decide_eq_true c165_9; rw [since_len] at this; omega) (by rw [Nat.mul_one, Nat.zero_add])) fun ac278 hf301 => ?_)
                refine seq_one (op_val (v := .int .u64 (ss.getD f 0)) hf301 rfl rfl rfl rfl rfl rfl (r_load ag_24 rfl (hI41.at 3 rfl) (arr_get (Nat.lt_of_lt_of_eq (by have := of_decide_eq_true c165_9; rw [since_len] at this; omega) (Eq.symm hx2.ls)))) fun ac279 hf302 => ?_)
                refine seq_one (op_val (v := .int .u64 (pw k - 1)) hf302 rfl rfl rfl rfl rfl rfl (r_move rfl) fun ac280 hf303 => ?_)
                refine seq_one (op_val (v := .int .u64 (ss.getD f 0 % pw k)) hf303 rfl rfl rfl rfl rfl rfl (r_and (c := (ss.getD f 0 % pw k)) rfl rfl (and_pw hk1 hk2 (hx2.s f (by have := of_decide_eq_true c165_9; rw [since_len] at this; omega)).1)) fun ac281 hf304 => ?_)
                refine seq_one (op_val (v := .bool (((sinceL ys xs k n).getD f 0) != (ss.getD f 0 % pw k))) hf304 rfl rfl rfl rfl rfl rfl (r_neq rfl rfl) fun ac282 hf305 => ?_)
                refine seq_one (op_val (v := .bool (((sinceL ys xs k n).getD f 0) != (ss.getD f 0 % pw k))) hf305 rfl rfl rfl rfl rfl rfl (r_pickF rfl rfl) fun ac283 hf306 => ?_)
                refine seq_end ?_
                clear ac260 hf281 ac261 hf282 ac262 hf283 ac263 hf284 ac264 hf285 ac265 hf286 hf287 ac266 hf288 ac267 hf289 ac268 hf290 ac269 hf291 ac270 hf292 ac271 hf293 ac272 hf294 ac273 hf295 hf296 ac274 hf297 ac275 hf298 ac276 hf299 ac277 hf300 ac278 hf301 ac279 hf302 ac280 hf303 ac281 hf304 ac282 hf305
                refine then_normal ?_
                have hf307 := hf306.know 191 (u := .bool false) rfl (congrArg Value.bool ((hx2.end2 (by have := of_decide_eq_true c165_9; rw [since_len] at this; omega))))
                refine code_if_false hf307 rfl ?_
                refine wp_skip ?_
                refine block_normal ?_
                refine then_normal ?_
                refine seq_start (l := [0, 1]) rfl ?_
                refine seq_one (op_val (v := .int .i64 ((f + 1 : Nat) : Int)) hf307 rfl rfl rfl rfl rfl rfl (r_add (c := ((f + 1 : Nat) : Int)) rfl rfl (wrap_i64 (by omega) (by have := of_decide_eq_true c165_9; rw [since_len] at this; omega))) fun ac284 hf308 => ?_)
                refine seq_one (op_val (v := .int .i64 ((f + 1 : Nat) : Int)) hf308 rfl rfl rfl rfl rfl rfl (r_move rfl) fun ac285 hf309 => ?_)
                refine seq_end ?_
                clear hf306 ac283 hf307 ac284 hf308
                refine then_normal ?_
                exact ⟨f + 1, (hf309.cons 0 rfl (hf309.cons 1 rfl (hf309.cons 2 rfl (hf309.cons 3 rfl (hf309.cons 9 rfl (hf309.cons 10 rfl (hf309.cons 11 rfl (hf309.cons 12 rfl (hf309.cons 13 rfl (hf309.cons 14 rfl (hf309.cons 15 rfl (hf309.cons 16 rfl (hf309.cons 17 rfl (hf309.cons 19 rfl (hf309.cons 20 rfl (hf309.cons 23 rfl (hf309.cons 24 rfl (hf309.cons 25 rfl (hf309.cons 26 rfl (hf309.cons 27 rfl (hf309.cons 28 rfl (hf309.cons 29 rfl (hf309.cons 30 rfl (hf309.cons 31 rfl (hf309.cons 32 rfl (hf309.cons 40 rfl (hf309.cons 63 rfl (hf309.cons 64 rfl (hf309.cons 76 rfl (hf309.cons 148 rfl (hf309.cons 149 rfl (hf309.cons 150 rfl (hf309.cons 151 rfl (hf309.cons 152 rfl (hf309.cons 153 rfl (hf309.cons 154 rfl (hf309.cons 155 rfl (hf309.cons 156 rfl (hf309.cons 157 rfl (hf309.cons 158 rfl (hf309.cons 159 rfl (hf309.cons 160 rfl (hf309.cons 161 rfl (hf309.cons 162 rfl (hf309.cons 163 rfl (hf309.cons 164 rfl hf309.nil)))))))))))))))))))))))))))))))))))))))))))))), ⟨hI41, trivial⟩, (by have := of_decide_eq_true c165_9; rw [since_len] at this; show n - (f + 1) < n - f; omega)⟩
              · have hf310 := hf287.know 174 (u := .bool false) rfl (congrArg Value.bool g174_10)
                refine seq_one (op_skip hf310 rfl rfl rfl rfl fun ac286 hf311 => ?_)
                refine seq_one (op_skip hf311 rfl rfl rfl rfl fun ac287 hf312 => ?_)
                refine seq_one (op_skip hf312 rfl rfl rfl rfl fun ac288 hf313 => ?_)
                refine seq_one (op_skip hf313 rfl rfl rfl rfl fun ac289 hf314 => ?_)
                refine seq_one (op_skip hf314 rfl rfl rfl rfl fun ac290 hf315 => ?_)
                refine seq_one (op_skip hf315 rfl rfl rfl rfl fun ac291 hf316 => ?_)
                refine seq_one (op_val (v := .bool false) hf316 rfl rfl rfl rfl rfl rfl (r_pickF rfl rfl) fun ac292 hf317 => ?_)
                refine seq_one (op_val (v := .bool false) hf317 rfl rfl rfl rfl rfl rfl (r_move rfl) fun ac293 hf318 => ?_)
                refine seq_one (op_val (v := .int .u64 ((sinceL ys xs k n).getD f 0)) hf318 rfl rfl rfl rfl rfl rfl (r_move rfl) fun ac294 hf319 => ?_)
                refine seq_one (op_val (v := .slice (some ⟨sb, 0, none⟩) n n) hf319 rfl rfl rfl rfl rfl rfl (r_move rfl) fun ac295 hf320 => ?_)
                refine seq_one (op_val (v := .int .i64 (f : Int)) hf320 rfl rfl rfl rfl rfl rfl (r_move rfl) fun ac296 hf321 => ?_)
                refine seq_one (op_val (v := .pointer (some ⟨sb, f, none⟩)) hf321 rfl rfl rfl rfl rfl rfl (r_indexAddrS (i := f) sl_23 rfl rfl rfl (by have := of_decide_eq_true c165_9; rw [since_len] at this; omega) (by rw [Nat.mul_one, Nat.zero_add])) fun ac297 hf322 => ?_)
                refine seq_one (op_val (v := .int .u64 (ss.getD f 0)) hf322 rfl rfl rfl rfl rfl rfl (r_load ag_24 rfl (hI41.at 3 rfl) (arr_get (Nat.lt_of_lt_of_eq (by have := of_decide_eq_true c165_9; rw [since_len] at this; omega) (Eq.symm hx2.ls)))) fun ac298 hf323 => ?_)
                refine seq_one (op_val (v := .int .u64 (pw k - 1)) hf323 rfl rfl rfl rfl rfl rfl (r_move rfl) fun ac299 hf324 => ?_)
                refine seq_one (op_val (v := .int .u64 (ss.getD f 0 % pw k)) hf324 rfl rfl rfl rfl rfl rfl (r_and (c := (ss.getD f 0 % pw k)) rfl rfl (and_pw hk1 hk2 (hx2.s f (by have := of_decide_eq_true c165_9; rw [since_len] at this; omega)).1)) fun ac300 hf325 => ?_)
                refine seq_one (op_val (v := .bool (((sinceL ys xs k n).getD f 0) != (ss.getD f 0 % pw k))) hf325 rfl rfl rfl rfl rfl rfl (r_neq rfl rfl) fun ac301 hf326 => ?_)
                refine seq_one (op_val (v := .bool (((sinceL ys xs k n).getD f 0) != (ss.getD f 0 % pw k))) hf326 rfl rfl rfl rfl rfl rfl (r_pickF rfl rfl) fun ac302 hf327 => ?_)
                refine seq_end ?_
                clear ac260 hf281 ac261 hf282 ac262 hf283 ac263 hf284 ac264 hf285 ac265 hf286 hf287 ac266 hf310 ac286 hf311 ac287 hf312 ac288 hf313 ac289 hf314 ac290 hf315 ac291 hf316 ac292 hf317 ac293 hf318 ac294 hf319 ac295 hf320 ac296 hf321 ac297 hf322 ac298 hf323 ac299 hf324 ac300 hf325 ac301 hf326
                refine then_normal ?_
                have hf328 := hf327.know 191 (u := .bool false) rfl (congrArg Value.bool ((hx2.end2 (by have := of_decide_eq_true c165_9; rw [since_len] at this; omega))))
                refine code_if_false hf328 rfl ?_
                refine wp_skip ?_
                refine block_normal ?_
                refine then_normal ?_
                refine seq_start (l := [0, 1]) rfl ?_
                refine seq_one (op_val (v := .int .i64 ((f + 1 : Nat) : Int)) hf328 rfl rfl rfl rfl rfl rfl (r_add (c := ((f + 1 : Nat) : Int)) rfl rfl (wrap_i64 (by omega) (by have := of_decide_eq_true c165_9; rw [since_len] at this; omega))) fun ac303 hf329 => ?_)
                refine seq_one (op_val (v := .int .i64 ((f + 1 : Nat) : Int)) hf329 rfl rfl rfl rfl rfl rfl (r_move rfl) fun ac304 hf330 => ?_)
                refine seq_end ?_
                clear hf327 ac302 hf328 ac303 hf329
                refine then_normal ?_
                exact ⟨f + 1, (hf330.cons 0 rfl (hf330.cons 1 rfl (hf330.cons 2 rfl (hf330.cons 3 rfl (hf330.cons 9 rfl (hf330.cons 10 rfl (hf330.cons 11 rfl (hf330.cons 12 rfl (hf330.cons 13 rfl (hf330.cons 14 rfl (hf330.cons 15 rfl (hf330.cons 16 rfl (hf330.cons 17 rfl (hf330.cons 19 rfl (hf330.cons 20 rfl (hf330.cons 23 rfl (hf330.cons 24 rfl (hf330.cons 25 rfl (hf330.cons 26 rfl (hf330.cons 27 rfl (hf330.cons 28 rfl (hf330.cons 29 rfl (hf330.cons 30 rfl (hf330.cons 31 rfl (hf330.cons 32 rfl (hf330.cons 40 rfl (hf330.cons 63 rfl (hf330.cons 64 rfl (hf330.cons 76 rfl (hf330.cons 148 rfl (hf330.cons 149 rfl (hf330.cons 150 rfl (hf330.cons 151 rfl (hf330.cons 152 rfl (hf330.cons 153 rfl (hf330.cons 154 rfl (hf330.cons 155 rfl (hf330.cons 156 rfl (hf330.cons 157 rfl (hf330.cons 158 rfl (hf330.cons 159 rfl (hf330.cons 160 rfl (hf330.cons 161 rfl (hf330.cons 162 rfl (hf330.cons 163 rfl (hf330.cons 164 rfl hf330.nil)))))))))))))))))))))))))))))))))))))))))))))), ⟨hI41, trivial⟩, (by have := of_decide_eq_true c165_9; rw [since_len] at this; show n - (f + 1) < n - f; omega)⟩
            · have hf331 := hf275.know 165 (u := .bool false) rfl (congrArg Value.bool c165_9)
              refine wp_exit ?_
              refine then_exit ?_
              refine then_exit ?_
              refine block_here ?_
              refine then_normal ?_
              refine code_seq ?_
              refine seq_start (l := [0, 1]) rfl ?_
              refine seq_one (op_pure hf331 rfl rfl rfl rfl ca_13 awake_pur hI41 fun ac305 wd24 hI42 hf332 => ?_)
              refine seq_one (op_val (v := .bool true) hf332 rfl rfl rfl rfl rfl rfl (r_assign rfl) fun ac306 hf333 => ?_)
              refine seq_end ?_
              clear hf275 ac255 wd23 hI41 hf331 ac305 hf332
              refine then_normal ?_
              refine wp_ret ?_
              refine post1 rfl hf333 rfl ⟨?_, hI42.done (fk_app (fresh_keys (ks := [b1, b2, b3, sb, rb]) rfl (fk_cons hb1 (fk_cons hb2 (fk_cons hb3 (fk_cons hsb (fk_cons hrb fk_nil)))))) hyq6)⟩
              rfl
end Go.Proofs.Ytohkdjaobdgenaa
