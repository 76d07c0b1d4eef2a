/-
  The walk of BandsTells.
-/
import Derived.Test.YtkfilmdnpocinaaPlayed
namespace Go.Proofs.Ytkfilmdnpocinaa
set_option linter.unusedVariables false
set_option linter.unusedSimpArgs false
set_option maxRecDepth 100000
open Go.RowKit
set_option maxHeartbeats 8000000 in
theorem bandsTells_walk (w0 w1 w2 : Int) {p : Option Addr} {L cap : Nat} {rows : List (List Value)} (hl : rows.length = L) (hc : L ≤ cap) (ho : ∀ row ∈ rows, Oks opKinds row) (w : World) (hr : Rows_ w p 5 rows) : Calls Try.prog 3 [.agg #[.int .i64 w0, .int .i64 w1, .int .i64 w2], .slice p L cap].toArray w fun e w' => e = .returned (.bool true) ∧ Inv w [] w' := by
  have hI1 := Inv.start w
  refine enter (n := 118) Try.func3 rfl rfl rfl ?_
  intro ac1 hf1
  refine code_seq ?_
  refine seq_start (l := [0, 1]) rfl ?_
  refine seq_one (op_box hf1 rfl rfl rfl rfl hI1 fun ac2 b1 wd1 hb1 hI2 hf2 => ?_)
  have hI3 : Inv w [(b1, #[.int .i64 w0, .int .i64 w1, .int .i64 w2], 22)] wd1 := hI2
  refine seq_one (op_val (v := .bool false) hf2 rfl rfl rfl rfl rfl rfl (r_assign rfl) fun ac3 hf3 => ?_)
  refine seq_end ?_
  clear ac1 hI1 hf1 hI2 ac2 hf2
  refine then_normal ?_
  refine code_seq ?_
  refine seq_start (l := [0, 1, 2, 3, 4, 5, 6]) rfl ?_
  refine seq_one (op_val (v := .agg #[.int .i64 w0, .int .i64 w1, .int .i64 w2]) hf3 rfl rfl rfl rfl rfl rfl (r_loadW ag_22 sz_22 rfl (hI3.at 0 rfl) rfl) fun ac4 hf4 => ?_)
  refine seq_one (op_call (R := fun v w' => (WOK w0 w1 w2 ∧ ∃ b, wd1.heap.size ≤ b ∧ v = .tuple #[.pointer (some ⟨b, 0, none⟩), .int .i64 0] ∧ Inv wd1 [(b, #[.int .i64 w0, .int .i64 w1, .int .i64 w2, .int .i64 w0, .int .i64 w1, .int .i64 w2, .int .i64 0], 58)] w') ∨ (¬ WOK w0 w1 w2 ∧ v = .tuple #[.pointer none, .int .i64 2] ∧ Inv wd1 [] w')) hf4 rfl rfl rfl rfl ca_9 ((new_walk w0 w1 w2 _).mono fun e w' h => by rcases h with ⟨h0, b, h1, h2, h3⟩ | ⟨h, h1, h2⟩; exact ⟨_, h2, .inl ⟨h0, b, h1, rfl, h3⟩⟩; exact ⟨_, h1, .inr ⟨h, rfl, h2⟩⟩) fun ac5 v wd2 hR hf5 => ?_)
  rcases hR with ⟨hv, b2, hqb2, rfl, hwb2⟩ | ⟨hv, rfl, hwb2⟩
  ·
    have hb2 := Nat.le_trans hI3.size hqb2
    have hI4 : Inv w [(b1, #[.int .i64 w0, .int .i64 w1, .int .i64 w2], 22), (b2, #[.int .i64 w0, .int .i64 w1, .int .i64 w2, .int .i64 w0, .int .i64 w1, .int .i64 w2, .int .i64 0], 58)] _ := hI3.callN hwb2 (fun x hx => by simp only [List.mem_singleton] at hx; subst hx; exact hqb2)
    refine seq_one (op_val (v := .tuple #[.pointer (some ⟨b2, 0, none⟩), .int .i64 0]) hf5 rfl rfl rfl rfl rfl rfl (r_move rfl) fun ac6 hf6 => ?_)
    refine seq_one (op_val (v := .pointer (some ⟨b2, 0, none⟩)) hf6 rfl rfl rfl rfl rfl rfl (r_extract rfl rfl) fun ac7 hf7 => ?_)
    refine seq_one (op_val (v := .int .i64 0) hf7 rfl rfl rfl rfl rfl rfl (r_extract rfl rfl) fun ac8 hf8 => ?_)
    refine seq_one (op_val (v := .pointer (some ⟨b2, 0, none⟩)) hf8 rfl rfl rfl rfl rfl rfl (r_assign rfl) fun ac9 hf9 => ?_)
    refine seq_one (op_val (v := .int .i64 0) hf9 rfl rfl rfl rfl rfl rfl (r_assign rfl) fun ac10 hf10 => ?_)
    refine seq_end ?_
    clear ac3 hf3 ac4 wd1 hf4 hI3 hwb2 hqb2 ac5 hf5 ac6 hf6 ac7 hf7 ac8 hf8 ac9 hf9
    refine then_normal ?_
    refine code_seq ?_
    refine seq_start (l := [0, 1, 2, 3, 4, 5, 6, 7]) rfl ?_
    refine seq_one (op_val (v := .agg #[.int .i64 w0, .int .i64 w1, .int .i64 w2]) hf10 rfl rfl rfl rfl rfl rfl (r_loadW ag_22 sz_22 rfl (hI4.at 0 rfl) rfl) fun ac11 hf11 => ?_)
    refine seq_one (op_pure hf11 rfl rfl rfl rfl ca_10 (newR_ok w0 w1 w2 hv) hI4 fun ac12 wd3 hI5 hf12 => ?_)
    refine seq_one (op_val (v := .tuple #[.agg #[.int .i64 w0, .int .i64 w1, .int .i64 w2, .int .i64 w0, .int .i64 w1, .int .i64 w2, .int .i64 0], .bool true]) hf12 rfl rfl rfl rfl rfl rfl (r_move rfl) fun ac13 hf13 => ?_)
    refine seq_one (op_val (v := .agg #[.int .i64 w0, .int .i64 w1, .int .i64 w2, .int .i64 w0, .int .i64 w1, .int .i64 w2, .int .i64 0]) hf13 rfl rfl rfl rfl rfl rfl (r_extract rfl rfl) fun ac14 hf14 => ?_)
    refine seq_one (op_val (v := .bool true) hf14 rfl rfl rfl rfl rfl rfl (r_extract rfl rfl) fun ac15 hf15 => ?_)
    refine seq_one (op_alloc hf15 rfl rfl rfl ze_29 hI5 fun ac16 b3 wd4 hb3 hI6 hf16 => ?_)
    have hI7 : Inv w [(b1, #[.int .i64 w0, .int .i64 w1, .int .i64 w2], 22), (b2, #[.int .i64 w0, .int .i64 w1, .int .i64 w2, .int .i64 w0, .int .i64 w1, .int .i64 w2, .int .i64 0], 58), (b3, #[.int .i64 0, .int .i64 0, .int .i64 0, .int .i64 0, .int .i64 0, .int .i64 0, .int .i64 0], 29)] wd4 := hI6
    refine seq_one (op_storeW (cells := #[.int .i64 w0, .int .i64 w1, .int .i64 w2, .int .i64 w0, .int .i64 w1, .int .i64 w2, .int .i64 0]) 2 hf16 rfl rfl rfl rfl rfl sz_29 rfl rfl hI7 rfl rfl fun wd5 hI8 => ?_)
    have hI9 : Inv w [(b1, #[.int .i64 w0, .int .i64 w1, .int .i64 w2], 22), (b2, #[.int .i64 w0, .int .i64 w1, .int .i64 w2, .int .i64 w0, .int .i64 w1, .int .i64 w2, .int .i64 0], 58), (b3, #[.int .i64 w0, .int .i64 w1, .int .i64 w2, .int .i64 w0, .int .i64 w1, .int .i64 w2, .int .i64 0], 29)] wd5 := hI8
    refine seq_one (op_val (v := .bool true) hf16 rfl rfl rfl rfl rfl rfl (r_assign rfl) fun ac17 hf17 => ?_)
    refine seq_end ?_
    clear ac10 hf10 ac11 wd2 hI4 hf11 ac12 hf12 ac13 hf13 ac14 hf14 ac15 wd3 hI5 hf15 hI6 wd4 hI7 hI8 ac16 hf16
    refine then_normal ?_
    refine code_seq ?_
    refine code_seq ?_
    refine seq_start (l := [0, 1, 2, 3, 4, 5, 6, 7, 8, 9, 10, 11, 12, 13, 14, 15]) rfl ?_
    refine seq_one (op_val (v := .int .i64 0) hf17 rfl rfl rfl rfl rfl rfl (r_move rfl) fun ac18 hf18 => ?_)
    refine seq_one (op_val (v := .bool true) hf18 rfl rfl rfl rfl rfl rfl (r_eqlC rfl rfl (by decide)) fun ac19 hf19 => ?_)
    refine seq_one (op_val (v := .bool true) hf19 rfl rfl rfl rfl rfl rfl (r_move rfl) fun ac20 hf20 => ?_)
    refine seq_one (op_val (v := .bool false) hf20 rfl rfl rfl rfl rfl rfl ((r_neB (p := true) (q := true) ub_4 rfl rfl).trans rfl) fun ac21 hf21 => ?_)
    refine seq_one (op_val (v := .bool false) hf21 rfl rfl rfl rfl rfl rfl (r_move rfl) fun ac22 hf22 => ?_)
    refine seq_one (op_val (v := .bool true) hf22 rfl rfl rfl rfl rfl rfl (r_move rfl) fun ac23 hf23 => ?_)
    refine seq_one (op_val (v := .bool false) hf23 rfl rfl rfl rfl rfl rfl ((r_not (b := true) rfl).trans rfl) fun ac24 hf24 => ?_)
    refine seq_one (op_val (v := .bool false) hf24 rfl rfl rfl rfl rfl rfl (r_move rfl) fun ac25 hf25 => ?_)
    refine seq_one (op_skip hf25 rfl rfl rfl rfl fun ac26 hf26 => ?_)
    refine seq_one (op_skip hf26 rfl rfl rfl rfl fun ac27 hf27 => ?_)
    refine seq_one (op_skip hf27 rfl rfl rfl rfl fun ac28 hf28 => ?_)
    refine seq_one (op_skip hf28 rfl rfl rfl rfl fun ac29 hf29 => ?_)
    refine seq_one (op_skip hf29 rfl rfl rfl rfl fun ac30 hf30 => ?_)
    refine seq_one (op_skip hf30 rfl rfl rfl rfl fun ac31 hf31 => ?_)
    refine seq_one (op_val (v := .bool false) hf31 rfl rfl rfl rfl rfl rfl (r_pickF rfl rfl) fun ac32 hf32 => ?_)
    refine seq_one (op_val (v := .bool false) hf32 rfl rfl rfl rfl rfl rfl (r_pickF rfl rfl) fun ac33 hf33 => ?_)
    refine seq_end ?_
    clear ac17 hf17 ac18 hf18 ac19 hf19 ac20 hf20 ac21 hf21 ac22 hf22 ac23 hf23 ac24 hf24 ac25 hf25 ac26 hf26 ac27 hf27 ac28 hf28 ac29 hf29 ac30 hf30 ac31 hf31 ac32 hf32
    refine then_normal ?_
    refine code_if_false hf33 rfl ?_
    refine wp_skip ?_
    refine then_normal ?_
    refine code_seq ?_
    refine code_seq ?_
    refine seq_start (l := [0, 1, 2, 3, 4, 5, 6]) rfl ?_
    refine seq_one (op_val (v := .bool true) hf33 rfl rfl rfl rfl rfl rfl (r_move rfl) fun ac34 hf34 => ?_)
    refine seq_one (op_val (v := .bool false) hf34 rfl rfl rfl rfl rfl rfl ((r_not (b := true) rfl).trans rfl) fun ac35 hf35 => ?_)
    refine seq_one (op_val (v := .bool false) hf35 rfl rfl rfl rfl rfl rfl (r_move rfl) fun ac36 hf36 => ?_)
    refine seq_one (op_val (v := .slice p L cap) hf36 rfl rfl rfl rfl rfl rfl (r_move rfl) fun ac37 hf37 => ?_)
    refine seq_one (op_val (v := .int .i64 (L : Int)) hf37 rfl rfl rfl rfl rfl rfl (r_len sl_23 rfl) fun ac38 hf38 => ?_)
    refine seq_one (op_val (v := .bool (decide ((L : Int) > 80))) hf38 rfl rfl rfl rfl rfl rfl (r_gtr rfl rfl) fun ac39 hf39 => ?_)
    refine seq_one (op_val (v := .bool (decide ((L : Int) > 80))) hf39 rfl rfl rfl rfl rfl rfl (r_pickF rfl rfl) fun ac40 hf40 => ?_)
    refine seq_end ?_
    clear ac33 hf33 ac34 hf34 ac35 hf35 ac36 hf36 ac37 hf37 ac38 hf38 ac39 hf39
    refine then_normal ?_
    refine code_if hf40 rfl (fun c51_1 => ?_) (fun c51_1 => ?_)
    · have hf41 := hf40.know 51 (u := .bool true) rfl (congrArg Value.bool c51_1)
      refine code_seq ?_
      refine seq_start (l := [0, 1]) rfl ?_
      refine seq_one (op_pure hf41 rfl rfl rfl rfl ca_11 awake_pur hI9 fun ac41 wd6 hI10 hf42 => ?_)
      refine seq_one (op_val (v := .bool true) hf42 rfl rfl rfl rfl rfl rfl (r_assign rfl) fun ac42 hf43 => ?_)
      refine seq_end ?_
      clear hf40 ac40 wd5 hI9 hf41 ac41 hf42
      refine then_normal ?_
      refine wp_ret ?_
      refine then_ret ?_
      refine post1 rfl hf43 rfl ⟨?_, hI10.done (fresh_keys (ks := [b1, b2, b3]) rfl (fk_cons hb1 (fk_cons hb2 (fk_cons hb3 fk_nil))))⟩
      rfl
    · have hf44 := hf40.know 51 (u := .bool false) rfl (congrArg Value.bool c51_1)
      refine wp_skip ?_
      refine then_normal ?_
      refine code_seq ?_
      refine code_seq ?_
      refine seq_start (l := [0, 1, 2]) rfl ?_
      refine seq_one (op_val (v := .slice p L cap) hf44 rfl rfl rfl rfl rfl rfl (r_move rfl) fun ac43 hf45 => ?_)
      refine seq_one (op_val (v := .int .i64 (L : Int)) hf45 rfl rfl rfl rfl rfl rfl (r_len sl_23 rfl) fun ac44 hf46 => ?_)
      refine seq_one (op_val (v := .int .i64 0) hf46 rfl rfl rfl rfl rfl rfl (r_move rfl) fun ac45 hf47 => ?_)
      refine seq_end ?_
      clear hf40 ac40 hf44 ac43 hf45 ac44 hf46
      refine then_normal ?_
      refine wp_block ?_
      refine code_loop (α := Nat × Int × Int × Int × Int) (fun (x : Nat × Int × Int × Int × Int) => match x with | (i, d0, d1, d2, j) => [(0, .agg #[.int .i64 w0, .int .i64 w1, .int .i64 w2]), (1, .slice p L cap), (2, .pointer (some ⟨b1, 0, none⟩)), (5, .pointer (some ⟨b2, 0, none⟩)), (6, .int .i64 0), (7, .pointer (some ⟨b3, 0, none⟩)), (8, .bool true), (19, .tuple #[.pointer (some ⟨b2, 0, none⟩), .int .i64 0]), (20, .agg #[.int .i64 w0, .int .i64 w1, .int .i64 w2]), (21, .tuple #[.pointer (some ⟨b2, 0, none⟩), .int .i64 0]), (22, .pointer (some ⟨b2, 0, none⟩)), (23, .int .i64 0), (24, .tuple #[.agg #[.int .i64 w0, .int .i64 w1, .int .i64 w2, .int .i64 w0, .int .i64 w1, .int .i64 w2, .int .i64 0], .bool true]), (25, .agg #[.int .i64 w0, .int .i64 w1, .int .i64 w2]), (26, .tuple #[.agg #[.int .i64 w0, .int .i64 w1, .int .i64 w2, .int .i64 w0, .int .i64 w1, .int .i64 w2, .int .i64 0], .bool true]), (27, .agg #[.int .i64 w0, .int .i64 w1, .int .i64 w2, .int .i64 w0, .int .i64 w1, .int .i64 w2, .int .i64 0]), (28, .bool true), (29, .int .i64 0), (30, .bool true), (31, .bool true), (32, .bool false), (33, .bool false), (34, .bool true), (35, .bool false), (36, .bool false), (43, .bool false), (44, .bool false), (45, .bool true), (46, .bool false), (47, .bool false), (48, .slice p L cap), (49, .int .i64 (L : Int)), (50, .bool (decide ((L : Int) > 80))), (51, .bool false), (53, .slice p L cap), (54, .int .i64 (L : Int)), (55, .int .i64 (i : Int))]) (fun (x : Nat × Int × Int × Int × Int) => match x with | (i, d0, d1, d2, j) => fun wL => Inv w [(b1, #[.int .i64 w0, .int .i64 w1, .int .i64 w2], 22), (b2, #[.int .i64 w0, .int .i64 w1, .int .i64 w2, .int .i64 d0, .int .i64 d1, .int .i64 d2, .int .i64 j], 58), (b3, #[.int .i64 w0, .int .i64 w1, .int .i64 w2, .int .i64 d0, .int .i64 d1, .int .i64 d2, .int .i64 j], 29)] wL ∧ (i ≤ L ∧ Ok w0 w1 w2 ⟨d0, d1, d2, j⟩)) (fun (x : Nat × Int × Int × Int × Int) => match x with | (i, d0, d1, d2, j) => L - i) (0, w0, w1, w2, 0) (hf47.cons 0 rfl (hf47.cons 1 rfl (hf47.cons 2 rfl (hf47.cons 5 rfl (hf47.cons 6 rfl (hf47.cons 7 rfl (hf47.cons 8 rfl (hf47.cons 19 rfl (hf47.cons 20 rfl (hf47.cons 21 rfl (hf47.cons 22 rfl (hf47.cons 23 rfl (hf47.cons 24 rfl (hf47.cons 25 rfl (hf47.cons 26 rfl (hf47.cons 27 rfl (hf47.cons 28 rfl (hf47.cons 29 rfl (hf47.cons 30 rfl (hf47.cons 31 rfl (hf47.cons 32 rfl (hf47.cons 33 rfl (hf47.cons 34 rfl (hf47.cons 35 rfl (hf47.cons 36 rfl (hf47.cons 43 rfl (hf47.cons 44 rfl (hf47.cons 45 rfl (hf47.cons 46 rfl (hf47.cons 47 rfl (hf47.cons 48 rfl (hf47.cons 49 rfl (hf47.cons 50 rfl (hf47.cons 51 rfl (hf47.cons 53 rfl (hf47.cons 54 rfl (hf47.cons 55 rfl hf47.nil))))))))))))))))))))))))))))))))))))) ⟨hI9, ⟨Nat.zero_le _, init_ok hv⟩⟩ ?_
      intro ⟨i, d0, d1, d2, j⟩ ac46 wd7 hf48 hL1
      obtain ⟨hI11, hx1⟩ := hL1
      dsimp only at hf48 hI11 hx1
      clear ac45 wd5 hf47 hI9
      refine code_seq ?_
      refine seq_start (l := [0]) rfl ?_
      refine seq_one (op_val (v := .bool (decide ((i : Int) < (L : Int)))) hf48 rfl rfl rfl rfl rfl rfl (r_lss rfl rfl) fun ac47 hf49 => ?_)
      refine seq_end ?_
      clear ac46 hf48
      refine then_normal ?_
      refine code_seq ?_
      refine code_if hf49 rfl (fun c56_2 => ?_) (fun c56_2 => ?_)
      · have hf50 := hf49.know 56 (u := .bool true) rfl (congrArg Value.bool c56_2)
        refine wp_skip ?_
        refine then_normal ?_
        refine code_seq ?_
        refine wp_block ?_
        refine code_seq ?_
        refine seq_start (l := [0, 1, 2, 3]) rfl ?_
        obtain ⟨kd4, u4, v4, z4, m4, hri4, hm4⟩ := op_row (i := i) ho (by have := of_decide_eq_true c56_2; omega)
        refine seq_one (op_val (v := .pointer (slAt p (i * 5))) hf50 rfl rfl rfl rfl rfl rfl (r_indexAddrR (i := i) (sz := 5) sl_23 rfl rfl rfl (by have := of_decide_eq_true c56_2; omega) rfl ⟨_, ((hr.old hI11 (fresh_keys (ks := [b1, b2, b3]) rfl (fk_cons hb1 (fk_cons hb2 (fk_cons hb3 fk_nil))))) _ _ hri4).choose_spec.1⟩) fun ac48 hf51 => ?_)
        refine seq_one (op_val (v := .agg #[.int .u8 kd4, .bool u4, .bool v4, .bool z4, .int .i64 m4]) hf51 rfl rfl rfl rfl rfl rfl (r_loadRow ag_35 sz_35 rfl (hr.old hI11 (fresh_keys (ks := [b1, b2, b3]) rfl (fk_cons hb1 (fk_cons hb2 (fk_cons hb3 fk_nil))))) hri4 rfl) fun ac49 hf52 => ?_)
        refine seq_one (op_alloc hf52 rfl rfl rfl ze_35 hI11 fun ac50 b5 wd8 hb5 hI12 hf53 => ?_)
        have hI13 : Inv w [(b1, #[.int .i64 w0, .int .i64 w1, .int .i64 w2], 22), (b2, #[.int .i64 w0, .int .i64 w1, .int .i64 w2, .int .i64 d0, .int .i64 d1, .int .i64 d2, .int .i64 j], 58), (b3, #[.int .i64 w0, .int .i64 w1, .int .i64 w2, .int .i64 d0, .int .i64 d1, .int .i64 d2, .int .i64 j], 29), (b5, #[.int .u8 0, .bool false, .bool false, .bool false, .int .i64 0], 35)] wd8 := hI12
        refine seq_one (op_storeW (cells := #[.int .u8 kd4, .bool u4, .bool v4, .bool z4, .int .i64 m4]) 3 hf53 rfl rfl rfl rfl rfl sz_35 rfl rfl hI13 rfl rfl fun wd9 hI14 => ?_)
        have hI15 : Inv w [(b1, #[.int .i64 w0, .int .i64 w1, .int .i64 w2], 22), (b2, #[.int .i64 w0, .int .i64 w1, .int .i64 w2, .int .i64 d0, .int .i64 d1, .int .i64 d2, .int .i64 j], 58), (b3, #[.int .i64 w0, .int .i64 w1, .int .i64 w2, .int .i64 d0, .int .i64 d1, .int .i64 d2, .int .i64 j], 29), (b5, #[.int .u8 kd4, .bool u4, .bool v4, .bool z4, .int .i64 m4], 35)] wd9 := hI14
        refine seq_end ?_
        clear hf49 ac47 hf50 ac48 hf51 ac49 wd7 hI11 hf52 hI12 wd8 hI13 hI14
        refine then_normal ?_
        refine code_seq ?_
        refine code_seq ?_
        refine seq_start (l := [0, 1]) rfl ?_
        refine seq_one (op_val (v := .pointer (some ⟨b5, 0, none⟩)) hf53 rfl rfl rfl rfl rfl rfl (r_fieldAddr fi_35_0 rfl rfl) fun ac51 hf54 => ?_)
        refine seq_one (op_val (v := .int .u8 kd4) hf54 rfl rfl rfl rfl rfl rfl (r_load ag_5 rfl (hI15.at 3 rfl) rfl) fun ac52 hf55 => ?_)
        refine seq_end ?_
        clear ac50 hf53 ac51 hf54
        refine then_normal ?_
        refine wp_block ?_
        refine code_seq ?_
        refine seq_start (l := [0, 1]) rfl ?_
        refine seq_one (op_val (v := .bool (kd4 == 1)) hf55 rfl rfl rfl rfl rfl rfl (r_eql rfl rfl) fun ac53 hf56 => ?_)
        refine seq_one (op_val (v := .bool (kd4 == 1)) hf56 rfl rfl rfl rfl rfl rfl (r_assign rfl) fun ac54 hf57 => ?_)
        refine seq_end ?_
        clear ac52 hf55 ac53 hf56
        refine then_normal ?_
        refine code_if hf57 rfl (fun c61_3 => ?_) (fun c61_3 => ?_)
        · have hf58 := hf57.know 61 (u := .bool true) rfl (congrArg Value.bool c61_3)
          refine code_seq ?_
          refine seq_start (l := [0, 1, 2, 3, 4, 5, 6, 7, 8]) rfl ?_
          refine seq_one (op_val (v := .pointer (some ⟨b2, 0, none⟩)) hf58 rfl rfl rfl rfl rfl rfl (r_move rfl) fun ac55 hf59 => ?_)
          refine seq_one (op_val (v := .pointer (some ⟨b5, 1, none⟩)) hf59 rfl rfl rfl rfl rfl rfl (r_fieldAddr fi_35_1 rfl rfl) fun ac56 hf60 => ?_)
          refine seq_one (op_val (v := .agg #[.bool u4, .bool v4, .bool z4]) hf60 rfl rfl rfl rfl rfl rfl (r_loadP (sz := 3) ag_33 sz_33 rfl (hI15.at 3 rfl) (leb rfl) (by kernel_rfl)) fun ac57 hf61 => ?_)
          refine seq_one (op_call (R := fun v w' => v = (.tuple #[.int .i64 (pickN u4 v4 z4 w0 w1 w2 ⟨d0, d1, d2, j⟩), .bool (u4 || v4 || z4)]) ∧ Inv wd9 [(b2, #[.int .i64 w0, .int .i64 w1, .int .i64 w2, .int .i64 (((pickS u4 v4 z4 w0 w1 w2 ⟨d0, d1, d2, j⟩ : St)).c0), .int .i64 (((pickS u4 v4 z4 w0 w1 w2 ⟨d0, d1, d2, j⟩ : St)).c1), .int .i64 (((pickS u4 v4 z4 w0 w1 w2 ⟨d0, d1, d2, j⟩ : St)).c2), .int .i64 (((pickS u4 v4 z4 w0 w1 w2 ⟨d0, d1, d2, j⟩ : St)).now)], 58)] w') hf61 rfl rfl rfl rfl ca_12 ((pick_walk w0 w1 w2 d0 d1 d2 j u4 v4 z4 hv.ne hv hx1.2 b2 _ (Has.cons (hI15.at 1 rfl) Has.nil)).mono fun _ _ h => ⟨_, h.1, rfl, h.2⟩) fun ac58 v wd10 hR hf62 => ?_)
          obtain ⟨rfl, hR⟩ := hR
          obtain ⟨a_6, b_6, c_6, d_6, he6⟩ : ∃ a b c d, (pickS u4 v4 z4 w0 w1 w2 ⟨d0, d1, d2, j⟩ : St) = ⟨a, b, c, d⟩ := ⟨_, _, _, _, rfl⟩
          rw [he6] at hR
          dsimp only at hR
          have ho6 : Ok w0 w1 w2 ⟨a_6, b_6, c_6, d_6⟩ := by rw [← he6]; exact (pickS_ok hv hx1.2)
          have hI16 : Inv w [(b1, #[.int .i64 w0, .int .i64 w1, .int .i64 w2], 22), (b2, #[.int .i64 w0, .int .i64 w1, .int .i64 w2, .int .i64 a_6, .int .i64 b_6, .int .i64 c_6, .int .i64 d_6], 58), (b3, #[.int .i64 w0, .int .i64 w1, .int .i64 w2, .int .i64 d0, .int .i64 d1, .int .i64 d2, .int .i64 j], 29), (b5, #[.int .u8 kd4, .bool u4, .bool v4, .bool z4, .int .i64 m4], 35)] _ := Inv.callS (A := [(b1, #[.int .i64 w0, .int .i64 w1, .int .i64 w2], 22)]) (S := [(b2, #[.int .i64 w0, .int .i64 w1, .int .i64 w2, .int .i64 d0, .int .i64 d1, .int .i64 d2, .int .i64 j], 58)]) (S' := [(b2, #[.int .i64 w0, .int .i64 w1, .int .i64 w2, .int .i64 a_6, .int .i64 b_6, .int .i64 c_6, .int .i64 d_6], 58)]) (L := [(b3, #[.int .i64 w0, .int .i64 w1, .int .i64 w2, .int .i64 d0, .int .i64 d1, .int .i64 d2, .int .i64 j], 29), (b5, #[.int .u8 kd4, .bool u4, .bool v4, .bool z4, .int .i64 m4], 35)]) (N := []) hI15 hR rfl (fun _ h => by cases h)
          refine seq_one (op_val (v := .tuple #[.int .i64 (pickN u4 v4 z4 w0 w1 w2 ⟨d0, d1, d2, j⟩), .bool (u4 || v4 || z4)]) hf62 rfl rfl rfl rfl rfl rfl (r_move rfl) fun ac59 hf63 => ?_)
          refine seq_one (op_val (v := .int .i64 (pickN u4 v4 z4 w0 w1 w2 ⟨d0, d1, d2, j⟩)) hf63 rfl rfl rfl rfl rfl rfl (r_extract rfl rfl) fun ac60 hf64 => ?_)
          refine seq_one (op_val (v := .bool (u4 || v4 || z4)) hf64 rfl rfl rfl rfl rfl rfl (r_extract rfl rfl) fun ac61 hf65 => ?_)
          refine seq_one (op_val (v := .int .i64 (pickN u4 v4 z4 w0 w1 w2 ⟨d0, d1, d2, j⟩)) hf65 rfl rfl rfl rfl rfl rfl (r_assign rfl) fun ac62 hf66 => ?_)
          refine seq_one (op_val (v := .bool (u4 || v4 || z4)) hf66 rfl rfl rfl rfl rfl rfl (r_assign rfl) fun ac63 hf67 => ?_)
          refine seq_end ?_
          clear hf57 ac54 hf58 ac55 hf59 ac56 hf60 ac57 wd9 hf61 hI15 hR ac58 hf62 ac59 hf63 ac60 hf64 ac61 hf65 ac62 hf66
          refine then_normal ?_
          refine code_seq ?_
          refine seq_start (l := [0, 1, 2, 3, 4, 5, 6, 7, 8, 9, 10, 11]) rfl ?_
          refine seq_one (op_val (v := .agg #[.int .i64 w0, .int .i64 w1, .int .i64 w2, .int .i64 d0, .int .i64 d1, .int .i64 d2, .int .i64 j]) hf67 rfl rfl rfl rfl rfl rfl (r_loadW ag_29 sz_29 rfl (hI16.at 2 rfl) rfl) fun ac64 hf68 => ?_)
          refine seq_one (op_val (v := .pointer (some ⟨b5, 1, none⟩)) hf68 rfl rfl rfl rfl rfl rfl (r_fieldAddr fi_35_1 rfl rfl) fun ac65 hf69 => ?_)
          refine seq_one (op_val (v := .agg #[.bool u4, .bool v4, .bool z4]) hf69 rfl rfl rfl rfl rfl rfl (r_loadP (sz := 3) ag_33 sz_33 rfl (hI16.at 3 rfl) (leb rfl) (by kernel_rfl)) fun ac66 hf70 => ?_)
          refine seq_one (op_pure (v := .tuple #[.agg #[.int .i64 w0, .int .i64 w1, .int .i64 w2, .int .i64 a_6, .int .i64 b_6, .int .i64 c_6, .int .i64 d_6], .int .i64 (pickN u4 v4 z4 w0 w1 w2 ⟨d0, d1, d2, j⟩), .bool (u4 || v4 || z4)]) hf70 rfl rfl rfl rfl ca_13 (by have h := (pickR_pur w0 w1 w2 d0 d1 d2 j u4 v4 z4 hv hx1.2); rw [he6] at h; exact h) hI16 fun ac67 wd11 hI17 hf71 => ?_)
          refine seq_one (op_val (v := .tuple #[.agg #[.int .i64 w0, .int .i64 w1, .int .i64 w2, .int .i64 a_6, .int .i64 b_6, .int .i64 c_6, .int .i64 d_6], .int .i64 (pickN u4 v4 z4 w0 w1 w2 ⟨d0, d1, d2, j⟩), .bool (u4 || v4 || z4)]) hf71 rfl rfl rfl rfl rfl rfl (r_move rfl) fun ac68 hf72 => ?_)
          refine seq_one (op_val (v := .agg #[.int .i64 w0, .int .i64 w1, .int .i64 w2, .int .i64 a_6, .int .i64 b_6, .int .i64 c_6, .int .i64 d_6]) hf72 rfl rfl rfl rfl rfl rfl (r_extract rfl rfl) fun ac69 hf73 => ?_)
          refine seq_one (op_val (v := .int .i64 (pickN u4 v4 z4 w0 w1 w2 ⟨d0, d1, d2, j⟩)) hf73 rfl rfl rfl rfl rfl rfl (r_extract rfl rfl) fun ac70 hf74 => ?_)
          refine seq_one (op_val (v := .bool (u4 || v4 || z4)) hf74 rfl rfl rfl rfl rfl rfl (r_extract rfl rfl) fun ac71 hf75 => ?_)
          refine seq_one (op_alloc hf75 rfl rfl rfl ze_29 hI17 fun ac72 b7 wd12 hb7 hI18 hf76 => ?_)
          have hI19 : Inv w [(b1, #[.int .i64 w0, .int .i64 w1, .int .i64 w2], 22), (b2, #[.int .i64 w0, .int .i64 w1, .int .i64 w2, .int .i64 a_6, .int .i64 b_6, .int .i64 c_6, .int .i64 d_6], 58), (b3, #[.int .i64 w0, .int .i64 w1, .int .i64 w2, .int .i64 d0, .int .i64 d1, .int .i64 d2, .int .i64 j], 29), (b5, #[.int .u8 kd4, .bool u4, .bool v4, .bool z4, .int .i64 m4], 35), (b7, #[.int .i64 0, .int .i64 0, .int .i64 0, .int .i64 0, .int .i64 0, .int .i64 0, .int .i64 0], 29)] wd12 := hI18
          refine seq_one (op_storeW (cells := #[.int .i64 w0, .int .i64 w1, .int .i64 w2, .int .i64 a_6, .int .i64 b_6, .int .i64 c_6, .int .i64 d_6]) 4 hf76 rfl rfl rfl rfl rfl sz_29 rfl rfl hI19 rfl rfl fun wd13 hI20 => ?_)
          have hI21 : Inv w [(b1, #[.int .i64 w0, .int .i64 w1, .int .i64 w2], 22), (b2, #[.int .i64 w0, .int .i64 w1, .int .i64 w2, .int .i64 a_6, .int .i64 b_6, .int .i64 c_6, .int .i64 d_6], 58), (b3, #[.int .i64 w0, .int .i64 w1, .int .i64 w2, .int .i64 d0, .int .i64 d1, .int .i64 d2, .int .i64 j], 29), (b5, #[.int .u8 kd4, .bool u4, .bool v4, .bool z4, .int .i64 m4], 35), (b7, #[.int .i64 w0, .int .i64 w1, .int .i64 w2, .int .i64 a_6, .int .i64 b_6, .int .i64 c_6, .int .i64 d_6], 29)] wd13 := hI20
          refine seq_one (op_val (v := .int .i64 (pickN u4 v4 z4 w0 w1 w2 ⟨d0, d1, d2, j⟩)) hf76 rfl rfl rfl rfl rfl rfl (r_assign rfl) fun ac73 hf77 => ?_)
          refine seq_one (op_val (v := .bool (u4 || v4 || z4)) hf77 rfl rfl rfl rfl rfl rfl (r_assign rfl) fun ac74 hf78 => ?_)
          refine seq_end ?_
          clear ac63 hf67 ac64 hf68 ac65 hf69 ac66 wd10 hI16 hf70 ac67 hf71 ac68 hf72 ac69 hf73 ac70 hf74 ac71 wd11 hI17 hf75 hI18 wd12 hI19 hI20 ac72 hf76 ac73 hf77
          refine then_normal ?_
          refine code_seq ?_
          refine seq_start (l := [0, 1]) rfl ?_
          refine seq_one (op_val (v := .agg #[.int .i64 w0, .int .i64 w1, .int .i64 w2, .int .i64 a_6, .int .i64 b_6, .int .i64 c_6, .int .i64 d_6]) hf78 rfl rfl rfl rfl rfl rfl (r_loadW ag_29 sz_29 rfl (hI21.at 4 rfl) rfl) fun ac75 hf79 => ?_)
          refine seq_one (op_storeW (cells := #[.int .i64 w0, .int .i64 w1, .int .i64 w2, .int .i64 a_6, .int .i64 b_6, .int .i64 c_6, .int .i64 d_6]) 2 hf79 rfl rfl rfl rfl rfl sz_29 rfl rfl hI21 rfl rfl fun wd14 hI22 => ?_)
          have hI23 : Inv w [(b1, #[.int .i64 w0, .int .i64 w1, .int .i64 w2], 22), (b2, #[.int .i64 w0, .int .i64 w1, .int .i64 w2, .int .i64 a_6, .int .i64 b_6, .int .i64 c_6, .int .i64 d_6], 58), (b3, #[.int .i64 w0, .int .i64 w1, .int .i64 w2, .int .i64 a_6, .int .i64 b_6, .int .i64 c_6, .int .i64 d_6], 29), (b5, #[.int .u8 kd4, .bool u4, .bool v4, .bool z4, .int .i64 m4], 35), (b7, #[.int .i64 w0, .int .i64 w1, .int .i64 w2, .int .i64 a_6, .int .i64 b_6, .int .i64 c_6, .int .i64 d_6], 29)] wd14 := hI22
          refine seq_end ?_
          clear ac74 hf78 wd13 hI21 hI22
          refine then_normal ?_
          refine code_seq ?_
          refine seq_start (l := [0, 1, 2, 3, 4, 5, 6, 7]) rfl ?_
          refine seq_one (op_val (v := .int .i64 (pickN u4 v4 z4 w0 w1 w2 ⟨d0, d1, d2, j⟩)) hf79 rfl rfl rfl rfl rfl rfl (r_move rfl) fun ac76 hf80 => ?_)
          refine seq_one (op_val (v := .int .i64 (pickN u4 v4 z4 w0 w1 w2 ⟨d0, d1, d2, j⟩)) hf80 rfl rfl rfl rfl rfl rfl (r_move rfl) fun ac77 hf81 => ?_)
          refine seq_one (op_val (v := .bool ((pickN u4 v4 z4 w0 w1 w2 ⟨d0, d1, d2, j⟩) != (pickN u4 v4 z4 w0 w1 w2 ⟨d0, d1, d2, j⟩))) hf81 rfl rfl rfl rfl rfl rfl (r_neq rfl rfl) fun ac78 hf82 => ?_)
          refine seq_one (op_val (v := .bool ((pickN u4 v4 z4 w0 w1 w2 ⟨d0, d1, d2, j⟩) != (pickN u4 v4 z4 w0 w1 w2 ⟨d0, d1, d2, j⟩))) hf82 rfl rfl rfl rfl rfl rfl (r_move rfl) fun ac79 hf83 => ?_)
          have hf84 := hf83.know 82 (u := .bool false) rfl (congrArg Value.bool (bne_self_eq_false _))
          refine seq_one (op_val (v := .bool (u4 || v4 || z4)) hf84 rfl rfl rfl rfl rfl rfl (r_move rfl) fun ac80 hf85 => ?_)
          refine seq_one (op_val (v := .bool (u4 || v4 || z4)) hf85 rfl rfl rfl rfl rfl rfl (r_move rfl) fun ac81 hf86 => ?_)
          refine seq_one (op_val (v := .bool ((u4 || v4 || z4) != (u4 || v4 || z4))) hf86 rfl rfl rfl rfl rfl rfl (r_neB ub_4 rfl rfl) fun ac82 hf87 => ?_)
          refine seq_one (op_val (v := .bool ((u4 || v4 || z4) != (u4 || v4 || z4))) hf87 rfl rfl rfl rfl rfl rfl (r_pickF rfl rfl) fun ac83 hf88 => ?_)
          refine seq_end ?_
          clear ac75 hf79 ac76 hf80 ac77 hf81 ac78 hf82 hf83 ac79 hf84 ac80 hf85 ac81 hf86 ac82 hf87
          refine then_normal ?_
          have hf89 := hf88.know 86 (u := .bool false) rfl (congrArg Value.bool (bne_self_eq_false _))
          refine code_if_false hf89 rfl ?_
          refine wp_skip ?_
          refine block_normal ?_
          refine then_normal ?_
          refine code_seq ?_
          refine any_start (fun w => Has [(b3, #[.int .i64 w0, .int .i64 w1, .int .i64 w2, .int .i64 a_6, .int .i64 b_6, .int .i64 c_6, .int .i64 d_6], 29)] w) follows (Has.drew (Has.cons (hI23.at 2 rfl) Has.nil)) ?_
          have hS1 : Has [(b3, #[.int .i64 w0, .int .i64 w1, .int .i64 w2, .int .i64 a_6, .int .i64 b_6, .int .i64 c_6, .int .i64 d_6], 29)] _ := Has.drew (Has.cons (hI23.at 2 rfl) Has.nil)
          have hI24 := hI23.drew
          refine any_val (i := 0) (v := .pointer (some ⟨b2, 0, none⟩)) hf89 rfl rfl rfl rfl rfl rfl (fun _ _ _ h => h) (by kernel_rfl) (by kernel_rfl) (by kernel_rfl) (fun wd14 hS1 => (r_move rfl)) hS1 fun ac84 hf90 => ?_
          refine any_val (i := 2) (v := .pointer (some ⟨b3, 6, none⟩)) hf90 rfl rfl rfl rfl rfl rfl (fun _ _ _ h => h) (by kernel_rfl) (by kernel_rfl) (by kernel_rfl) (fun wd14 hS1 => (r_fieldAddr fi_29_2 rfl rfl)) hS1 fun ac85 hf91 => ?_
          refine any_val (i := 3) (v := .int .i64 d_6) hf91 rfl rfl rfl rfl rfl rfl (fun _ _ _ h => h) (by kernel_rfl) (by kernel_rfl) (by kernel_rfl) (fun wd14 hS1 => (r_load ag_3 rfl (hS1.at 0 rfl) rfl)) hS1 fun ac86 hf92 => ?_
          refine any_one (i := 1) (by kernel_rfl) ?_
          refine (op_pureW hf92 rfl rfl rfl rfl ca_16 (now_walk w0 w1 w2 a_6 b_6 c_6 d_6 hv.ne b2 _ (Has.cons (hI24.at 1 rfl) Has.nil)) hI24 fun ac87 wd15 hI25 hf93 => ⟨?_, ?_⟩)
          · exact (Has.cons (hI25.at 2 rfl) Has.nil)
          have hS2 : Has [(b3, #[.int .i64 w0, .int .i64 w1, .int .i64 w2, .int .i64 a_6, .int .i64 b_6, .int .i64 c_6, .int .i64 d_6], 29)] _ := (Has.cons (hI25.at 2 rfl) Has.nil)
          refine any_val (i := 4) (v := .bool (d_6 != d_6)) hf93 rfl rfl rfl rfl rfl rfl (fun _ _ _ h => h) (by kernel_rfl) (by kernel_rfl) (by kernel_rfl) (fun wd15 hS2 => (r_neq rfl rfl)) hS2 fun ac88 hf94 => ?_
          refine any_val (i := 5) (v := .bool (d_6 != d_6)) hf94 rfl rfl rfl rfl rfl rfl (fun _ _ _ h => h) (by kernel_rfl) (by kernel_rfl) (by kernel_rfl) (fun wd15 hS2 => (r_move rfl)) hS2 fun ac89 hf95 => ?_
          have hf96 := hf95.know 109 (u := .bool false) rfl (congrArg Value.bool (bne_self_eq_false _))
          refine any_val (i := 6) (v := .pointer (some ⟨b2, 0, none⟩)) hf96 rfl rfl rfl rfl rfl rfl (fun _ _ _ h => h) (by kernel_rfl) (by kernel_rfl) (by kernel_rfl) (fun wd15 hS2 => (r_move rfl)) hS2 fun ac90 hf97 => ?_
          refine any_val (i := 8) (v := .pointer (some ⟨b3, 3, none⟩)) hf97 rfl rfl rfl rfl rfl rfl (fun _ _ _ h => h) (by kernel_rfl) (by kernel_rfl) (by kernel_rfl) (fun wd15 hS2 => (r_fieldAddr fi_29_1 rfl rfl)) hS2 fun ac91 hf98 => ?_
          refine any_val (i := 9) (v := .agg #[.int .i64 a_6, .int .i64 b_6, .int .i64 c_6]) hf98 rfl rfl rfl rfl rfl rfl (fun _ _ _ h => h) (by kernel_rfl) (by kernel_rfl) (by kernel_rfl) (fun wd15 hS2 => (r_loadP (sz := 3) ag_22 sz_22 rfl (hS2.at 0 rfl) (leb rfl) (by kernel_rfl))) hS2 fun ac92 hf99 => ?_
          refine any_one (i := 7) (by kernel_rfl) ?_
          refine (op_pureW hf99 rfl rfl rfl rfl ca_17 (credits_walk w0 w1 w2 a_6 b_6 c_6 d_6 hv.ne b2 _ (Has.cons (hI25.at 1 rfl) Has.nil)) hI25 fun ac93 wd16 hI26 hf100 => ⟨?_, ?_⟩)
          · exact (Has.cons (hI26.at 2 rfl) Has.nil)
          have hS3 : Has [(b3, #[.int .i64 w0, .int .i64 w1, .int .i64 w2, .int .i64 a_6, .int .i64 b_6, .int .i64 c_6, .int .i64 d_6], 29)] _ := (Has.cons (hI26.at 2 rfl) Has.nil)
          refine any_val (i := 10) (v := .bool (!eqA (#[.int .i64 a_6, .int .i64 b_6, .int .i64 c_6]) (#[.int .i64 a_6, .int .i64 b_6, .int .i64 c_6]))) hf100 rfl rfl rfl rfl rfl rfl (fun _ _ _ h => h) (by kernel_rfl) (by kernel_rfl) (by kernel_rfl) (fun wd16 hS3 => (r_neA sh_22 kt_22 rw_22 rfl zk_22 eg_22 rfl rfl ⟨⟨_, rfl, (okwf0 hv ho6)⟩, ⟨_, rfl, (okwf1 hv ho6)⟩, ⟨_, rfl, (okwf2 hv ho6)⟩, trivial⟩ ⟨⟨_, rfl, (okwf0 hv ho6)⟩, ⟨_, rfl, (okwf1 hv ho6)⟩, ⟨_, rfl, (okwf2 hv ho6)⟩, trivial⟩)) hS3 fun ac94 hf101 => ?_
          refine any_val (i := 11) (v := .bool (!eqA (#[.int .i64 a_6, .int .i64 b_6, .int .i64 c_6]) (#[.int .i64 a_6, .int .i64 b_6, .int .i64 c_6]))) hf101 rfl rfl rfl rfl rfl rfl (fun _ _ _ h => h) (by kernel_rfl) (by kernel_rfl) (by kernel_rfl) (fun wd16 hS3 => (r_pickF rfl rfl)) hS3 fun ac95 hf102 => ?_
          refine any_end (by kernel_rfl) ?_
          clear hf88 hI23 ac83 hf89 ac84 hf90 ac85 hf91 ac86 wd14 hI24 hf92 hS1 ac87 hf93 ac88 hf94 hf95 ac89 hf96 ac90 hf97 ac91 hf98 ac92 wd15 hI25 hf99 hS2 ac93 hf100 ac94 hf101 hS3
          refine then_normal ?_
          have hf103 := hf102.know 115 (u := .bool false) rfl (congrArg Value.bool (by rw [eqA_true rfl]; rfl))
          refine code_if_false hf103 rfl ?_
          refine wp_skip ?_
          refine block_normal ?_
          refine then_normal ?_
          refine seq_start (l := [0, 1]) rfl ?_
          refine seq_one (op_val (v := .int .i64 ((i + 1 : Nat) : Int)) hf103 rfl rfl rfl rfl rfl rfl (r_add (c := ((i + 1 : Nat) : Int)) rfl rfl (wrap_i64 (by omega) (by have := hx1.1; have := of_decide_eq_false c51_1; omega))) fun ac96 hf104 => ?_)
          refine seq_one (op_val (v := .int .i64 ((i + 1 : Nat) : Int)) hf104 rfl rfl rfl rfl rfl rfl (r_move rfl) fun ac97 hf105 => ?_)
          refine seq_end ?_
          clear hf102 ac95 hf103 ac96 hf104
          refine then_normal ?_
          exact ⟨(i + 1, a_6, b_6, c_6, d_6), (hf105.cons 0 rfl (hf105.cons 1 rfl (hf105.cons 2 rfl (hf105.cons 5 rfl (hf105.cons 6 rfl (hf105.cons 7 rfl (hf105.cons 8 rfl (hf105.cons 19 rfl (hf105.cons 20 rfl (hf105.cons 21 rfl (hf105.cons 22 rfl (hf105.cons 23 rfl (hf105.cons 24 rfl (hf105.cons 25 rfl (hf105.cons 26 rfl (hf105.cons 27 rfl (hf105.cons 28 rfl (hf105.cons 29 rfl (hf105.cons 30 rfl (hf105.cons 31 rfl (hf105.cons 32 rfl (hf105.cons 33 rfl (hf105.cons 34 rfl (hf105.cons 35 rfl (hf105.cons 36 rfl (hf105.cons 43 rfl (hf105.cons 44 rfl (hf105.cons 45 rfl (hf105.cons 46 rfl (hf105.cons 47 rfl (hf105.cons 48 rfl (hf105.cons 49 rfl (hf105.cons 50 rfl (hf105.cons 51 rfl (hf105.cons 53 rfl (hf105.cons 54 rfl (hf105.cons 55 rfl hf105.nil))))))))))))))))))))))))))))))))))))), ⟨(Inv.drop (A := [(b1, #[.int .i64 w0, .int .i64 w1, .int .i64 w2], 22), (b2, #[.int .i64 w0, .int .i64 w1, .int .i64 w2, .int .i64 a_6, .int .i64 b_6, .int .i64 c_6, .int .i64 d_6], 58), (b3, #[.int .i64 w0, .int .i64 w1, .int .i64 w2, .int .i64 a_6, .int .i64 b_6, .int .i64 c_6, .int .i64 d_6], 29)]) (B := [(b5, #[.int .u8 kd4, .bool u4, .bool v4, .bool z4, .int .i64 m4], 35), (b7, #[.int .i64 w0, .int .i64 w1, .int .i64 w2, .int .i64 a_6, .int .i64 b_6, .int .i64 c_6, .int .i64 d_6], 29)]) hI26 (fresh_keys (ks := [b5, b7]) rfl (fk_cons hb5 (fk_cons hb7 fk_nil)))), ⟨by have := of_decide_eq_true c56_2; omega, ho6⟩⟩, (by have := of_decide_eq_true c56_2; show L - (i + 1) < L - i; omega)⟩
        · have hf106 := hf57.know 61 (u := .bool false) rfl (congrArg Value.bool c61_3)
          refine code_seq ?_
          refine seq_start (l := [0, 1]) rfl ?_
          refine seq_one (op_val (v := .bool (kd4 == 2)) hf106 rfl rfl rfl rfl rfl rfl (r_eql rfl rfl) fun ac98 hf107 => ?_)
          refine seq_one (op_val (v := .bool (kd4 == 2)) hf107 rfl rfl rfl rfl rfl rfl (r_assign rfl) fun ac99 hf108 => ?_)
          refine seq_end ?_
          clear hf57 ac54 hf106 ac98 hf107
          refine then_normal ?_
          refine code_if hf108 rfl (fun c87_4 => ?_) (fun c87_4 => ?_)
          · have hf109 := hf108.know 87 (u := .bool true) rfl (congrArg Value.bool c87_4)
            refine code_seq ?_
            refine seq_start (l := [0, 1, 2, 3, 4]) rfl ?_
            refine seq_one (op_val (v := .pointer (some ⟨b2, 0, none⟩)) hf109 rfl rfl rfl rfl rfl rfl (r_move rfl) fun ac100 hf110 => ?_)
            refine seq_one (op_val (v := .pointer (some ⟨b5, 4, none⟩)) hf110 rfl rfl rfl rfl rfl rfl (r_fieldAddr fi_35_2 rfl rfl) fun ac101 hf111 => ?_)
            refine seq_one (op_val (v := .int .i64 m4) hf111 rfl rfl rfl rfl rfl rfl (r_load ag_3 rfl (hI15.at 3 rfl) rfl) fun ac102 hf112 => ?_)
            refine seq_one (op_call (R := fun v w' => v = (.int .i64 (spE m4 ⟨d0, d1, d2, j⟩)) ∧ Inv wd9 [(b2, #[.int .i64 w0, .int .i64 w1, .int .i64 w2, .int .i64 (((spS m4 ⟨d0, d1, d2, j⟩ : St)).c0), .int .i64 (((spS m4 ⟨d0, d1, d2, j⟩ : St)).c1), .int .i64 (((spS m4 ⟨d0, d1, d2, j⟩ : St)).c2), .int .i64 (((spS m4 ⟨d0, d1, d2, j⟩ : St)).now)], 58)] w') hf112 rfl rfl rfl rfl ca_14 ((spend_walk w0 w1 w2 d0 d1 d2 j m4 hv.ne hv hx1.2 b2 _ (Has.cons (hI15.at 1 rfl) Has.nil)).mono fun _ _ h => ⟨_, h.1, rfl, h.2⟩) fun ac103 v wd17 hR hf113 => ?_)
            obtain ⟨rfl, hR⟩ := hR
            obtain ⟨a_6, b_6, c_6, d_6, he6⟩ : ∃ a b c d, (spS m4 ⟨d0, d1, d2, j⟩ : St) = ⟨a, b, c, d⟩ := ⟨_, _, _, _, rfl⟩
            rw [he6] at hR
            dsimp only at hR
            have ho6 : Ok w0 w1 w2 ⟨a_6, b_6, c_6, d_6⟩ := by rw [← he6]; exact (spS_ok hx1.2)
            have hI27 : Inv w [(b1, #[.int .i64 w0, .int .i64 w1, .int .i64 w2], 22), (b2, #[.int .i64 w0, .int .i64 w1, .int .i64 w2, .int .i64 a_6, .int .i64 b_6, .int .i64 c_6, .int .i64 d_6], 58), (b3, #[.int .i64 w0, .int .i64 w1, .int .i64 w2, .int .i64 d0, .int .i64 d1, .int .i64 d2, .int .i64 j], 29), (b5, #[.int .u8 kd4, .bool u4, .bool v4, .bool z4, .int .i64 m4], 35)] _ := Inv.callS (A := [(b1, #[.int .i64 w0, .int .i64 w1, .int .i64 w2], 22)]) (S := [(b2, #[.int .i64 w0, .int .i64 w1, .int .i64 w2, .int .i64 d0, .int .i64 d1, .int .i64 d2, .int .i64 j], 58)]) (S' := [(b2, #[.int .i64 w0, .int .i64 w1, .int .i64 w2, .int .i64 a_6, .int .i64 b_6, .int .i64 c_6, .int .i64 d_6], 58)]) (L := [(b3, #[.int .i64 w0, .int .i64 w1, .int .i64 w2, .int .i64 d0, .int .i64 d1, .int .i64 d2, .int .i64 j], 29), (b5, #[.int .u8 kd4, .bool u4, .bool v4, .bool z4, .int .i64 m4], 35)]) (N := []) hI15 hR rfl (fun _ h => by cases h)
            refine seq_one (op_val (v := .int .i64 (spE m4 ⟨d0, d1, d2, j⟩)) hf113 rfl rfl rfl rfl rfl rfl (r_assign rfl) fun ac104 hf114 => ?_)
            refine seq_end ?_
            clear hf108 ac99 hf109 ac100 hf110 ac101 hf111 ac102 wd9 hf112 hI15 hR ac103 hf113
            refine then_normal ?_
            refine code_seq ?_
            refine seq_start (l := [0, 1, 2, 3, 4, 5, 6, 7, 8, 9]) rfl ?_
            refine seq_one (op_val (v := .agg #[.int .i64 w0, .int .i64 w1, .int .i64 w2, .int .i64 d0, .int .i64 d1, .int .i64 d2, .int .i64 j]) hf114 rfl rfl rfl rfl rfl rfl (r_loadW ag_29 sz_29 rfl (hI27.at 2 rfl) rfl) fun ac105 hf115 => ?_)
            refine seq_one (op_val (v := .pointer (some ⟨b5, 4, none⟩)) hf115 rfl rfl rfl rfl rfl rfl (r_fieldAddr fi_35_2 rfl rfl) fun ac106 hf116 => ?_)
            refine seq_one (op_val (v := .int .i64 m4) hf116 rfl rfl rfl rfl rfl rfl (r_load ag_3 rfl (hI27.at 3 rfl) rfl) fun ac107 hf117 => ?_)
            refine seq_one (op_pure (v := .tuple #[.agg #[.int .i64 w0, .int .i64 w1, .int .i64 w2, .int .i64 a_6, .int .i64 b_6, .int .i64 c_6, .int .i64 d_6], .int .i64 (spE m4 ⟨d0, d1, d2, j⟩)]) hf117 rfl rfl rfl rfl ca_15 (by have h := (spendR_pur w0 w1 w2 d0 d1 d2 j m4 hv hx1.2); rw [he6] at h; exact h) hI27 fun ac108 wd18 hI28 hf118 => ?_)
            refine seq_one (op_val (v := .tuple #[.agg #[.int .i64 w0, .int .i64 w1, .int .i64 w2, .int .i64 a_6, .int .i64 b_6, .int .i64 c_6, .int .i64 d_6], .int .i64 (spE m4 ⟨d0, d1, d2, j⟩)]) hf118 rfl rfl rfl rfl rfl rfl (r_move rfl) fun ac109 hf119 => ?_)
            refine seq_one (op_val (v := .agg #[.int .i64 w0, .int .i64 w1, .int .i64 w2, .int .i64 a_6, .int .i64 b_6, .int .i64 c_6, .int .i64 d_6]) hf119 rfl rfl rfl rfl rfl rfl (r_extract rfl rfl) fun ac110 hf120 => ?_)
            refine seq_one (op_val (v := .int .i64 (spE m4 ⟨d0, d1, d2, j⟩)) hf120 rfl rfl rfl rfl rfl rfl (r_extract rfl rfl) fun ac111 hf121 => ?_)
            refine seq_one (op_alloc hf121 rfl rfl rfl ze_29 hI28 fun ac112 b7 wd19 hb7 hI29 hf122 => ?_)
            have hI30 : Inv w [(b1, #[.int .i64 w0, .int .i64 w1, .int .i64 w2], 22), (b2, #[.int .i64 w0, .int .i64 w1, .int .i64 w2, .int .i64 a_6, .int .i64 b_6, .int .i64 c_6, .int .i64 d_6], 58), (b3, #[.int .i64 w0, .int .i64 w1, .int .i64 w2, .int .i64 d0, .int .i64 d1, .int .i64 d2, .int .i64 j], 29), (b5, #[.int .u8 kd4, .bool u4, .bool v4, .bool z4, .int .i64 m4], 35), (b7, #[.int .i64 0, .int .i64 0, .int .i64 0, .int .i64 0, .int .i64 0, .int .i64 0, .int .i64 0], 29)] wd19 := hI29
            refine seq_one (op_storeW (cells := #[.int .i64 w0, .int .i64 w1, .int .i64 w2, .int .i64 a_6, .int .i64 b_6, .int .i64 c_6, .int .i64 d_6]) 4 hf122 rfl rfl rfl rfl rfl sz_29 rfl rfl hI30 rfl rfl fun wd20 hI31 => ?_)
            have hI32 : Inv w [(b1, #[.int .i64 w0, .int .i64 w1, .int .i64 w2], 22), (b2, #[.int .i64 w0, .int .i64 w1, .int .i64 w2, .int .i64 a_6, .int .i64 b_6, .int .i64 c_6, .int .i64 d_6], 58), (b3, #[.int .i64 w0, .int .i64 w1, .int .i64 w2, .int .i64 d0, .int .i64 d1, .int .i64 d2, .int .i64 j], 29), (b5, #[.int .u8 kd4, .bool u4, .bool v4, .bool z4, .int .i64 m4], 35), (b7, #[.int .i64 w0, .int .i64 w1, .int .i64 w2, .int .i64 a_6, .int .i64 b_6, .int .i64 c_6, .int .i64 d_6], 29)] wd20 := hI31
            refine seq_one (op_val (v := .int .i64 (spE m4 ⟨d0, d1, d2, j⟩)) hf122 rfl rfl rfl rfl rfl rfl (r_assign rfl) fun ac113 hf123 => ?_)
            refine seq_end ?_
            clear ac104 hf114 ac105 hf115 ac106 hf116 ac107 wd17 hI27 hf117 ac108 hf118 ac109 hf119 ac110 hf120 ac111 wd18 hI28 hf121 hI29 wd19 hI30 hI31 ac112 hf122
            refine then_normal ?_
            refine code_seq ?_
            refine seq_start (l := [0, 1]) rfl ?_
            refine seq_one (op_val (v := .agg #[.int .i64 w0, .int .i64 w1, .int .i64 w2, .int .i64 a_6, .int .i64 b_6, .int .i64 c_6, .int .i64 d_6]) hf123 rfl rfl rfl rfl rfl rfl (r_loadW ag_29 sz_29 rfl (hI32.at 4 rfl) rfl) fun ac114 hf124 => ?_)
            refine seq_one (op_storeW (cells := #[.int .i64 w0, .int .i64 w1, .int .i64 w2, .int .i64 a_6, .int .i64 b_6, .int .i64 c_6, .int .i64 d_6]) 2 hf124 rfl rfl rfl rfl rfl sz_29 rfl rfl hI32 rfl rfl fun wd21 hI33 => ?_)
            have hI34 : Inv w [(b1, #[.int .i64 w0, .int .i64 w1, .int .i64 w2], 22), (b2, #[.int .i64 w0, .int .i64 w1, .int .i64 w2, .int .i64 a_6, .int .i64 b_6, .int .i64 c_6, .int .i64 d_6], 58), (b3, #[.int .i64 w0, .int .i64 w1, .int .i64 w2, .int .i64 a_6, .int .i64 b_6, .int .i64 c_6, .int .i64 d_6], 29), (b5, #[.int .u8 kd4, .bool u4, .bool v4, .bool z4, .int .i64 m4], 35), (b7, #[.int .i64 w0, .int .i64 w1, .int .i64 w2, .int .i64 a_6, .int .i64 b_6, .int .i64 c_6, .int .i64 d_6], 29)] wd21 := hI33
            refine seq_end ?_
            clear ac113 hf123 wd20 hI32 hI33
            refine then_normal ?_
            refine code_seq ?_
            refine seq_start (l := [0, 1, 2]) rfl ?_
            refine seq_one (op_val (v := .int .i64 (spE m4 ⟨d0, d1, d2, j⟩)) hf124 rfl rfl rfl rfl rfl rfl (r_move rfl) fun ac115 hf125 => ?_)
            refine seq_one (op_val (v := .int .i64 (spE m4 ⟨d0, d1, d2, j⟩)) hf125 rfl rfl rfl rfl rfl rfl (r_move rfl) fun ac116 hf126 => ?_)
            refine seq_one (op_val (v := .bool ((spE m4 ⟨d0, d1, d2, j⟩) != (spE m4 ⟨d0, d1, d2, j⟩))) hf126 rfl rfl rfl rfl rfl rfl (r_neq rfl rfl) fun ac117 hf127 => ?_)
            refine seq_end ?_
            clear ac114 hf124 ac115 hf125 ac116 hf126
            refine then_normal ?_
            have hf128 := hf127.know 103 (u := .bool false) rfl (congrArg Value.bool (bne_self_eq_false _))
            refine code_if_false hf128 rfl ?_
            refine wp_skip ?_
            refine block_normal ?_
            refine then_normal ?_
            refine code_seq ?_
            refine any_start (fun w => Has [(b3, #[.int .i64 w0, .int .i64 w1, .int .i64 w2, .int .i64 a_6, .int .i64 b_6, .int .i64 c_6, .int .i64 d_6], 29)] w) follows (Has.drew (Has.cons (hI34.at 2 rfl) Has.nil)) ?_
            have hS4 : Has [(b3, #[.int .i64 w0, .int .i64 w1, .int .i64 w2, .int .i64 a_6, .int .i64 b_6, .int .i64 c_6, .int .i64 d_6], 29)] _ := Has.drew (Has.cons (hI34.at 2 rfl) Has.nil)
            have hI35 := hI34.drew
            refine any_val (i := 0) (v := .pointer (some ⟨b2, 0, none⟩)) hf128 rfl rfl rfl rfl rfl rfl (fun _ _ _ h => h) (by kernel_rfl) (by kernel_rfl) (by kernel_rfl) (fun wd21 hS4 => (r_move rfl)) hS4 fun ac118 hf129 => ?_
            refine any_val (i := 2) (v := .pointer (some ⟨b3, 6, none⟩)) hf129 rfl rfl rfl rfl rfl rfl (fun _ _ _ h => h) (by kernel_rfl) (by kernel_rfl) (by kernel_rfl) (fun wd21 hS4 => (r_fieldAddr fi_29_2 rfl rfl)) hS4 fun ac119 hf130 => ?_
            refine any_val (i := 3) (v := .int .i64 d_6) hf130 rfl rfl rfl rfl rfl rfl (fun _ _ _ h => h) (by kernel_rfl) (by kernel_rfl) (by kernel_rfl) (fun wd21 hS4 => (r_load ag_3 rfl (hS4.at 0 rfl) rfl)) hS4 fun ac120 hf131 => ?_
            refine any_one (i := 1) (by kernel_rfl) ?_
            refine (op_pureW hf131 rfl rfl rfl rfl ca_16 (now_walk w0 w1 w2 a_6 b_6 c_6 d_6 hv.ne b2 _ (Has.cons (hI35.at 1 rfl) Has.nil)) hI35 fun ac121 wd22 hI36 hf132 => ⟨?_, ?_⟩)
            · exact (Has.cons (hI36.at 2 rfl) Has.nil)
            have hS5 : Has [(b3, #[.int .i64 w0, .int .i64 w1, .int .i64 w2, .int .i64 a_6, .int .i64 b_6, .int .i64 c_6, .int .i64 d_6], 29)] _ := (Has.cons (hI36.at 2 rfl) Has.nil)
            refine any_val (i := 4) (v := .bool (d_6 != d_6)) hf132 rfl rfl rfl rfl rfl rfl (fun _ _ _ h => h) (by kernel_rfl) (by kernel_rfl) (by kernel_rfl) (fun wd22 hS5 => (r_neq rfl rfl)) hS5 fun ac122 hf133 => ?_
            refine any_val (i := 5) (v := .bool (d_6 != d_6)) hf133 rfl rfl rfl rfl rfl rfl (fun _ _ _ h => h) (by kernel_rfl) (by kernel_rfl) (by kernel_rfl) (fun wd22 hS5 => (r_move rfl)) hS5 fun ac123 hf134 => ?_
            have hf135 := hf134.know 109 (u := .bool false) rfl (congrArg Value.bool (bne_self_eq_false _))
            refine any_val (i := 6) (v := .pointer (some ⟨b2, 0, none⟩)) hf135 rfl rfl rfl rfl rfl rfl (fun _ _ _ h => h) (by kernel_rfl) (by kernel_rfl) (by kernel_rfl) (fun wd22 hS5 => (r_move rfl)) hS5 fun ac124 hf136 => ?_
            refine any_val (i := 8) (v := .pointer (some ⟨b3, 3, none⟩)) hf136 rfl rfl rfl rfl rfl rfl (fun _ _ _ h => h) (by kernel_rfl) (by kernel_rfl) (by kernel_rfl) (fun wd22 hS5 => (r_fieldAddr fi_29_1 rfl rfl)) hS5 fun ac125 hf137 => ?_
            refine any_val (i := 9) (v := .agg #[.int .i64 a_6, .int .i64 b_6, .int .i64 c_6]) hf137 rfl rfl rfl rfl rfl rfl (fun _ _ _ h => h) (by kernel_rfl) (by kernel_rfl) (by kernel_rfl) (fun wd22 hS5 => (r_loadP (sz := 3) ag_22 sz_22 rfl (hS5.at 0 rfl) (leb rfl) (by kernel_rfl))) hS5 fun ac126 hf138 => ?_
            refine any_one (i := 7) (by kernel_rfl) ?_
            refine (op_pureW hf138 rfl rfl rfl rfl ca_17 (credits_walk w0 w1 w2 a_6 b_6 c_6 d_6 hv.ne b2 _ (Has.cons (hI36.at 1 rfl) Has.nil)) hI36 fun ac127 wd23 hI37 hf139 => ⟨?_, ?_⟩)
            · exact (Has.cons (hI37.at 2 rfl) Has.nil)
            have hS6 : Has [(b3, #[.int .i64 w0, .int .i64 w1, .int .i64 w2, .int .i64 a_6, .int .i64 b_6, .int .i64 c_6, .int .i64 d_6], 29)] _ := (Has.cons (hI37.at 2 rfl) Has.nil)
            refine any_val (i := 10) (v := .bool (!eqA (#[.int .i64 a_6, .int .i64 b_6, .int .i64 c_6]) (#[.int .i64 a_6, .int .i64 b_6, .int .i64 c_6]))) hf139 rfl rfl rfl rfl rfl rfl (fun _ _ _ h => h) (by kernel_rfl) (by kernel_rfl) (by kernel_rfl) (fun wd23 hS6 => (r_neA sh_22 kt_22 rw_22 rfl zk_22 eg_22 rfl rfl ⟨⟨_, rfl, (okwf0 hv ho6)⟩, ⟨_, rfl, (okwf1 hv ho6)⟩, ⟨_, rfl, (okwf2 hv ho6)⟩, trivial⟩ ⟨⟨_, rfl, (okwf0 hv ho6)⟩, ⟨_, rfl, (okwf1 hv ho6)⟩, ⟨_, rfl, (okwf2 hv ho6)⟩, trivial⟩)) hS6 fun ac128 hf140 => ?_
            refine any_val (i := 11) (v := .bool (!eqA (#[.int .i64 a_6, .int .i64 b_6, .int .i64 c_6]) (#[.int .i64 a_6, .int .i64 b_6, .int .i64 c_6]))) hf140 rfl rfl rfl rfl rfl rfl (fun _ _ _ h => h) (by kernel_rfl) (by kernel_rfl) (by kernel_rfl) (fun wd23 hS6 => (r_pickF rfl rfl)) hS6 fun ac129 hf141 => ?_
            refine any_end (by kernel_rfl) ?_
            clear hf127 hI34 ac117 hf128 ac118 hf129 ac119 hf130 ac120 wd21 hI35 hf131 hS4 ac121 hf132 ac122 hf133 hf134 ac123 hf135 ac124 hf136 ac125 hf137 ac126 wd22 hI36 hf138 hS5 ac127 hf139 ac128 hf140 hS6
            refine then_normal ?_
            have hf142 := hf141.know 115 (u := .bool false) rfl (congrArg Value.bool (by rw [eqA_true rfl]; rfl))
            refine code_if_false hf142 rfl ?_
            refine wp_skip ?_
            refine block_normal ?_
            refine then_normal ?_
            refine seq_start (l := [0, 1]) rfl ?_
            refine seq_one (op_val (v := .int .i64 ((i + 1 : Nat) : Int)) hf142 rfl rfl rfl rfl rfl rfl (r_add (c := ((i + 1 : Nat) : Int)) rfl rfl (wrap_i64 (by omega) (by have := hx1.1; have := of_decide_eq_false c51_1; omega))) fun ac130 hf143 => ?_)
            refine seq_one (op_val (v := .int .i64 ((i + 1 : Nat) : Int)) hf143 rfl rfl rfl rfl rfl rfl (r_move rfl) fun ac131 hf144 => ?_)
            refine seq_end ?_
            clear hf141 ac129 hf142 ac130 hf143
            refine then_normal ?_
            exact ⟨(i + 1, a_6, b_6, c_6, d_6), (hf144.cons 0 rfl (hf144.cons 1 rfl (hf144.cons 2 rfl (hf144.cons 5 rfl (hf144.cons 6 rfl (hf144.cons 7 rfl (hf144.cons 8 rfl (hf144.cons 19 rfl (hf144.cons 20 rfl (hf144.cons 21 rfl (hf144.cons 22 rfl (hf144.cons 23 rfl (hf144.cons 24 rfl (hf144.cons 25 rfl (hf144.cons 26 rfl (hf144.cons 27 rfl (hf144.cons 28 rfl (hf144.cons 29 rfl (hf144.cons 30 rfl (hf144.cons 31 rfl (hf144.cons 32 rfl (hf144.cons 33 rfl (hf144.cons 34 rfl (hf144.cons 35 rfl (hf144.cons 36 rfl (hf144.cons 43 rfl (hf144.cons 44 rfl (hf144.cons 45 rfl (hf144.cons 46 rfl (hf144.cons 47 rfl (hf144.cons 48 rfl (hf144.cons 49 rfl (hf144.cons 50 rfl (hf144.cons 51 rfl (hf144.cons 53 rfl (hf144.cons 54 rfl (hf144.cons 55 rfl hf144.nil))))))))))))))))))))))))))))))))))))), ⟨(Inv.drop (A := [(b1, #[.int .i64 w0, .int .i64 w1, .int .i64 w2], 22), (b2, #[.int .i64 w0, .int .i64 w1, .int .i64 w2, .int .i64 a_6, .int .i64 b_6, .int .i64 c_6, .int .i64 d_6], 58), (b3, #[.int .i64 w0, .int .i64 w1, .int .i64 w2, .int .i64 a_6, .int .i64 b_6, .int .i64 c_6, .int .i64 d_6], 29)]) (B := [(b5, #[.int .u8 kd4, .bool u4, .bool v4, .bool z4, .int .i64 m4], 35), (b7, #[.int .i64 w0, .int .i64 w1, .int .i64 w2, .int .i64 a_6, .int .i64 b_6, .int .i64 c_6, .int .i64 d_6], 29)]) hI37 (fresh_keys (ks := [b5, b7]) rfl (fk_cons hb5 (fk_cons hb7 fk_nil)))), ⟨by have := of_decide_eq_true c56_2; omega, ho6⟩⟩, (by have := of_decide_eq_true c56_2; show L - (i + 1) < L - i; omega)⟩
          · have hf145 := hf108.know 87 (u := .bool false) rfl (congrArg Value.bool c87_4)
            refine wp_skip ?_
            refine block_normal ?_
            refine then_normal ?_
            refine code_seq ?_
            refine any_start (fun w => Has [(b3, #[.int .i64 w0, .int .i64 w1, .int .i64 w2, .int .i64 d0, .int .i64 d1, .int .i64 d2, .int .i64 j], 29)] w) follows (Has.drew (Has.cons (hI15.at 2 rfl) Has.nil)) ?_
            have hS7 : Has [(b3, #[.int .i64 w0, .int .i64 w1, .int .i64 w2, .int .i64 d0, .int .i64 d1, .int .i64 d2, .int .i64 j], 29)] _ := Has.drew (Has.cons (hI15.at 2 rfl) Has.nil)
            have hI38 := hI15.drew
            refine any_val (i := 0) (v := .pointer (some ⟨b2, 0, none⟩)) hf145 rfl rfl rfl rfl rfl rfl (fun _ _ _ h => h) (by kernel_rfl) (by kernel_rfl) (by kernel_rfl) (fun wd9 hS7 => (r_move rfl)) hS7 fun ac132 hf146 => ?_
            refine any_val (i := 2) (v := .pointer (some ⟨b3, 6, none⟩)) hf146 rfl rfl rfl rfl rfl rfl (fun _ _ _ h => h) (by kernel_rfl) (by kernel_rfl) (by kernel_rfl) (fun wd9 hS7 => (r_fieldAddr fi_29_2 rfl rfl)) hS7 fun ac133 hf147 => ?_
            refine any_val (i := 3) (v := .int .i64 j) hf147 rfl rfl rfl rfl rfl rfl (fun _ _ _ h => h) (by kernel_rfl) (by kernel_rfl) (by kernel_rfl) (fun wd9 hS7 => (r_load ag_3 rfl (hS7.at 0 rfl) rfl)) hS7 fun ac134 hf148 => ?_
            refine any_one (i := 1) (by kernel_rfl) ?_
            refine (op_pureW hf148 rfl rfl rfl rfl ca_16 (now_walk w0 w1 w2 d0 d1 d2 j hv.ne b2 _ (Has.cons (hI38.at 1 rfl) Has.nil)) hI38 fun ac135 wd24 hI39 hf149 => ⟨?_, ?_⟩)
            · exact (Has.cons (hI39.at 2 rfl) Has.nil)
            have hS8 : Has [(b3, #[.int .i64 w0, .int .i64 w1, .int .i64 w2, .int .i64 d0, .int .i64 d1, .int .i64 d2, .int .i64 j], 29)] _ := (Has.cons (hI39.at 2 rfl) Has.nil)
            refine any_val (i := 4) (v := .bool (j != j)) hf149 rfl rfl rfl rfl rfl rfl (fun _ _ _ h => h) (by kernel_rfl) (by kernel_rfl) (by kernel_rfl) (fun wd24 hS8 => (r_neq rfl rfl)) hS8 fun ac136 hf150 => ?_
            refine any_val (i := 5) (v := .bool (j != j)) hf150 rfl rfl rfl rfl rfl rfl (fun _ _ _ h => h) (by kernel_rfl) (by kernel_rfl) (by kernel_rfl) (fun wd24 hS8 => (r_move rfl)) hS8 fun ac137 hf151 => ?_
            have hf152 := hf151.know 109 (u := .bool false) rfl (congrArg Value.bool (bne_self_eq_false _))
            refine any_val (i := 6) (v := .pointer (some ⟨b2, 0, none⟩)) hf152 rfl rfl rfl rfl rfl rfl (fun _ _ _ h => h) (by kernel_rfl) (by kernel_rfl) (by kernel_rfl) (fun wd24 hS8 => (r_move rfl)) hS8 fun ac138 hf153 => ?_
            refine any_val (i := 8) (v := .pointer (some ⟨b3, 3, none⟩)) hf153 rfl rfl rfl rfl rfl rfl (fun _ _ _ h => h) (by kernel_rfl) (by kernel_rfl) (by kernel_rfl) (fun wd24 hS8 => (r_fieldAddr fi_29_1 rfl rfl)) hS8 fun ac139 hf154 => ?_
            refine any_val (i := 9) (v := .agg #[.int .i64 d0, .int .i64 d1, .int .i64 d2]) hf154 rfl rfl rfl rfl rfl rfl (fun _ _ _ h => h) (by kernel_rfl) (by kernel_rfl) (by kernel_rfl) (fun wd24 hS8 => (r_loadP (sz := 3) ag_22 sz_22 rfl (hS8.at 0 rfl) (leb rfl) (by kernel_rfl))) hS8 fun ac140 hf155 => ?_
            refine any_one (i := 7) (by kernel_rfl) ?_
            refine (op_pureW hf155 rfl rfl rfl rfl ca_17 (credits_walk w0 w1 w2 d0 d1 d2 j hv.ne b2 _ (Has.cons (hI39.at 1 rfl) Has.nil)) hI39 fun ac141 wd25 hI40 hf156 => ⟨?_, ?_⟩)
            · exact (Has.cons (hI40.at 2 rfl) Has.nil)
            have hS9 : Has [(b3, #[.int .i64 w0, .int .i64 w1, .int .i64 w2, .int .i64 d0, .int .i64 d1, .int .i64 d2, .int .i64 j], 29)] _ := (Has.cons (hI40.at 2 rfl) Has.nil)
            refine any_val (i := 10) (v := .bool (!eqA (#[.int .i64 d0, .int .i64 d1, .int .i64 d2]) (#[.int .i64 d0, .int .i64 d1, .int .i64 d2]))) hf156 rfl rfl rfl rfl rfl rfl (fun _ _ _ h => h) (by kernel_rfl) (by kernel_rfl) (by kernel_rfl) (fun wd25 hS9 => (r_neA sh_22 kt_22 rw_22 rfl zk_22 eg_22 rfl rfl ⟨⟨_, rfl, (okwf0 hv hx1.2)⟩, ⟨_, rfl, (okwf1 hv hx1.2)⟩, ⟨_, rfl, (okwf2 hv hx1.2)⟩, trivial⟩ ⟨⟨_, rfl, (okwf0 hv hx1.2)⟩, ⟨_, rfl, (okwf1 hv hx1.2)⟩, ⟨_, rfl, (okwf2 hv hx1.2)⟩, trivial⟩)) hS9 fun ac142 hf157 => ?_
            refine any_val (i := 11) (v := .bool (!eqA (#[.int .i64 d0, .int .i64 d1, .int .i64 d2]) (#[.int .i64 d0, .int .i64 d1, .int .i64 d2]))) hf157 rfl rfl rfl rfl rfl rfl (fun _ _ _ h => h) (by kernel_rfl) (by kernel_rfl) (by kernel_rfl) (fun wd25 hS9 => (r_pickF rfl rfl)) hS9 fun ac143 hf158 => ?_
            refine any_end (by kernel_rfl) ?_
            clear hf108 hI15 ac99 hf145 ac132 hf146 ac133 hf147 ac134 wd9 hI38 hf148 hS7 ac135 hf149 ac136 hf150 hf151 ac137 hf152 ac138 hf153 ac139 hf154 ac140 wd24 hI39 hf155 hS8 ac141 hf156 ac142 hf157 hS9
            refine then_normal ?_
            have hf159 := hf158.know 115 (u := .bool false) rfl (congrArg Value.bool (by rw [eqA_true rfl]; rfl))
            refine code_if_false hf159 rfl ?_
            refine wp_skip ?_
            refine block_normal ?_
            refine then_normal ?_
            refine seq_start (l := [0, 1]) rfl ?_
            refine seq_one (op_val (v := .int .i64 ((i + 1 : Nat) : Int)) hf159 rfl rfl rfl rfl rfl rfl (r_add (c := ((i + 1 : Nat) : Int)) rfl rfl (wrap_i64 (by omega) (by have := hx1.1; have := of_decide_eq_false c51_1; omega))) fun ac144 hf160 => ?_)
            refine seq_one (op_val (v := .int .i64 ((i + 1 : Nat) : Int)) hf160 rfl rfl rfl rfl rfl rfl (r_move rfl) fun ac145 hf161 => ?_)
            refine seq_end ?_
            clear hf158 ac143 hf159 ac144 hf160
            refine then_normal ?_
            exact ⟨(i + 1, d0, d1, d2, j), (hf161.cons 0 rfl (hf161.cons 1 rfl (hf161.cons 2 rfl (hf161.cons 5 rfl (hf161.cons 6 rfl (hf161.cons 7 rfl (hf161.cons 8 rfl (hf161.cons 19 rfl (hf161.cons 20 rfl (hf161.cons 21 rfl (hf161.cons 22 rfl (hf161.cons 23 rfl (hf161.cons 24 rfl (hf161.cons 25 rfl (hf161.cons 26 rfl (hf161.cons 27 rfl (hf161.cons 28 rfl (hf161.cons 29 rfl (hf161.cons 30 rfl (hf161.cons 31 rfl (hf161.cons 32 rfl (hf161.cons 33 rfl (hf161.cons 34 rfl (hf161.cons 35 rfl (hf161.cons 36 rfl (hf161.cons 43 rfl (hf161.cons 44 rfl (hf161.cons 45 rfl (hf161.cons 46 rfl (hf161.cons 47 rfl (hf161.cons 48 rfl (hf161.cons 49 rfl (hf161.cons 50 rfl (hf161.cons 51 rfl (hf161.cons 53 rfl (hf161.cons 54 rfl (hf161.cons 55 rfl hf161.nil))))))))))))))))))))))))))))))))))))), ⟨(Inv.drop (A := [(b1, #[.int .i64 w0, .int .i64 w1, .int .i64 w2], 22), (b2, #[.int .i64 w0, .int .i64 w1, .int .i64 w2, .int .i64 d0, .int .i64 d1, .int .i64 d2, .int .i64 j], 58), (b3, #[.int .i64 w0, .int .i64 w1, .int .i64 w2, .int .i64 d0, .int .i64 d1, .int .i64 d2, .int .i64 j], 29)]) (B := [(b5, #[.int .u8 kd4, .bool u4, .bool v4, .bool z4, .int .i64 m4], 35)]) hI40 (fresh_keys (ks := [b5]) rfl (fk_cons hb5 fk_nil))), ⟨by have := of_decide_eq_true c56_2; omega, hx1.2⟩⟩, (by have := of_decide_eq_true c56_2; show L - (i + 1) < L - i; omega)⟩
      · have hf162 := hf49.know 56 (u := .bool false) rfl (congrArg Value.bool c56_2)
        refine wp_exit ?_
        refine then_exit ?_
        refine then_exit ?_
        refine block_here ?_
        refine then_normal ?_
        refine code_seq ?_
        refine seq_start (l := [0, 1]) rfl ?_
        refine seq_one (op_pure hf162 rfl rfl rfl rfl ca_11 awake_pur hI11 fun ac146 wd26 hI41 hf163 => ?_)
        refine seq_one (op_val (v := .bool true) hf163 rfl rfl rfl rfl rfl rfl (r_assign rfl) fun ac147 hf164 => ?_)
        refine seq_end ?_
        clear hf49 ac47 wd7 hI11 hf162 ac146 hf163
        refine then_normal ?_
        refine wp_ret ?_
        refine post1 rfl hf164 rfl ⟨?_, hI41.done (fresh_keys (ks := [b1, b2, b3]) rfl (fk_cons hb1 (fk_cons hb2 (fk_cons hb3 fk_nil))))⟩
        rfl
  ·
    have hI42 := hI3.call0 hwb2
    refine seq_one (op_val (v := .tuple #[.pointer none, .int .i64 2]) hf5 rfl rfl rfl rfl rfl rfl (r_move rfl) fun ac148 hf165 => ?_)
    refine seq_one (op_val (v := .pointer none) hf165 rfl rfl rfl rfl rfl rfl (r_extract rfl rfl) fun ac149 hf166 => ?_)
    refine seq_one (op_val (v := .int .i64 2) hf166 rfl rfl rfl rfl rfl rfl (r_extract rfl rfl) fun ac150 hf167 => ?_)
    refine seq_one (op_val (v := .pointer none) hf167 rfl rfl rfl rfl rfl rfl (r_assign rfl) fun ac151 hf168 => ?_)
    refine seq_one (op_val (v := .int .i64 2) hf168 rfl rfl rfl rfl rfl rfl (r_assign rfl) fun ac152 hf169 => ?_)
    refine seq_end ?_
    clear ac3 hf3 ac4 wd1 hf4 hI3 hwb2 ac5 hf5 ac148 hf165 ac149 hf166 ac150 hf167 ac151 hf168
    refine then_normal ?_
    refine code_seq ?_
    refine seq_start (l := [0, 1, 2, 3, 4, 5, 6, 7]) rfl ?_
    refine seq_one (op_val (v := .agg #[.int .i64 w0, .int .i64 w1, .int .i64 w2]) hf169 rfl rfl rfl rfl rfl rfl (r_loadW ag_22 sz_22 rfl (hI42.at 0 rfl) rfl) fun ac153 hf170 => ?_)
    refine seq_one (op_pure hf170 rfl rfl rfl rfl ca_10 (newR_bad w0 w1 w2 hv) hI42 fun ac154 wd27 hI43 hf171 => ?_)
    refine seq_one (op_val (v := .tuple #[.agg #[.int .i64 0, .int .i64 0, .int .i64 0, .int .i64 0, .int .i64 0, .int .i64 0, .int .i64 0], .bool false]) hf171 rfl rfl rfl rfl rfl rfl (r_move rfl) fun ac155 hf172 => ?_)
    refine seq_one (op_val (v := .agg #[.int .i64 0, .int .i64 0, .int .i64 0, .int .i64 0, .int .i64 0, .int .i64 0, .int .i64 0]) hf172 rfl rfl rfl rfl rfl rfl (r_extract rfl rfl) fun ac156 hf173 => ?_)
    refine seq_one (op_val (v := .bool false) hf173 rfl rfl rfl rfl rfl rfl (r_extract rfl rfl) fun ac157 hf174 => ?_)
    refine seq_one (op_alloc hf174 rfl rfl rfl ze_29 hI43 fun ac158 b3 wd28 hb3 hI44 hf175 => ?_)
    have hI45 : Inv w [(b1, #[.int .i64 w0, .int .i64 w1, .int .i64 w2], 22), (b3, #[.int .i64 0, .int .i64 0, .int .i64 0, .int .i64 0, .int .i64 0, .int .i64 0, .int .i64 0], 29)] wd28 := hI44
    refine seq_one (op_storeW (cells := #[.int .i64 0, .int .i64 0, .int .i64 0, .int .i64 0, .int .i64 0, .int .i64 0, .int .i64 0]) 1 hf175 rfl rfl rfl rfl rfl sz_29 rfl rfl hI45 rfl rfl fun wd29 hI46 => ?_)
    refine seq_one (op_val (v := .bool false) hf175 rfl rfl rfl rfl rfl rfl (r_assign rfl) fun ac159 hf176 => ?_)
    refine seq_end ?_
    clear ac152 hf169 ac153 wd2 hI42 hf170 ac154 hf171 ac155 hf172 ac156 hf173 ac157 wd27 hI43 hf174 hI44 wd28 hI45 ac158 hf175
    refine then_normal ?_
    refine code_seq ?_
    refine code_seq ?_
    refine seq_start (l := [0, 1, 2, 3, 4, 5, 6, 7, 8, 9, 10, 11, 12, 13, 14, 15]) rfl ?_
    refine seq_one (op_val (v := .int .i64 2) hf176 rfl rfl rfl rfl rfl rfl (r_move rfl) fun ac160 hf177 => ?_)
    refine seq_one (op_val (v := .bool false) hf177 rfl rfl rfl rfl rfl rfl (r_eqlC rfl rfl (by decide)) fun ac161 hf178 => ?_)
    refine seq_one (op_val (v := .bool false) hf178 rfl rfl rfl rfl rfl rfl (r_move rfl) fun ac162 hf179 => ?_)
    refine seq_one (op_val (v := .bool false) hf179 rfl rfl rfl rfl rfl rfl ((r_neB (p := false) (q := false) ub_4 rfl rfl).trans rfl) fun ac163 hf180 => ?_)
    refine seq_one (op_val (v := .bool false) hf180 rfl rfl rfl rfl rfl rfl (r_move rfl) fun ac164 hf181 => ?_)
    refine seq_one (op_val (v := .bool false) hf181 rfl rfl rfl rfl rfl rfl (r_move rfl) fun ac165 hf182 => ?_)
    refine seq_one (op_val (v := .bool true) hf182 rfl rfl rfl rfl rfl rfl ((r_not (b := false) rfl).trans rfl) fun ac166 hf183 => ?_)
    refine seq_one (op_val (v := .bool true) hf183 rfl rfl rfl rfl rfl rfl (r_move rfl) fun ac167 hf184 => ?_)
    refine seq_one (op_val (v := .int .i64 2) hf184 rfl rfl rfl rfl rfl rfl (r_move rfl) fun ac168 hf185 => ?_)
    refine seq_one (op_val (v := .bool false) hf185 rfl rfl rfl rfl rfl rfl (r_neqC rfl rfl (by decide)) fun ac169 hf186 => ?_)
    refine seq_one (op_val (v := .bool false) hf186 rfl rfl rfl rfl rfl rfl (r_move rfl) fun ac170 hf187 => ?_)
    refine seq_one (op_val (v := .pointer none) hf187 rfl rfl rfl rfl rfl rfl (r_move rfl) fun ac171 hf188 => ?_)
    refine seq_one (op_val (v := .bool false) hf188 rfl rfl rfl rfl rfl rfl (r_neNil up_24 rfl rfl rfl) fun ac172 hf189 => ?_)
    refine seq_one (op_val (v := .bool false) hf189 rfl rfl rfl rfl rfl rfl (r_pickF rfl rfl) fun ac173 hf190 => ?_)
    refine seq_one (op_val (v := .bool false) hf190 rfl rfl rfl rfl rfl rfl (r_pickT rfl rfl) fun ac174 hf191 => ?_)
    refine seq_one (op_val (v := .bool false) hf191 rfl rfl rfl rfl rfl rfl (r_pickF rfl rfl) fun ac175 hf192 => ?_)
    refine seq_end ?_
    clear ac159 hf176 ac160 hf177 ac161 hf178 ac162 hf179 ac163 hf180 ac164 hf181 ac165 hf182 ac166 hf183 ac167 hf184 ac168 hf185 ac169 hf186 ac170 hf187 ac171 hf188 ac172 hf189 ac173 hf190 ac174 hf191
    refine then_normal ?_
    refine code_if_false hf192 rfl ?_
    refine wp_skip ?_
    refine then_normal ?_
    refine code_seq ?_
    refine code_seq ?_
    refine seq_start (l := [0, 1, 2, 3, 4, 5, 6]) rfl ?_
    refine seq_one (op_val (v := .bool false) hf192 rfl rfl rfl rfl rfl rfl (r_move rfl) fun ac176 hf193 => ?_)
    refine seq_one (op_val (v := .bool true) hf193 rfl rfl rfl rfl rfl rfl ((r_not (b := false) rfl).trans rfl) fun ac177 hf194 => ?_)
    refine seq_one (op_val (v := .bool true) hf194 rfl rfl rfl rfl rfl rfl (r_move rfl) fun ac178 hf195 => ?_)
    refine seq_one (op_skip hf195 rfl rfl rfl rfl fun ac179 hf196 => ?_)
    refine seq_one (op_skip hf196 rfl rfl rfl rfl fun ac180 hf197 => ?_)
    refine seq_one (op_skip hf197 rfl rfl rfl rfl fun ac181 hf198 => ?_)
    refine seq_one (op_val (v := .bool true) hf198 rfl rfl rfl rfl rfl rfl (r_pickT rfl rfl) fun ac182 hf199 => ?_)
    refine seq_end ?_
    clear ac175 hf192 ac176 hf193 ac177 hf194 ac178 hf195 ac179 hf196 ac180 hf197 ac181 hf198
    refine then_normal ?_
    refine code_if_true hf199 rfl ?_
    refine code_seq ?_
    refine seq_start (l := [0, 1]) rfl ?_
    refine seq_one (op_pure hf199 rfl rfl rfl rfl ca_11 awake_pur hI46 fun ac183 wd30 hI47 hf200 => ?_)
    refine seq_one (op_val (v := .bool true) hf200 rfl rfl rfl rfl rfl rfl (r_assign rfl) fun ac184 hf201 => ?_)
    refine seq_end ?_
    clear ac182 wd29 hI46 hf199 ac183 hf200
    refine then_normal ?_
    refine wp_ret ?_
    refine then_ret ?_
    refine post1 rfl hf201 rfl ⟨?_, hI47.done (fresh_keys (ks := [b1, b3]) rfl (fk_cons hb1 (fk_cons hb3 fk_nil)))⟩
    rfl
end Go.Proofs.Ytkfilmdnpocinaa
