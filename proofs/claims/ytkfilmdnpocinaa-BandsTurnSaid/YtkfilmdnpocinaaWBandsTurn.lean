/-
  The walk of BandsTurn.
-/
import Derived.Test.YtkfilmdnpocinaaPlayed
import Derived.Test.YtkfilmdnpocinaaState5
namespace Go.Proofs.Ytkfilmdnpocinaa
set_option linter.unusedVariables false
set_option linter.unusedSimpArgs false
set_option maxRecDepth 100000
open Go.RowKit
set_option maxHeartbeats 8000000 in
theorem bandsTurn_walk (x0 x1 x2 w0 w1 w2 : Int) (hd : Wd x0 x1 x2 w0 w1 w2) (g0 g1 g2 : Bool) {p : Option Addr} {L cap : Nat} {rows : List (List Value)} (hl : rows.length = L) (hc : L ≤ cap) (ho : ∀ row ∈ rows, Oks opKinds row) (w : World) (hr : Rows_ w p 5 rows) {q : Option Addr} {caq : Nat} {ys : List Int} (hy : InK .u16 ys) (hq : Rd w .u16 q ys) : Calls Try.prog 7 [.agg #[.int .u32 x0, .int .u32 x1, .int .u32 x2], .slice p L cap, .agg #[.bool g0, .bool g1, .bool g2], .slice q ys.length caq].toArray w fun e w' => e = .returned (.bool true) ∧ Inv w [] w' := by
  have hI1 := Inv.start w
  refine enter (n := 116) Try.func7 rfl rfl rfl ?_
  intro ac1 hf1
  refine code_seq ?_
  refine seq_start (l := [0, 1, 2]) rfl ?_
  refine seq_one (op_box hf1 rfl rfl rfl rfl hI1 fun ac2 b1 wd1 hb1 hI2 hf2 => ?_)
  have hI3 : Inv w [(b1, #[.int .u32 x0, .int .u32 x1, .int .u32 x2], 47)] wd1 := hI2
  refine seq_one (op_box hf2 rfl rfl rfl rfl hI3 fun ac3 b2 wd2 hb2 hI4 hf3 => ?_)
  have hI5 : Inv w [(b1, #[.int .u32 x0, .int .u32 x1, .int .u32 x2], 47), (b2, #[.bool g0, .bool g1, .bool g2], 33)] wd2 := hI4
  refine seq_one (op_val (v := .bool false) hf3 rfl rfl rfl rfl rfl rfl (r_assign rfl) fun ac4 hf4 => ?_)
  refine seq_end ?_
  clear ac1 hI1 hf1 hI2 ac2 wd1 hI3 hf2 hI4 ac3 hf3
  refine then_normal ?_
  refine code_seq ?_
  refine seq_start (l := [0, 1, 2, 3, 4, 5, 6, 7]) rfl ?_
  refine seq_one (op_val (v := .agg #[.int .u32 x0, .int .u32 x1, .int .u32 x2]) hf4 rfl rfl rfl rfl rfl rfl (r_loadW ag_47 sz_47 rfl (hI5.at 0 rfl) rfl) fun ac5 hf5 => ?_)
  refine seq_one (op_val (v := .slice p L cap) hf5 rfl rfl rfl rfl rfl rfl (r_move rfl) fun ac6 hf6 => ?_)
  refine seq_one (op_call (R := fun v w' => ∃ b, ∃ s : St, wd2.heap.size ≤ b ∧ Ok w0 w1 w2 s ∧ v = .tuple #[.pointer (some ⟨b, 0, none⟩), .bool true] ∧ Inv wd2 [(b, #[.int .i64 w0, .int .i64 w1, .int .i64 w2, .int .i64 s.c0, .int .i64 s.c1, .int .i64 s.c2, .int .i64 s.now], 58)] w') hf6 rfl rfl rfl rfl ca_18 ((played_walk x0 x1 x2 w0 w1 w2 hd hl hc ho _ (hr.old hI5 (fresh_keys (ks := [b1, b2]) rfl (fk_cons hb1 (fk_cons hb2 fk_nil))))).mono fun e w' ⟨b, s, h1, h2, h3, h4⟩ => ⟨_, h3, b, s, h1, h2, rfl, h4⟩) fun ac7 v wd3 hR hf7 => ?_)
  obtain ⟨b3, ⟨a_3, b_3, c_3, d_3⟩, hqb3, ho3, rfl, hwb3⟩ := hR
  dsimp only at hwb3
  have hb3 := Nat.le_trans hI5.size hqb3
  have hI6 : Inv w [(b1, #[.int .u32 x0, .int .u32 x1, .int .u32 x2], 47), (b2, #[.bool g0, .bool g1, .bool g2], 33), (b3, #[.int .i64 w0, .int .i64 w1, .int .i64 w2, .int .i64 a_3, .int .i64 b_3, .int .i64 c_3, .int .i64 d_3], 58)] _ := hI5.callN hwb3 (fun x hx => by simp only [List.mem_singleton] at hx; subst hx; exact hqb3)
  refine seq_one (op_val (v := .tuple #[.pointer (some ⟨b3, 0, none⟩), .bool true]) hf7 rfl rfl rfl rfl rfl rfl (r_move rfl) fun ac8 hf8 => ?_)
  refine seq_one (op_val (v := .pointer (some ⟨b3, 0, none⟩)) hf8 rfl rfl rfl rfl rfl rfl (r_extract rfl rfl) fun ac9 hf9 => ?_)
  refine seq_one (op_val (v := .bool true) hf9 rfl rfl rfl rfl rfl rfl (r_extract rfl rfl) fun ac10 hf10 => ?_)
  refine seq_one (op_val (v := .pointer (some ⟨b3, 0, none⟩)) hf10 rfl rfl rfl rfl rfl rfl (r_assign rfl) fun ac11 hf11 => ?_)
  refine seq_one (op_val (v := .bool true) hf11 rfl rfl rfl rfl rfl rfl (r_assign rfl) fun ac12 hf12 => ?_)
  refine seq_end ?_
  clear ac4 hf4 ac5 hf5 ac6 wd2 hf6 hI5 hwb3 hqb3 ac7 hf7 ac8 hf8 ac9 hf9 ac10 hf10 ac11 hf11
  refine then_normal ?_
  refine code_seq ?_
  refine code_seq ?_
  refine seq_start (l := [0, 1]) rfl ?_
  refine seq_one (op_val (v := .bool true) hf12 rfl rfl rfl rfl rfl rfl (r_move rfl) fun ac13 hf13 => ?_)
  refine seq_one (op_val (v := .bool false) hf13 rfl rfl rfl rfl rfl rfl ((r_not (b := true) rfl).trans rfl) fun ac14 hf14 => ?_)
  refine seq_end ?_
  clear ac12 hf12 ac13 hf13
  refine then_normal ?_
  refine code_if_false hf14 rfl ?_
  refine wp_skip ?_
  refine then_normal ?_
  refine code_seq ?_
  refine seq_start (l := [0, 1, 2]) rfl ?_
  refine seq_one (op_val (v := .agg #[.int .i64 (-1), .int .i64 (-1), .int .i64 (-1)]) hf14 rfl rfl rfl rfl rfl rfl (r_build (v := .agg #[.int .i64 (-1), .int .i64 (-1), .int .i64 (-1)]) rfl (fun _ => by kernel_rfl)) fun ac15 hf15 => ?_)
  refine seq_one (op_alloc hf15 rfl rfl rfl ze_22 hI6 fun ac16 b4 wd4 hb4 hI7 hf16 => ?_)
  have hI8 : Inv w [(b1, #[.int .u32 x0, .int .u32 x1, .int .u32 x2], 47), (b2, #[.bool g0, .bool g1, .bool g2], 33), (b3, #[.int .i64 w0, .int .i64 w1, .int .i64 w2, .int .i64 a_3, .int .i64 b_3, .int .i64 c_3, .int .i64 d_3], 58), (b4, #[.int .i64 0, .int .i64 0, .int .i64 0], 22)] wd4 := hI7
  refine seq_one (op_storeW (cells := #[.int .i64 (-1), .int .i64 (-1), .int .i64 (-1)]) 3 hf16 rfl rfl rfl rfl rfl sz_22 rfl rfl hI8 rfl rfl fun wd5 hI9 => ?_)
  have hI10 : Inv w [(b1, #[.int .u32 x0, .int .u32 x1, .int .u32 x2], 47), (b2, #[.bool g0, .bool g1, .bool g2], 33), (b3, #[.int .i64 w0, .int .i64 w1, .int .i64 w2, .int .i64 a_3, .int .i64 b_3, .int .i64 c_3, .int .i64 d_3], 58), (b4, #[.int .i64 (-1), .int .i64 (-1), .int .i64 (-1)], 22)] wd5 := hI9
  refine seq_end ?_
  clear ac14 hf14 ac15 wd3 hI6 hf15 hI7 wd4 hI8 hI9
  refine then_normal ?_
  refine code_seq ?_
  refine seq_start (l := [0]) rfl ?_
  refine seq_one (op_val (v := .int .i64 (-1)) hf16 rfl rfl rfl rfl rfl rfl (r_assign rfl) fun ac17 hf17 => ?_)
  refine seq_end ?_
  clear ac16 hf16
  refine then_normal ?_
  refine code_seq ?_
  refine code_seq ?_
  refine seq_start (l := [0]) rfl ?_
  refine seq_one (op_val (v := .int .i64 0) hf17 rfl rfl rfl rfl rfl rfl (r_move rfl) fun ac18 hf18 => ?_)
  refine seq_end ?_
  clear ac17 hf17
  refine then_normal ?_
  refine wp_block ?_
  refine code_loop (α := Nat × Int × Int × Int × Int × Int × Int × Int × Int) (fun (x : Nat × Int × Int × Int × Int × Int × Int × Int × Int) => match x with | (i, d0, d1, d2, j, l0, l1, l2, bf) => [(0, .agg #[.int .u32 x0, .int .u32 x1, .int .u32 x2]), (1, .slice p L cap), (2, .agg #[.bool g0, .bool g1, .bool g2]), (3, .slice q ys.length caq), (4, .pointer (some ⟨b1, 0, none⟩)), (6, .pointer (some ⟨b2, 0, none⟩)), (9, .pointer (some ⟨b3, 0, none⟩)), (10, .bool true), (11, .pointer (some ⟨b4, 0, none⟩)), (18, .tuple #[.pointer (some ⟨b3, 0, none⟩), .bool true]), (19, .agg #[.int .u32 x0, .int .u32 x1, .int .u32 x2]), (20, .slice p L cap), (21, .tuple #[.pointer (some ⟨b3, 0, none⟩), .bool true]), (22, .pointer (some ⟨b3, 0, none⟩)), (23, .bool true), (24, .bool true), (25, .bool false), (26, .agg #[.int .i64 (-1), .int .i64 (-1), .int .i64 (-1)]), (12, .int .i64 bf), (27, .int .i64 (i : Int))]) (fun (x : Nat × Int × Int × Int × Int × Int × Int × Int × Int) => match x with | (i, d0, d1, d2, j, l0, l1, l2, bf) => fun wL => Inv w [(b1, #[.int .u32 x0, .int .u32 x1, .int .u32 x2], 47), (b2, #[.bool g0, .bool g1, .bool g2], 33), (b3, #[.int .i64 w0, .int .i64 w1, .int .i64 w2, .int .i64 d0, .int .i64 d1, .int .i64 d2, .int .i64 j], 58), (b4, #[.int .i64 l0, .int .i64 l1, .int .i64 l2], 22)] wL ∧ (TuI g0 g1 g2 w0 w1 w2 i ⟨d0, d1, d2, j⟩ l0 l1 l2 bf)) (fun (x : Nat × Int × Int × Int × Int × Int × Int × Int × Int) => match x with | (i, d0, d1, d2, j, l0, l1, l2, bf) => 60 - i) (0, a_3, b_3, c_3, d_3, (-1), (-1), (-1), (-1)) (hf18.cons 0 rfl (hf18.cons 1 rfl (hf18.cons 2 rfl (hf18.cons 3 rfl (hf18.cons 4 rfl (hf18.cons 6 rfl (hf18.cons 9 rfl (hf18.cons 10 rfl (hf18.cons 11 rfl (hf18.cons 18 rfl (hf18.cons 19 rfl (hf18.cons 20 rfl (hf18.cons 21 rfl (hf18.cons 22 rfl (hf18.cons 23 rfl (hf18.cons 24 rfl (hf18.cons 25 rfl (hf18.cons 26 rfl (hf18.cons 12 rfl (hf18.cons 27 rfl hf18.nil)))))))))))))))))))) ⟨hI10, (TuI.init ho3)⟩ ?_
  intro ⟨i, d0, d1, d2, j, l0, l1, l2, bf⟩ ac19 wd6 hf19 hL1
  obtain ⟨hI11, hx1⟩ := hL1
  dsimp only at hf19 hI11 hx1
  clear ac18 wd5 hf18 hI10
  refine code_seq ?_
  refine seq_start (l := [0]) rfl ?_
  refine seq_one (op_val (v := .bool (decide ((i : Int) < 60))) hf19 rfl rfl rfl rfl rfl rfl (r_lss rfl rfl) fun ac20 hf20 => ?_)
  refine seq_end ?_
  clear ac19 hf19
  refine then_normal ?_
  refine code_seq ?_
  refine code_if hf20 rfl (fun c28_1 => ?_) (fun c28_1 => ?_)
  · have hf21 := hf20.know 28 (u := .bool true) rfl (congrArg Value.bool c28_1)
    refine wp_skip ?_
    refine then_normal ?_
    refine code_seq ?_
    refine wp_block ?_
    refine code_seq ?_
    refine seq_start (l := [0, 1]) rfl ?_
    refine seq_one (op_val (v := .int .i64 (i : Int)) hf21 rfl rfl rfl rfl rfl rfl (r_move rfl) fun ac21 hf22 => ?_)
    refine seq_one (op_val (v := .int .i64 (i : Int)) hf22 rfl rfl rfl rfl rfl rfl (r_assign rfl) fun ac22 hf23 => ?_)
    refine seq_end ?_
    clear hf20 ac20 hf21 ac21 hf22
    refine then_normal ?_
    refine code_seq ?_
    refine seq_start (l := [0, 1, 2, 3, 4, 5, 6, 7]) rfl ?_
    refine seq_one (op_val (v := .pointer (some ⟨b3, 0, none⟩)) hf23 rfl rfl rfl rfl rfl rfl (r_move rfl) fun ac23 hf24 => ?_)
    refine seq_one (op_val (v := .agg #[.bool g0, .bool g1, .bool g2]) hf24 rfl rfl rfl rfl rfl rfl (r_loadW ag_33 sz_33 rfl (hI11.at 1 rfl) rfl) fun ac24 hf25 => ?_)
    refine seq_one (op_call (R := fun v w' => v = (.tuple #[.int .i64 (pickN g0 g1 g2 w0 w1 w2 ⟨d0, d1, d2, j⟩), .bool (g0 || g1 || g2)]) ∧ Inv wd6 [(b3, #[.int .i64 w0, .int .i64 w1, .int .i64 w2, .int .i64 (((pickS g0 g1 g2 w0 w1 w2 ⟨d0, d1, d2, j⟩ : St)).c0), .int .i64 (((pickS g0 g1 g2 w0 w1 w2 ⟨d0, d1, d2, j⟩ : St)).c1), .int .i64 (((pickS g0 g1 g2 w0 w1 w2 ⟨d0, d1, d2, j⟩ : St)).c2), .int .i64 (((pickS g0 g1 g2 w0 w1 w2 ⟨d0, d1, d2, j⟩ : St)).now)], 58)] w') hf25 rfl rfl rfl rfl ca_12 ((pick_walk w0 w1 w2 d0 d1 d2 j g0 g1 g2 hd.v.ne hd.v hx1.ok b3 _ (Has.cons (hI11.at 2 rfl) Has.nil)).mono fun _ _ h => ⟨_, h.1, rfl, h.2⟩) fun ac25 v wd7 hR hf26 => ?_)
    obtain ⟨rfl, hR⟩ := hR
    obtain ⟨a_5, b_5, c_5, d_5, he5⟩ : ∃ a b c d, (pickS g0 g1 g2 w0 w1 w2 ⟨d0, d1, d2, j⟩ : St) = ⟨a, b, c, d⟩ := ⟨_, _, _, _, rfl⟩
    rw [he5] at hR
    dsimp only at hR
    have ho5 : Ok w0 w1 w2 ⟨a_5, b_5, c_5, d_5⟩ := by rw [← he5]; exact (pickS_ok hd.v hx1.ok)
    have hI12 : Inv w [(b1, #[.int .u32 x0, .int .u32 x1, .int .u32 x2], 47), (b2, #[.bool g0, .bool g1, .bool g2], 33), (b3, #[.int .i64 w0, .int .i64 w1, .int .i64 w2, .int .i64 a_5, .int .i64 b_5, .int .i64 c_5, .int .i64 d_5], 58), (b4, #[.int .i64 l0, .int .i64 l1, .int .i64 l2], 22)] _ := Inv.callS (A := [(b1, #[.int .u32 x0, .int .u32 x1, .int .u32 x2], 47), (b2, #[.bool g0, .bool g1, .bool g2], 33)]) (S := [(b3, #[.int .i64 w0, .int .i64 w1, .int .i64 w2, .int .i64 d0, .int .i64 d1, .int .i64 d2, .int .i64 j], 58)]) (S' := [(b3, #[.int .i64 w0, .int .i64 w1, .int .i64 w2, .int .i64 a_5, .int .i64 b_5, .int .i64 c_5, .int .i64 d_5], 58)]) (L := [(b4, #[.int .i64 l0, .int .i64 l1, .int .i64 l2], 22)]) (N := []) hI11 hR rfl (fun _ h => by cases h)
    rcases Bool.eq_false_or_eq_true (g0 || g1 || g2) with ha | ha
    ·
      have hk5 : Picked g0 g1 g2 w0 w1 w2 a_5 b_5 c_5 d_5 := picked hd.v hx1.ok ha he5
      have hf27 := hf26.know 33 (u := .tuple #[.int .i64 d_5, .bool true]) rfl (pick_val ha he5)
      refine seq_one (op_val (v := .tuple #[.int .i64 d_5, .bool true]) hf27 rfl rfl rfl rfl rfl rfl (r_move rfl) fun ac26 hf28 => ?_)
      refine seq_one (op_val (v := .int .i64 d_5) hf28 rfl rfl rfl rfl rfl rfl (r_extract rfl rfl) fun ac27 hf29 => ?_)
      refine seq_one (op_val (v := .bool true) hf29 rfl rfl rfl rfl rfl rfl (r_extract rfl rfl) fun ac28 hf30 => ?_)
      refine seq_one (op_val (v := .int .i64 d_5) hf30 rfl rfl rfl rfl rfl rfl (r_assign rfl) fun ac29 hf31 => ?_)
      refine seq_one (op_val (v := .bool true) hf31 rfl rfl rfl rfl rfl rfl (r_assign rfl) fun ac30 hf32 => ?_)
      refine seq_end ?_
      clear ac22 hf23 ac23 hf24 ac24 wd6 hf25 hI11 hR hf26 ac25 hf27 ac26 hf28 ac27 hf29 ac28 hf30 ac29 hf31
      refine then_normal ?_
      refine code_seq ?_
      refine code_seq ?_
      refine seq_start (l := [0, 1]) rfl ?_
      refine seq_one (op_val (v := .bool true) hf32 rfl rfl rfl rfl rfl rfl (r_move rfl) fun ac31 hf33 => ?_)
      refine seq_one (op_val (v := .bool false) hf33 rfl rfl rfl rfl rfl rfl ((r_not (b := true) rfl).trans rfl) fun ac32 hf34 => ?_)
      refine seq_end ?_
      clear ac30 hf32 ac31 hf33
      refine then_normal ?_
      refine code_if_false hf34 rfl ?_
      refine wp_skip ?_
      refine then_normal ?_
      refine code_seq ?_
      refine code_seq ?_
      refine seq_start (l := [0, 1, 2, 3, 4, 5]) rfl ?_
      refine seq_one (op_val (v := .int .i64 d_5) hf34 rfl rfl rfl rfl rfl rfl (r_move rfl) fun ac33 hf35 => ?_)
      refine seq_one (op_val (v := .bool (decide (d_5 < 0))) hf35 rfl rfl rfl rfl rfl rfl (r_lss rfl rfl) fun ac34 hf36 => ?_)
      refine seq_one (op_val (v := .bool (decide (d_5 < 0))) hf36 rfl rfl rfl rfl rfl rfl (r_move rfl) fun ac35 hf37 => ?_)
      have hf38 := hf37.know 46 (u := .bool false) rfl (congrArg Value.bool (decide_eq_false (by have := hk5.now; omega)))
      refine seq_one (op_val (v := .int .i64 d_5) hf38 rfl rfl rfl rfl rfl rfl (r_move rfl) fun ac36 hf39 => ?_)
      refine seq_one (op_val (v := .bool (decide (d_5 > 2))) hf39 rfl rfl rfl rfl rfl rfl (r_gtr rfl rfl) fun ac37 hf40 => ?_)
      refine seq_one (op_val (v := .bool (decide (d_5 > 2))) hf40 rfl rfl rfl rfl rfl rfl (r_pickF rfl rfl) fun ac38 hf41 => ?_)
      refine seq_end ?_
      clear ac32 hf34 ac33 hf35 ac34 hf36 hf37 ac35 hf38 ac36 hf39 ac37 hf40
      refine then_normal ?_
      have hf42 := hf41.know 49 (u := .bool false) rfl (congrArg Value.bool (decide_eq_false (by have := hk5.now; omega)))
      refine code_if_false hf42 rfl ?_
      refine wp_skip ?_
      refine then_normal ?_
      refine code_seq ?_
      refine code_seq ?_
      refine seq_start (l := [0]) rfl ?_
      refine seq_one (op_val (v := .int .i64 0) hf42 rfl rfl rfl rfl rfl rfl (r_move rfl) fun ac39 hf43 => ?_)
      refine seq_end ?_
      clear hf41 ac38 hf42
      refine then_normal ?_
      refine wp_block ?_
      refine wp_loop_rounds 4 ?_
      refine rounds_go ?_
      refine code_seq ?_
      refine seq_start (l := [0]) rfl ?_
      refine seq_one (op_val (v := .bool true) hf43 rfl rfl rfl rfl rfl rfl (r_lssC rfl rfl (by decide)) fun ac40 hf44 => ?_)
      refine seq_end ?_
      clear ac39 hf43
      refine then_normal ?_
      refine code_seq ?_
      refine code_if_true hf44 rfl ?_
      refine wp_skip ?_
      refine then_normal ?_
      refine code_seq ?_
      refine wp_block ?_
      refine code_seq ?_
      refine seq_start (l := [0, 1]) rfl ?_
      refine seq_one (op_val (v := .int .i64 0) hf44 rfl rfl rfl rfl rfl rfl (r_move rfl) fun ac41 hf45 => ?_)
      refine seq_one (op_val (v := .int .i64 0) hf45 rfl rfl rfl rfl rfl rfl (r_assign rfl) fun ac42 hf46 => ?_)
      refine seq_end ?_
      clear ac40 hf44 ac41 hf45
      refine then_normal ?_
      refine code_seq ?_
      refine code_join 116 ([(0, .agg #[.int .u32 x0, .int .u32 x1, .int .u32 x2]), (1, .slice p L cap), (2, .agg #[.bool g0, .bool g1, .bool g2]), (3, .slice q ys.length caq), (4, .pointer (some ⟨b1, 0, none⟩)), (6, .pointer (some ⟨b2, 0, none⟩)), (9, .pointer (some ⟨b3, 0, none⟩)), (10, .bool true), (11, .pointer (some ⟨b4, 0, none⟩)), (12, .int .i64 bf), (13, .int .i64 (i : Int)), (14, .int .i64 d_5), (15, .bool true), (16, .int .i64 0), (18, .tuple #[.pointer (some ⟨b3, 0, none⟩), .bool true]), (19, .agg #[.int .u32 x0, .int .u32 x1, .int .u32 x2]), (20, .slice p L cap), (21, .tuple #[.pointer (some ⟨b3, 0, none⟩), .bool true]), (22, .pointer (some ⟨b3, 0, none⟩)), (23, .bool true), (24, .bool true), (25, .bool false), (26, .agg #[.int .i64 (-1), .int .i64 (-1), .int .i64 (-1)]), (27, .int .i64 (i : Int)), (28, .bool true), (29, .int .i64 (i : Int)), (30, .tuple #[.int .i64 d_5, .bool true]), (31, .pointer (some ⟨b3, 0, none⟩)), (32, .agg #[.bool g0, .bool g1, .bool g2]), (33, .tuple #[.int .i64 d_5, .bool true]), (34, .int .i64 d_5), (35, .bool true), (36, .bool true), (37, .bool false), (44, .int .i64 d_5), (45, .bool (decide (d_5 < 0))), (46, .bool false), (47, .int .i64 d_5), (48, .bool (decide (d_5 > 2))), (49, .bool false), (50, .int .i64 0), (51, .bool true), (52, .int .i64 0), (91, .bool false)]) (fun w' => Inv w [(b1, #[.int .u32 x0, .int .u32 x1, .int .u32 x2], 47), (b2, #[.bool g0, .bool g1, .bool g2], 33), (b3, #[.int .i64 w0, .int .i64 w1, .int .i64 w2, .int .i64 a_5, .int .i64 b_5, .int .i64 c_5, .int .i64 d_5], 58), (b4, #[.int .i64 l0, .int .i64 l1, .int .i64 l2], 22)] w') ?_ ?_
      ·
        refine any_start (fun w => Has [(b2, #[.bool g0, .bool g1, .bool g2], 33), (b4, #[.int .i64 l0, .int .i64 l1, .int .i64 l2], 22)] w) follows (Has.drew (Has.cons (hI12.at 1 rfl) (Has.cons (hI12.at 3 rfl) Has.nil))) ?_
        have hS1 : Has [(b2, #[.bool g0, .bool g1, .bool g2], 33), (b4, #[.int .i64 l0, .int .i64 l1, .int .i64 l2], 22)] _ := Has.drew (Has.cons (hI12.at 1 rfl) (Has.cons (hI12.at 3 rfl) Has.nil))
        have hI13 := hI12.drew
        refine any_val (i := 0) (v := .int .i64 bf) hf46 rfl rfl rfl rfl rfl rfl (fun _ _ _ h => h) (by kernel_rfl) (by kernel_rfl) (by kernel_rfl) (fun wd7 hS1 => (r_move rfl)) hS1 fun ac43 hf47 => ?_
        refine any_val (i := 1) (v := .bool (decide (bf ≥ 0))) hf47 rfl rfl rfl rfl rfl rfl (fun _ _ _ h => h) (by kernel_rfl) (by kernel_rfl) (by kernel_rfl) (fun wd7 hS1 => (r_geq rfl rfl)) hS1 fun ac44 hf48 => ?_
        refine any_val (i := 2) (v := .bool (decide (bf ≥ 0))) hf48 rfl rfl rfl rfl rfl rfl (fun _ _ _ h => h) (by kernel_rfl) (by kernel_rfl) (by kernel_rfl) (fun wd7 hS1 => (r_move rfl)) hS1 fun ac45 hf49 => ?_
        rcases Bool.eq_false_or_eq_true (decide (bf ≥ 0) : Bool) with g55_2 | g55_2
        · have hf50 := hf49.know 55 (u := .bool true) rfl (congrArg Value.bool g55_2)
          refine any_val (i := 3) (v := .int .i64 d_5) hf50 rfl rfl rfl rfl rfl rfl (fun _ _ _ h => h) (by kernel_rfl) (by kernel_rfl) (by kernel_rfl) (fun wd7 hS1 => (r_move rfl)) hS1 fun ac46 hf51 => ?_
          refine any_val (i := 4) (v := .int .i64 bf) hf51 rfl rfl rfl rfl rfl rfl (fun _ _ _ h => h) (by kernel_rfl) (by kernel_rfl) (by kernel_rfl) (fun wd7 hS1 => (r_move rfl)) hS1 fun ac47 hf52 => ?_
          refine any_val (i := 5) (v := .bool (d_5 != bf)) hf52 rfl rfl rfl rfl rfl rfl (fun _ _ _ h => h) (by kernel_rfl) (by kernel_rfl) (by kernel_rfl) (fun wd7 hS1 => (r_neq rfl rfl)) hS1 fun ac48 hf53 => ?_
          refine any_val (i := 6) (v := .bool (d_5 != bf)) hf53 rfl rfl rfl rfl rfl rfl (fun _ _ _ h => h) (by kernel_rfl) (by kernel_rfl) (by kernel_rfl) (fun wd7 hS1 => (r_pickT rfl rfl)) hS1 fun ac49 hf54 => ?_
          refine any_val (i := 7) (v := .bool (d_5 != bf)) hf54 rfl rfl rfl rfl rfl rfl (fun _ _ _ h => h) (by kernel_rfl) (by kernel_rfl) (by kernel_rfl) (fun wd7 hS1 => (r_move rfl)) hS1 fun ac50 hf55 => ?_
          rcases Bool.eq_false_or_eq_true (d_5 != bf : Bool) with g60_3 | g60_3
          · have hf56 := hf55.know 60 (u := .bool true) rfl (congrArg Value.bool g60_3)
            refine any_val (i := 8) (v := .int .i64 d_5) hf56 rfl rfl rfl rfl rfl rfl (fun _ _ _ h => h) (by kernel_rfl) (by kernel_rfl) (by kernel_rfl) (fun wd7 hS1 => (r_move rfl)) hS1 fun ac51 hf57 => ?_
            refine any_val (i := 9) (v := .pointer (some ⟨b4, 0 + d_5.toNat, none⟩)) hf57 rfl rfl rfl rfl rfl rfl (fun _ _ _ h => h) (by kernel_rfl) (by kernel_rfl) (by kernel_rfl) (fun wd7 hS1 => (r_indexAddr (i := d_5.toNat) ar_22 rfl rfl (idx3 hk5.now).1 (idx3 hk5.now).2 (by rw [Nat.mul_one]))) hS1 fun ac52 hf58 => ?_
            refine any_val (i := 10) (v := .int .i64 (sel3 d_5 l0 l1 l2)) hf58 rfl rfl rfl rfl rfl rfl (fun _ _ _ h => h) (by kernel_rfl) (by kernel_rfl) (by kernel_rfl) (fun wd7 hS1 => (r_load ag_3 rfl (hS1.at 1 rfl) (by rcases hk5.now with h | h | h <;> rw [h] <;> rfl))) hS1 fun ac53 hf59 => ?_
            refine any_val (i := 11) (v := .bool (decide ((sel3 d_5 l0 l1 l2) ≥ 0))) hf59 rfl rfl rfl rfl rfl rfl (fun _ _ _ h => h) (by kernel_rfl) (by kernel_rfl) (by kernel_rfl) (fun wd7 hS1 => (r_geq rfl rfl)) hS1 fun ac54 hf60 => ?_
            refine any_val (i := 12) (v := .bool (decide ((sel3 d_5 l0 l1 l2) ≥ 0))) hf60 rfl rfl rfl rfl rfl rfl (fun _ _ _ h => h) (by kernel_rfl) (by kernel_rfl) (by kernel_rfl) (fun wd7 hS1 => (r_pickT rfl rfl)) hS1 fun ac55 hf61 => ?_
            refine any_val (i := 13) (v := .bool (decide ((sel3 d_5 l0 l1 l2) ≥ 0))) hf61 rfl rfl rfl rfl rfl rfl (fun _ _ _ h => h) (by kernel_rfl) (by kernel_rfl) (by kernel_rfl) (fun wd7 hS1 => (r_move rfl)) hS1 fun ac56 hf62 => ?_
            rcases Bool.eq_false_or_eq_true (decide ((sel3 d_5 l0 l1 l2) ≥ 0) : Bool) with g66_4 | g66_4
            · have hf63 := hf62.know 66 (u := .bool true) rfl (congrArg Value.bool g66_4)
              refine any_val (i := 14) (v := .int .i64 0) hf63 rfl rfl rfl rfl rfl rfl (fun _ _ _ h => h) (by kernel_rfl) (by kernel_rfl) (by kernel_rfl) (fun wd7 hS1 => (r_move rfl)) hS1 fun ac57 hf64 => ?_
              refine any_val (i := 15) (v := .pointer (some ⟨b2, 0, none⟩)) hf64 rfl rfl rfl rfl rfl rfl (fun _ _ _ h => h) (by kernel_rfl) (by kernel_rfl) (by kernel_rfl) (fun wd7 hS1 => (r_indexAddr (i := 0) ar_33 rfl rfl rfl (by decide) rfl)) hS1 fun ac58 hf65 => ?_
              refine any_val (i := 16) (v := .bool g0) hf65 rfl rfl rfl rfl rfl rfl (fun _ _ _ h => h) (by kernel_rfl) (by kernel_rfl) (by kernel_rfl) (fun wd7 hS1 => (r_load ag_4 rfl (hS1.at 0 rfl) rfl)) hS1 fun ac59 hf66 => ?_
              refine any_val (i := 17) (v := .bool g0) hf66 rfl rfl rfl rfl rfl rfl (fun _ _ _ h => h) (by kernel_rfl) (by kernel_rfl) (by kernel_rfl) (fun wd7 hS1 => (r_pickT rfl rfl)) hS1 fun ac60 hf67 => ?_
              refine any_val (i := 18) (v := .bool g0) hf67 rfl rfl rfl rfl rfl rfl (fun _ _ _ h => h) (by kernel_rfl) (by kernel_rfl) (by kernel_rfl) (fun wd7 hS1 => (r_move rfl)) hS1 fun ac61 hf68 => ?_
              rcases Bool.eq_false_or_eq_true (g0 : Bool) with g71_5 | g71_5
              · have hf69 := hf68.know 71 (u := .bool true) rfl (congrArg Value.bool g71_5)
                refine any_val (i := 19) (v := .int .i64 0) hf69 rfl rfl rfl rfl rfl rfl (fun _ _ _ h => h) (by kernel_rfl) (by kernel_rfl) (by kernel_rfl) (fun wd7 hS1 => (r_move rfl)) hS1 fun ac62 hf70 => ?_
                refine any_val (i := 20) (v := .int .i64 d_5) hf70 rfl rfl rfl rfl rfl rfl (fun _ _ _ h => h) (by kernel_rfl) (by kernel_rfl) (by kernel_rfl) (fun wd7 hS1 => (r_move rfl)) hS1 fun ac63 hf71 => ?_
                refine any_val (i := 21) (v := .bool (0 != d_5)) hf71 rfl rfl rfl rfl rfl rfl (fun _ _ _ h => h) (by kernel_rfl) (by kernel_rfl) (by kernel_rfl) (fun wd7 hS1 => (r_neq rfl rfl)) hS1 fun ac64 hf72 => ?_
                refine any_val (i := 22) (v := .bool (0 != d_5)) hf72 rfl rfl rfl rfl rfl rfl (fun _ _ _ h => h) (by kernel_rfl) (by kernel_rfl) (by kernel_rfl) (fun wd7 hS1 => (r_pickT rfl rfl)) hS1 fun ac65 hf73 => ?_
                refine any_val (i := 23) (v := .bool (0 != d_5)) hf73 rfl rfl rfl rfl rfl rfl (fun _ _ _ h => h) (by kernel_rfl) (by kernel_rfl) (by kernel_rfl) (fun wd7 hS1 => (r_move rfl)) hS1 fun ac66 hf74 => ?_
                rcases Bool.eq_false_or_eq_true (0 != d_5 : Bool) with g76_6 | g76_6
                · have hf75 := hf74.know 76 (u := .bool true) rfl (congrArg Value.bool g76_6)
                  refine any_val (i := 24) (v := .int .i64 0) hf75 rfl rfl rfl rfl rfl rfl (fun _ _ _ h => h) (by kernel_rfl) (by kernel_rfl) (by kernel_rfl) (fun wd7 hS1 => (r_move rfl)) hS1 fun ac67 hf76 => ?_
                  refine any_val (i := 25) (v := .pointer (some ⟨b4, 0, none⟩)) hf76 rfl rfl rfl rfl rfl rfl (fun _ _ _ h => h) (by kernel_rfl) (by kernel_rfl) (by kernel_rfl) (fun wd7 hS1 => (r_indexAddr (i := 0) ar_22 rfl rfl rfl (by decide) rfl)) hS1 fun ac68 hf77 => ?_
                  refine any_val (i := 26) (v := .int .i64 l0) hf77 rfl rfl rfl rfl rfl rfl (fun _ _ _ h => h) (by kernel_rfl) (by kernel_rfl) (by kernel_rfl) (fun wd7 hS1 => (r_load ag_3 rfl (hS1.at 1 rfl) rfl)) hS1 fun ac69 hf78 => ?_
                  refine any_val (i := 27) (v := .int .i64 d_5) hf78 rfl rfl rfl rfl rfl rfl (fun _ _ _ h => h) (by kernel_rfl) (by kernel_rfl) (by kernel_rfl) (fun wd7 hS1 => (r_move rfl)) hS1 fun ac70 hf79 => ?_
                  refine any_val (i := 28) (v := .pointer (some ⟨b4, 0 + d_5.toNat, none⟩)) hf79 rfl rfl rfl rfl rfl rfl (fun _ _ _ h => h) (by kernel_rfl) (by kernel_rfl) (by kernel_rfl) (fun wd7 hS1 => (r_indexAddr (i := d_5.toNat) ar_22 rfl rfl (idx3 hk5.now).1 (idx3 hk5.now).2 (by rw [Nat.mul_one]))) hS1 fun ac71 hf80 => ?_
                  refine any_val (i := 29) (v := .int .i64 (sel3 d_5 l0 l1 l2)) hf80 rfl rfl rfl rfl rfl rfl (fun _ _ _ h => h) (by kernel_rfl) (by kernel_rfl) (by kernel_rfl) (fun wd7 hS1 => (r_load ag_3 rfl (hS1.at 1 rfl) (by rcases hk5.now with h | h | h <;> rw [h] <;> rfl))) hS1 fun ac72 hf81 => ?_
                  refine any_val (i := 30) (v := .bool (decide (l0 < (sel3 d_5 l0 l1 l2)))) hf81 rfl rfl rfl rfl rfl rfl (fun _ _ _ h => h) (by kernel_rfl) (by kernel_rfl) (by kernel_rfl) (fun wd7 hS1 => (r_lss rfl rfl)) hS1 fun ac73 hf82 => ?_
                  refine any_val (i := 31) (v := .bool (decide (l0 < (sel3 d_5 l0 l1 l2)))) hf82 rfl rfl rfl rfl rfl rfl (fun _ _ _ h => h) (by kernel_rfl) (by kernel_rfl) (by kernel_rfl) (fun wd7 hS1 => (r_pickT rfl rfl)) hS1 fun ac74 hf83 => ?_
                  refine any_val (i := 32) (v := .bool (decide (l0 < (sel3 d_5 l0 l1 l2)))) hf83 rfl rfl rfl rfl rfl rfl (fun _ _ _ h => h) (by kernel_rfl) (by kernel_rfl) (by kernel_rfl) (fun wd7 hS1 => (r_move rfl)) hS1 fun ac75 hf84 => ?_
                  rcases Bool.eq_false_or_eq_true (decide (l0 < (sel3 d_5 l0 l1 l2)) : Bool) with g85_7 | g85_7
                  · have hf85 := hf84.know 85 (u := .bool true) rfl (congrArg Value.bool g85_7)
                    refine any_val (i := 33) (v := .pointer (some ⟨b3, 0, none⟩)) hf85 rfl rfl rfl rfl rfl rfl (fun _ _ _ h => h) (by kernel_rfl) (by kernel_rfl) (by kernel_rfl) (fun wd7 hS1 => (r_move rfl)) hS1 fun ac76 hf86 => ?_
                    refine any_val (i := 35) (v := .int .i64 0) hf86 rfl rfl rfl rfl rfl rfl (fun _ _ _ h => h) (by kernel_rfl) (by kernel_rfl) (by kernel_rfl) (fun wd7 hS1 => (r_move rfl)) hS1 fun ac77 hf87 => ?_
                    refine any_one (i := 34) (by kernel_rfl) ?_
                    refine (op_pureW hf87 rfl rfl rfl rfl ca_17 (credits_walk w0 w1 w2 a_5 b_5 c_5 d_5 hd.v.ne b3 _ (Has.cons (hI13.at 2 rfl) Has.nil)) hI13 fun ac78 wd8 hI14 hf88 => ⟨?_, ?_⟩)
                    · exact (Has.cons (hI14.at 1 rfl) (Has.cons (hI14.at 3 rfl) Has.nil))
                    have hS2 : Has [(b2, #[.bool g0, .bool g1, .bool g2], 33), (b4, #[.int .i64 l0, .int .i64 l1, .int .i64 l2], 22)] _ := (Has.cons (hI14.at 1 rfl) (Has.cons (hI14.at 3 rfl) Has.nil))
                    refine any_val (i := 36) (v := .int .i64 a_5) hf88 rfl rfl rfl rfl rfl rfl (fun _ _ _ h => h) (by kernel_rfl) (by kernel_rfl) (by kernel_rfl) (fun wd8 hS2 => (r_index (i := 0) ar_22 ag_3 rfl rfl rfl (by decide) rfl)) hS2 fun ac79 hf89 => ?_
                    refine any_val (i := 37) (v := .bool (decide (a_5 > 0))) hf89 rfl rfl rfl rfl rfl rfl (fun _ _ _ h => h) (by kernel_rfl) (by kernel_rfl) (by kernel_rfl) (fun wd8 hS2 => (r_gtr rfl rfl)) hS2 fun ac80 hf90 => ?_
                    refine any_val (i := 38) (v := .bool (decide (a_5 > 0))) hf90 rfl rfl rfl rfl rfl rfl (fun _ _ _ h => h) (by kernel_rfl) (by kernel_rfl) (by kernel_rfl) (fun wd8 hS2 => (r_pickT rfl rfl)) hS2 fun ac81 hf91 => ?_
                    refine any_end (by kernel_rfl) ?_
                    clear hI12 ac42 hf46 ac43 hf47 ac44 hf48 hf49 ac45 hf50 ac46 hf51 ac47 hf52 ac48 hf53 ac49 hf54 hf55 ac50 hf56 ac51 hf57 ac52 hf58 ac53 hf59 ac54 hf60 ac55 hf61 hf62 ac56 hf63 ac57 hf64 ac58 hf65 ac59 hf66 ac60 hf67 hf68 ac61 hf69 ac62 hf70 ac63 hf71 ac64 hf72 ac65 hf73 hf74 ac66 hf75 ac67 hf76 ac68 hf77 ac69 hf78 ac70 hf79 ac71 hf80 ac72 hf81 ac73 hf82 ac74 hf83 hf84 ac75 hf85 ac76 hf86 ac77 wd7 hI13 hf87 hS1 ac78 hf88 ac79 hf89 ac80 hf90 hS2
                    refine then_normal ?_
                    have hf92 := hf91.know 91 (u := .bool false) rfl (congrArg Value.bool (decide_eq_false (Int.not_lt.2 (hx1.check hd.v ha he5 (x := 0) (.inl rfl) (of_decide_eq_true g55_2) (bne_iff_ne.1 g60_3) (of_decide_eq_true g66_4) g71_5 (bne_iff_ne.1 g76_6) (of_decide_eq_true g85_7)))))
                    clear hf91
                    exact ⟨(hf92.cons 0 rfl (hf92.cons 1 rfl (hf92.cons 2 rfl (hf92.cons 3 rfl (hf92.cons 4 rfl (hf92.cons 6 rfl (hf92.cons 9 rfl (hf92.cons 10 rfl (hf92.cons 11 rfl (hf92.cons 12 rfl (hf92.cons 13 rfl (hf92.cons 14 rfl (hf92.cons 15 rfl (hf92.cons 16 rfl (hf92.cons 18 rfl (hf92.cons 19 rfl (hf92.cons 20 rfl (hf92.cons 21 rfl (hf92.cons 22 rfl (hf92.cons 23 rfl (hf92.cons 24 rfl (hf92.cons 25 rfl (hf92.cons 26 rfl (hf92.cons 27 rfl (hf92.cons 28 rfl (hf92.cons 29 rfl (hf92.cons 30 rfl (hf92.cons 31 rfl (hf92.cons 32 rfl (hf92.cons 33 rfl (hf92.cons 34 rfl (hf92.cons 35 rfl (hf92.cons 36 rfl (hf92.cons 37 rfl (hf92.cons 44 rfl (hf92.cons 45 rfl (hf92.cons 46 rfl (hf92.cons 47 rfl (hf92.cons 48 rfl (hf92.cons 49 rfl (hf92.cons 50 rfl (hf92.cons 51 rfl (hf92.cons 52 rfl (hf92.cons 91 rfl hf92.nil)))))))))))))))))))))))))))))))))))))))))))), hI14⟩
                  · have hf93 := hf84.know 85 (u := .bool false) rfl (congrArg Value.bool g85_7)
                    refine any_skip (i := 33) hf93 rfl rfl rfl rfl (fun _ _ _ h => h) (by kernel_rfl) (by kernel_rfl) (by kernel_rfl) hS1 fun ac82 hf94 => ?_
                    refine any_skip (i := 34) hf94 rfl rfl rfl rfl (fun _ _ _ h => h) (by kernel_rfl) (by kernel_rfl) (by kernel_rfl) hS1 fun ac83 hf95 => ?_
                    refine any_skip (i := 35) hf95 rfl rfl rfl rfl (fun _ _ _ h => h) (by kernel_rfl) (by kernel_rfl) (by kernel_rfl) hS1 fun ac84 hf96 => ?_
                    refine any_skip (i := 36) hf96 rfl rfl rfl rfl (fun _ _ _ h => h) (by kernel_rfl) (by kernel_rfl) (by kernel_rfl) hS1 fun ac85 hf97 => ?_
                    refine any_skip (i := 37) hf97 rfl rfl rfl rfl (fun _ _ _ h => h) (by kernel_rfl) (by kernel_rfl) (by kernel_rfl) hS1 fun ac86 hf98 => ?_
                    refine any_val (i := 38) (v := .bool false) hf98 rfl rfl rfl rfl rfl rfl (fun _ _ _ h => h) (by kernel_rfl) (by kernel_rfl) (by kernel_rfl) (fun wd7 hS1 => (r_pickF rfl rfl)) hS1 fun ac87 hf99 => ?_
                    refine any_end (by kernel_rfl) ?_
                    clear hI12 ac42 hf46 ac43 hf47 ac44 hf48 hf49 ac45 hf50 ac46 hf51 ac47 hf52 ac48 hf53 ac49 hf54 hf55 ac50 hf56 ac51 hf57 ac52 hf58 ac53 hf59 ac54 hf60 ac55 hf61 hf62 ac56 hf63 ac57 hf64 ac58 hf65 ac59 hf66 ac60 hf67 hf68 ac61 hf69 ac62 hf70 ac63 hf71 ac64 hf72 ac65 hf73 hf74 ac66 hf75 ac67 hf76 ac68 hf77 ac69 hf78 ac70 hf79 ac71 hf80 ac72 hf81 ac73 hf82 ac74 hf83 hf84 ac75 hf93 ac82 hf94 ac83 hf95 ac84 hf96 ac85 hf97 ac86 hf98 hS1
                    refine then_normal ?_
                    exact ⟨(hf99.cons 0 rfl (hf99.cons 1 rfl (hf99.cons 2 rfl (hf99.cons 3 rfl (hf99.cons 4 rfl (hf99.cons 6 rfl (hf99.cons 9 rfl (hf99.cons 10 rfl (hf99.cons 11 rfl (hf99.cons 12 rfl (hf99.cons 13 rfl (hf99.cons 14 rfl (hf99.cons 15 rfl (hf99.cons 16 rfl (hf99.cons 18 rfl (hf99.cons 19 rfl (hf99.cons 20 rfl (hf99.cons 21 rfl (hf99.cons 22 rfl (hf99.cons 23 rfl (hf99.cons 24 rfl (hf99.cons 25 rfl (hf99.cons 26 rfl (hf99.cons 27 rfl (hf99.cons 28 rfl (hf99.cons 29 rfl (hf99.cons 30 rfl (hf99.cons 31 rfl (hf99.cons 32 rfl (hf99.cons 33 rfl (hf99.cons 34 rfl (hf99.cons 35 rfl (hf99.cons 36 rfl (hf99.cons 37 rfl (hf99.cons 44 rfl (hf99.cons 45 rfl (hf99.cons 46 rfl (hf99.cons 47 rfl (hf99.cons 48 rfl (hf99.cons 49 rfl (hf99.cons 50 rfl (hf99.cons 51 rfl (hf99.cons 52 rfl (hf99.cons 91 rfl hf99.nil)))))))))))))))))))))))))))))))))))))))))))), hI13⟩
                · have hf100 := hf74.know 76 (u := .bool false) rfl (congrArg Value.bool g76_6)
                  refine any_skip (i := 24) hf100 rfl rfl rfl rfl (fun _ _ _ h => h) (by kernel_rfl) (by kernel_rfl) (by kernel_rfl) hS1 fun ac88 hf101 => ?_
                  refine any_skip (i := 25) hf101 rfl rfl rfl rfl (fun _ _ _ h => h) (by kernel_rfl) (by kernel_rfl) (by kernel_rfl) hS1 fun ac89 hf102 => ?_
                  refine any_skip (i := 26) hf102 rfl rfl rfl rfl (fun _ _ _ h => h) (by kernel_rfl) (by kernel_rfl) (by kernel_rfl) hS1 fun ac90 hf103 => ?_
                  refine any_skip (i := 27) hf103 rfl rfl rfl rfl (fun _ _ _ h => h) (by kernel_rfl) (by kernel_rfl) (by kernel_rfl) hS1 fun ac91 hf104 => ?_
                  refine any_skip (i := 28) hf104 rfl rfl rfl rfl (fun _ _ _ h => h) (by kernel_rfl) (by kernel_rfl) (by kernel_rfl) hS1 fun ac92 hf105 => ?_
                  refine any_skip (i := 29) hf105 rfl rfl rfl rfl (fun _ _ _ h => h) (by kernel_rfl) (by kernel_rfl) (by kernel_rfl) hS1 fun ac93 hf106 => ?_
                  refine any_skip (i := 30) hf106 rfl rfl rfl rfl (fun _ _ _ h => h) (by kernel_rfl) (by kernel_rfl) (by kernel_rfl) hS1 fun ac94 hf107 => ?_
                  refine any_val (i := 31) (v := .bool false) hf107 rfl rfl rfl rfl rfl rfl (fun _ _ _ h => h) (by kernel_rfl) (by kernel_rfl) (by kernel_rfl) (fun wd7 hS1 => (r_pickF rfl rfl)) hS1 fun ac95 hf108 => ?_
                  refine any_val (i := 32) (v := .bool false) hf108 rfl rfl rfl rfl rfl rfl (fun _ _ _ h => h) (by kernel_rfl) (by kernel_rfl) (by kernel_rfl) (fun wd7 hS1 => (r_move rfl)) hS1 fun ac96 hf109 => ?_
                  refine any_skip (i := 33) hf109 rfl rfl rfl rfl (fun _ _ _ h => h) (by kernel_rfl) (by kernel_rfl) (by kernel_rfl) hS1 fun ac97 hf110 => ?_
                  refine any_skip (i := 34) hf110 rfl rfl rfl rfl (fun _ _ _ h => h) (by kernel_rfl) (by kernel_rfl) (by kernel_rfl) hS1 fun ac98 hf111 => ?_
                  refine any_skip (i := 35) hf111 rfl rfl rfl rfl (fun _ _ _ h => h) (by kernel_rfl) (by kernel_rfl) (by kernel_rfl) hS1 fun ac99 hf112 => ?_
                  refine any_skip (i := 36) hf112 rfl rfl rfl rfl (fun _ _ _ h => h) (by kernel_rfl) (by kernel_rfl) (by kernel_rfl) hS1 fun ac100 hf113 => ?_
                  refine any_skip (i := 37) hf113 rfl rfl rfl rfl (fun _ _ _ h => h) (by kernel_rfl) (by kernel_rfl) (by kernel_rfl) hS1 fun ac101 hf114 => ?_
                  refine any_val (i := 38) (v := .bool false) hf114 rfl rfl rfl rfl rfl rfl (fun _ _ _ h => h) (by kernel_rfl) (by kernel_rfl) (by kernel_rfl) (fun wd7 hS1 => (r_pickF rfl rfl)) hS1 fun ac102 hf115 => ?_
                  refine any_end (by kernel_rfl) ?_
                  clear hI12 ac42 hf46 ac43 hf47 ac44 hf48 hf49 ac45 hf50 ac46 hf51 ac47 hf52 ac48 hf53 ac49 hf54 hf55 ac50 hf56 ac51 hf57 ac52 hf58 ac53 hf59 ac54 hf60 ac55 hf61 hf62 ac56 hf63 ac57 hf64 ac58 hf65 ac59 hf66 ac60 hf67 hf68 ac61 hf69 ac62 hf70 ac63 hf71 ac64 hf72 ac65 hf73 hf74 ac66 hf100 ac88 hf101 ac89 hf102 ac90 hf103 ac91 hf104 ac92 hf105 ac93 hf106 ac94 hf107 ac95 hf108 ac96 hf109 ac97 hf110 ac98 hf111 ac99 hf112 ac100 hf113 ac101 hf114 hS1
                  refine then_normal ?_
                  exact ⟨(hf115.cons 0 rfl (hf115.cons 1 rfl (hf115.cons 2 rfl (hf115.cons 3 rfl (hf115.cons 4 rfl (hf115.cons 6 rfl (hf115.cons 9 rfl (hf115.cons 10 rfl (hf115.cons 11 rfl (hf115.cons 12 rfl (hf115.cons 13 rfl (hf115.cons 14 rfl (hf115.cons 15 rfl (hf115.cons 16 rfl (hf115.cons 18 rfl (hf115.cons 19 rfl (hf115.cons 20 rfl (hf115.cons 21 rfl (hf115.cons 22 rfl (hf115.cons 23 rfl (hf115.cons 24 rfl (hf115.cons 25 rfl (hf115.cons 26 rfl (hf115.cons 27 rfl (hf115.cons 28 rfl (hf115.cons 29 rfl (hf115.cons 30 rfl (hf115.cons 31 rfl (hf115.cons 32 rfl (hf115.cons 33 rfl (hf115.cons 34 rfl (hf115.cons 35 rfl (hf115.cons 36 rfl (hf115.cons 37 rfl (hf115.cons 44 rfl (hf115.cons 45 rfl (hf115.cons 46 rfl (hf115.cons 47 rfl (hf115.cons 48 rfl (hf115.cons 49 rfl (hf115.cons 50 rfl (hf115.cons 51 rfl (hf115.cons 52 rfl (hf115.cons 91 rfl hf115.nil)))))))))))))))))))))))))))))))))))))))))))), hI13⟩
              · have hf116 := hf68.know 71 (u := .bool false) rfl (congrArg Value.bool g71_5)
                refine any_skip (i := 19) hf116 rfl rfl rfl rfl (fun _ _ _ h => h) (by kernel_rfl) (by kernel_rfl) (by kernel_rfl) hS1 fun ac103 hf117 => ?_
                refine any_skip (i := 20) hf117 rfl rfl rfl rfl (fun _ _ _ h => h) (by kernel_rfl) (by kernel_rfl) (by kernel_rfl) hS1 fun ac104 hf118 => ?_
                refine any_skip (i := 21) hf118 rfl rfl rfl rfl (fun _ _ _ h => h) (by kernel_rfl) (by kernel_rfl) (by kernel_rfl) hS1 fun ac105 hf119 => ?_
                refine any_val (i := 22) (v := .bool false) hf119 rfl rfl rfl rfl rfl rfl (fun _ _ _ h => h) (by kernel_rfl) (by kernel_rfl) (by kernel_rfl) (fun wd7 hS1 => (r_pickF rfl rfl)) hS1 fun ac106 hf120 => ?_
                refine any_val (i := 23) (v := .bool false) hf120 rfl rfl rfl rfl rfl rfl (fun _ _ _ h => h) (by kernel_rfl) (by kernel_rfl) (by kernel_rfl) (fun wd7 hS1 => (r_move rfl)) hS1 fun ac107 hf121 => ?_
                refine any_skip (i := 24) hf121 rfl rfl rfl rfl (fun _ _ _ h => h) (by kernel_rfl) (by kernel_rfl) (by kernel_rfl) hS1 fun ac108 hf122 => ?_
                refine any_skip (i := 25) hf122 rfl rfl rfl rfl (fun _ _ _ h => h) (by kernel_rfl) (by kernel_rfl) (by kernel_rfl) hS1 fun ac109 hf123 => ?_
                refine any_skip (i := 26) hf123 rfl rfl rfl rfl (fun _ _ _ h => h) (by kernel_rfl) (by kernel_rfl) (by kernel_rfl) hS1 fun ac110 hf124 => ?_
                refine any_skip (i := 27) hf124 rfl rfl rfl rfl (fun _ _ _ h => h) (by kernel_rfl) (by kernel_rfl) (by kernel_rfl) hS1 fun ac111 hf125 => ?_
                refine any_skip (i := 28) hf125 rfl rfl rfl rfl (fun _ _ _ h => h) (by kernel_rfl) (by kernel_rfl) (by kernel_rfl) hS1 fun ac112 hf126 => ?_
                refine any_skip (i := 29) hf126 rfl rfl rfl rfl (fun _ _ _ h => h) (by kernel_rfl) (by kernel_rfl) (by kernel_rfl) hS1 fun ac113 hf127 => ?_
                refine any_skip (i := 30) hf127 rfl rfl rfl rfl (fun _ _ _ h => h) (by kernel_rfl) (by kernel_rfl) (by kernel_rfl) hS1 fun ac114 hf128 => ?_
                refine any_val (i := 31) (v := .bool false) hf128 rfl rfl rfl rfl rfl rfl (fun _ _ _ h => h) (by kernel_rfl) (by kernel_rfl) (by kernel_rfl) (fun wd7 hS1 => (r_pickF rfl rfl)) hS1 fun ac115 hf129 => ?_
                refine any_val (i := 32) (v := .bool false) hf129 rfl rfl rfl rfl rfl rfl (fun _ _ _ h => h) (by kernel_rfl) (by kernel_rfl) (by kernel_rfl) (fun wd7 hS1 => (r_move rfl)) hS1 fun ac116 hf130 => ?_
                refine any_skip (i := 33) hf130 rfl rfl rfl rfl (fun _ _ _ h => h) (by kernel_rfl) (by kernel_rfl) (by kernel_rfl) hS1 fun ac117 hf131 => ?_
                refine any_skip (i := 34) hf131 rfl rfl rfl rfl (fun _ _ _ h => h) (by kernel_rfl) (by kernel_rfl) (by kernel_rfl) hS1 fun ac118 hf132 => ?_
                refine any_skip (i := 35) hf132 rfl rfl rfl rfl (fun _ _ _ h => h) (by kernel_rfl) (by kernel_rfl) (by kernel_rfl) hS1 fun ac119 hf133 => ?_
                refine any_skip (i := 36) hf133 rfl rfl rfl rfl (fun _ _ _ h => h) (by kernel_rfl) (by kernel_rfl) (by kernel_rfl) hS1 fun ac120 hf134 => ?_
                refine any_skip (i := 37) hf134 rfl rfl rfl rfl (fun _ _ _ h => h) (by kernel_rfl) (by kernel_rfl) (by kernel_rfl) hS1 fun ac121 hf135 => ?_
                refine any_val (i := 38) (v := .bool false) hf135 rfl rfl rfl rfl rfl rfl (fun _ _ _ h => h) (by kernel_rfl) (by kernel_rfl) (by kernel_rfl) (fun wd7 hS1 => (r_pickF rfl rfl)) hS1 fun ac122 hf136 => ?_
                refine any_end (by kernel_rfl) ?_
                clear hI12 ac42 hf46 ac43 hf47 ac44 hf48 hf49 ac45 hf50 ac46 hf51 ac47 hf52 ac48 hf53 ac49 hf54 hf55 ac50 hf56 ac51 hf57 ac52 hf58 ac53 hf59 ac54 hf60 ac55 hf61 hf62 ac56 hf63 ac57 hf64 ac58 hf65 ac59 hf66 ac60 hf67 hf68 ac61 hf116 ac103 hf117 ac104 hf118 ac105 hf119 ac106 hf120 ac107 hf121 ac108 hf122 ac109 hf123 ac110 hf124 ac111 hf125 ac112 hf126 ac113 hf127 ac114 hf128 ac115 hf129 ac116 hf130 ac117 hf131 ac118 hf132 ac119 hf133 ac120 hf134 ac121 hf135 hS1
                refine then_normal ?_
                exact ⟨(hf136.cons 0 rfl (hf136.cons 1 rfl (hf136.cons 2 rfl (hf136.cons 3 rfl (hf136.cons 4 rfl (hf136.cons 6 rfl (hf136.cons 9 rfl (hf136.cons 10 rfl (hf136.cons 11 rfl (hf136.cons 12 rfl (hf136.cons 13 rfl (hf136.cons 14 rfl (hf136.cons 15 rfl (hf136.cons 16 rfl (hf136.cons 18 rfl (hf136.cons 19 rfl (hf136.cons 20 rfl (hf136.cons 21 rfl (hf136.cons 22 rfl (hf136.cons 23 rfl (hf136.cons 24 rfl (hf136.cons 25 rfl (hf136.cons 26 rfl (hf136.cons 27 rfl (hf136.cons 28 rfl (hf136.cons 29 rfl (hf136.cons 30 rfl (hf136.cons 31 rfl (hf136.cons 32 rfl (hf136.cons 33 rfl (hf136.cons 34 rfl (hf136.cons 35 rfl (hf136.cons 36 rfl (hf136.cons 37 rfl (hf136.cons 44 rfl (hf136.cons 45 rfl (hf136.cons 46 rfl (hf136.cons 47 rfl (hf136.cons 48 rfl (hf136.cons 49 rfl (hf136.cons 50 rfl (hf136.cons 51 rfl (hf136.cons 52 rfl (hf136.cons 91 rfl hf136.nil)))))))))))))))))))))))))))))))))))))))))))), hI13⟩
            · have hf137 := hf62.know 66 (u := .bool false) rfl (congrArg Value.bool g66_4)
              refine any_skip (i := 14) hf137 rfl rfl rfl rfl (fun _ _ _ h => h) (by kernel_rfl) (by kernel_rfl) (by kernel_rfl) hS1 fun ac123 hf138 => ?_
              refine any_skip (i := 15) hf138 rfl rfl rfl rfl (fun _ _ _ h => h) (by kernel_rfl) (by kernel_rfl) (by kernel_rfl) hS1 fun ac124 hf139 => ?_
              refine any_skip (i := 16) hf139 rfl rfl rfl rfl (fun _ _ _ h => h) (by kernel_rfl) (by kernel_rfl) (by kernel_rfl) hS1 fun ac125 hf140 => ?_
              refine any_val (i := 17) (v := .bool false) hf140 rfl rfl rfl rfl rfl rfl (fun _ _ _ h => h) (by kernel_rfl) (by kernel_rfl) (by kernel_rfl) (fun wd7 hS1 => (r_pickF rfl rfl)) hS1 fun ac126 hf141 => ?_
              refine any_val (i := 18) (v := .bool false) hf141 rfl rfl rfl rfl rfl rfl (fun _ _ _ h => h) (by kernel_rfl) (by kernel_rfl) (by kernel_rfl) (fun wd7 hS1 => (r_move rfl)) hS1 fun ac127 hf142 => ?_
              refine any_skip (i := 19) hf142 rfl rfl rfl rfl (fun _ _ _ h => h) (by kernel_rfl) (by kernel_rfl) (by kernel_rfl) hS1 fun ac128 hf143 => ?_
              refine any_skip (i := 20) hf143 rfl rfl rfl rfl (fun _ _ _ h => h) (by kernel_rfl) (by kernel_rfl) (by kernel_rfl) hS1 fun ac129 hf144 => ?_
              refine any_skip (i := 21) hf144 rfl rfl rfl rfl (fun _ _ _ h => h) (by kernel_rfl) (by kernel_rfl) (by kernel_rfl) hS1 fun ac130 hf145 => ?_
              refine any_val (i := 22) (v := .bool false) hf145 rfl rfl rfl rfl rfl rfl (fun _ _ _ h => h) (by kernel_rfl) (by kernel_rfl) (by kernel_rfl) (fun wd7 hS1 => (r_pickF rfl rfl)) hS1 fun ac131 hf146 => ?_
              refine any_val (i := 23) (v := .bool false) hf146 rfl rfl rfl rfl rfl rfl (fun _ _ _ h => h) (by kernel_rfl) (by kernel_rfl) (by kernel_rfl) (fun wd7 hS1 => (r_move rfl)) hS1 fun ac132 hf147 => ?_
              refine any_skip (i := 24) hf147 rfl rfl rfl rfl (fun _ _ _ h => h) (by kernel_rfl) (by kernel_rfl) (by kernel_rfl) hS1 fun ac133 hf148 => ?_
              refine any_skip (i := 25) hf148 rfl rfl rfl rfl (fun _ _ _ h => h) (by kernel_rfl) (by kernel_rfl) (by kernel_rfl) hS1 fun ac134 hf149 => ?_
              refine any_skip (i := 26) hf149 rfl rfl rfl rfl (fun _ _ _ h => h) (by kernel_rfl) (by kernel_rfl) (by kernel_rfl) hS1 fun ac135 hf150 => ?_
              refine any_skip (i := 27) hf150 rfl rfl rfl rfl (fun _ _ _ h => h) (by kernel_rfl) (by kernel_rfl) (by kernel_rfl) hS1 fun ac136 hf151 => ?_
              refine any_skip (i := 28) hf151 rfl rfl rfl rfl (fun _ _ _ h => h) (by kernel_rfl) (by kernel_rfl) (by kernel_rfl) hS1 fun ac137 hf152 => ?_
              refine any_skip (i := 29) hf152 rfl rfl rfl rfl (fun _ _ _ h => h) (by kernel_rfl) (by kernel_rfl) (by kernel_rfl) hS1 fun ac138 hf153 => ?_
              refine any_skip (i := 30) hf153 rfl rfl rfl rfl (fun _ _ _ h => h) (by kernel_rfl) (by kernel_rfl) (by kernel_rfl) hS1 fun ac139 hf154 => ?_
              refine any_val (i := 31) (v := .bool false) hf154 rfl rfl rfl rfl rfl rfl (fun _ _ _ h => h) (by kernel_rfl) (by kernel_rfl) (by kernel_rfl) (fun wd7 hS1 => (r_pickF rfl rfl)) hS1 fun ac140 hf155 => ?_
              refine any_val (i := 32) (v := .bool false) hf155 rfl rfl rfl rfl rfl rfl (fun _ _ _ h => h) (by kernel_rfl) (by kernel_rfl) (by kernel_rfl) (fun wd7 hS1 => (r_move rfl)) hS1 fun ac141 hf156 => ?_
              refine any_skip (i := 33) hf156 rfl rfl rfl rfl (fun _ _ _ h => h) (by kernel_rfl) (by kernel_rfl) (by kernel_rfl) hS1 fun ac142 hf157 => ?_
              refine any_skip (i := 34) hf157 rfl rfl rfl rfl (fun _ _ _ h => h) (by kernel_rfl) (by kernel_rfl) (by kernel_rfl) hS1 fun ac143 hf158 => ?_
              refine any_skip (i := 35) hf158 rfl rfl rfl rfl (fun _ _ _ h => h) (by kernel_rfl) (by kernel_rfl) (by kernel_rfl) hS1 fun ac144 hf159 => ?_
              refine any_skip (i := 36) hf159 rfl rfl rfl rfl (fun _ _ _ h => h) (by kernel_rfl) (by kernel_rfl) (by kernel_rfl) hS1 fun ac145 hf160 => ?_
              refine any_skip (i := 37) hf160 rfl rfl rfl rfl (fun _ _ _ h => h) (by kernel_rfl) (by kernel_rfl) (by kernel_rfl) hS1 fun ac146 hf161 => ?_
              refine any_val (i := 38) (v := .bool false) hf161 rfl rfl rfl rfl rfl rfl (fun _ _ _ h => h) (by kernel_rfl) (by kernel_rfl) (by kernel_rfl) (fun wd7 hS1 => (r_pickF rfl rfl)) hS1 fun ac147 hf162 => ?_
              refine any_end (by kernel_rfl) ?_
              clear hI12 ac42 hf46 ac43 hf47 ac44 hf48 hf49 ac45 hf50 ac46 hf51 ac47 hf52 ac48 hf53 ac49 hf54 hf55 ac50 hf56 ac51 hf57 ac52 hf58 ac53 hf59 ac54 hf60 ac55 hf61 hf62 ac56 hf137 ac123 hf138 ac124 hf139 ac125 hf140 ac126 hf141 ac127 hf142 ac128 hf143 ac129 hf144 ac130 hf145 ac131 hf146 ac132 hf147 ac133 hf148 ac134 hf149 ac135 hf150 ac136 hf151 ac137 hf152 ac138 hf153 ac139 hf154 ac140 hf155 ac141 hf156 ac142 hf157 ac143 hf158 ac144 hf159 ac145 hf160 ac146 hf161 hS1
              refine then_normal ?_
              exact ⟨(hf162.cons 0 rfl (hf162.cons 1 rfl (hf162.cons 2 rfl (hf162.cons 3 rfl (hf162.cons 4 rfl (hf162.cons 6 rfl (hf162.cons 9 rfl (hf162.cons 10 rfl (hf162.cons 11 rfl (hf162.cons 12 rfl (hf162.cons 13 rfl (hf162.cons 14 rfl (hf162.cons 15 rfl (hf162.cons 16 rfl (hf162.cons 18 rfl (hf162.cons 19 rfl (hf162.cons 20 rfl (hf162.cons 21 rfl (hf162.cons 22 rfl (hf162.cons 23 rfl (hf162.cons 24 rfl (hf162.cons 25 rfl (hf162.cons 26 rfl (hf162.cons 27 rfl (hf162.cons 28 rfl (hf162.cons 29 rfl (hf162.cons 30 rfl (hf162.cons 31 rfl (hf162.cons 32 rfl (hf162.cons 33 rfl (hf162.cons 34 rfl (hf162.cons 35 rfl (hf162.cons 36 rfl (hf162.cons 37 rfl (hf162.cons 44 rfl (hf162.cons 45 rfl (hf162.cons 46 rfl (hf162.cons 47 rfl (hf162.cons 48 rfl (hf162.cons 49 rfl (hf162.cons 50 rfl (hf162.cons 51 rfl (hf162.cons 52 rfl (hf162.cons 91 rfl hf162.nil)))))))))))))))))))))))))))))))))))))))))))), hI13⟩
          · have hf163 := hf55.know 60 (u := .bool false) rfl (congrArg Value.bool g60_3)
            refine any_skip (i := 8) hf163 rfl rfl rfl rfl (fun _ _ _ h => h) (by kernel_rfl) (by kernel_rfl) (by kernel_rfl) hS1 fun ac148 hf164 => ?_
            refine any_skip (i := 9) hf164 rfl rfl rfl rfl (fun _ _ _ h => h) (by kernel_rfl) (by kernel_rfl) (by kernel_rfl) hS1 fun ac149 hf165 => ?_
            refine any_skip (i := 10) hf165 rfl rfl rfl rfl (fun _ _ _ h => h) (by kernel_rfl) (by kernel_rfl) (by kernel_rfl) hS1 fun ac150 hf166 => ?_
            refine any_skip (i := 11) hf166 rfl rfl rfl rfl (fun _ _ _ h => h) (by kernel_rfl) (by kernel_rfl) (by kernel_rfl) hS1 fun ac151 hf167 => ?_
            refine any_val (i := 12) (v := .bool false) hf167 rfl rfl rfl rfl rfl rfl (fun _ _ _ h => h) (by kernel_rfl) (by kernel_rfl) (by kernel_rfl) (fun wd7 hS1 => (r_pickF rfl rfl)) hS1 fun ac152 hf168 => ?_
            refine any_val (i := 13) (v := .bool false) hf168 rfl rfl rfl rfl rfl rfl (fun _ _ _ h => h) (by kernel_rfl) (by kernel_rfl) (by kernel_rfl) (fun wd7 hS1 => (r_move rfl)) hS1 fun ac153 hf169 => ?_
            refine any_skip (i := 14) hf169 rfl rfl rfl rfl (fun _ _ _ h => h) (by kernel_rfl) (by kernel_rfl) (by kernel_rfl) hS1 fun ac154 hf170 => ?_
            refine any_skip (i := 15) hf170 rfl rfl rfl rfl (fun _ _ _ h => h) (by kernel_rfl) (by kernel_rfl) (by kernel_rfl) hS1 fun ac155 hf171 => ?_
            refine any_skip (i := 16) hf171 rfl rfl rfl rfl (fun _ _ _ h => h) (by kernel_rfl) (by kernel_rfl) (by kernel_rfl) hS1 fun ac156 hf172 => ?_
            refine any_val (i := 17) (v := .bool false) hf172 rfl rfl rfl rfl rfl rfl (fun _ _ _ h => h) (by kernel_rfl) (by kernel_rfl) (by kernel_rfl) (fun wd7 hS1 => (r_pickF rfl rfl)) hS1 fun ac157 hf173 => ?_
            refine any_val (i := 18) (v := .bool false) hf173 rfl rfl rfl rfl rfl rfl (fun _ _ _ h => h) (by kernel_rfl) (by kernel_rfl) (by kernel_rfl) (fun wd7 hS1 => (r_move rfl)) hS1 fun ac158 hf174 => ?_
            refine any_skip (i := 19) hf174 rfl rfl rfl rfl (fun _ _ _ h => h) (by kernel_rfl) (by kernel_rfl) (by kernel_rfl) hS1 fun ac159 hf175 => ?_
            refine any_skip (i := 20) hf175 rfl rfl rfl rfl (fun _ _ _ h => h) (by kernel_rfl) (by kernel_rfl) (by kernel_rfl) hS1 fun ac160 hf176 => ?_
            refine any_skip (i := 21) hf176 rfl rfl rfl rfl (fun _ _ _ h => h) (by kernel_rfl) (by kernel_rfl) (by kernel_rfl) hS1 fun ac161 hf177 => ?_
            refine any_val (i := 22) (v := .bool false) hf177 rfl rfl rfl rfl rfl rfl (fun _ _ _ h => h) (by kernel_rfl) (by kernel_rfl) (by kernel_rfl) (fun wd7 hS1 => (r_pickF rfl rfl)) hS1 fun ac162 hf178 => ?_
            refine any_val (i := 23) (v := .bool false) hf178 rfl rfl rfl rfl rfl rfl (fun _ _ _ h => h) (by kernel_rfl) (by kernel_rfl) (by kernel_rfl) (fun wd7 hS1 => (r_move rfl)) hS1 fun ac163 hf179 => ?_
            refine any_skip (i := 24) hf179 rfl rfl rfl rfl (fun _ _ _ h => h) (by kernel_rfl) (by kernel_rfl) (by kernel_rfl) hS1 fun ac164 hf180 => ?_
            refine any_skip (i := 25) hf180 rfl rfl rfl rfl (fun _ _ _ h => h) (by kernel_rfl) (by kernel_rfl) (by kernel_rfl) hS1 fun ac165 hf181 => ?_
            refine any_skip (i := 26) hf181 rfl rfl rfl rfl (fun _ _ _ h => h) (by kernel_rfl) (by kernel_rfl) (by kernel_rfl) hS1 fun ac166 hf182 => ?_
            refine any_skip (i := 27) hf182 rfl rfl rfl rfl (fun _ _ _ h => h) (by kernel_rfl) (by kernel_rfl) (by kernel_rfl) hS1 fun ac167 hf183 => ?_
            refine any_skip (i := 28) hf183 rfl rfl rfl rfl (fun _ _ _ h => h) (by kernel_rfl) (by kernel_rfl) (by kernel_rfl) hS1 fun ac168 hf184 => ?_
            refine any_skip (i := 29) hf184 rfl rfl rfl rfl (fun _ _ _ h => h) (by kernel_rfl) (by kernel_rfl) (by kernel_rfl) hS1 fun ac169 hf185 => ?_
            refine any_skip (i := 30) hf185 rfl rfl rfl rfl (fun _ _ _ h => h) (by kernel_rfl) (by kernel_rfl) (by kernel_rfl) hS1 fun ac170 hf186 => ?_
            refine any_val (i := 31) (v := .bool false) hf186 rfl rfl rfl rfl rfl rfl (fun _ _ _ h => h) (by kernel_rfl) (by kernel_rfl) (by kernel_rfl) (fun wd7 hS1 => (r_pickF rfl rfl)) hS1 fun ac171 hf187 => ?_
            refine any_val (i := 32) (v := .bool false) hf187 rfl rfl rfl rfl rfl rfl (fun _ _ _ h => h) (by kernel_rfl) (by kernel_rfl) (by kernel_rfl) (fun wd7 hS1 => (r_move rfl)) hS1 fun ac172 hf188 => ?_
            refine any_skip (i := 33) hf188 rfl rfl rfl rfl (fun _ _ _ h => h) (by kernel_rfl) (by kernel_rfl) (by kernel_rfl) hS1 fun ac173 hf189 => ?_
            refine any_skip (i := 34) hf189 rfl rfl rfl rfl (fun _ _ _ h => h) (by kernel_rfl) (by kernel_rfl) (by kernel_rfl) hS1 fun ac174 hf190 => ?_
            refine any_skip (i := 35) hf190 rfl rfl rfl rfl (fun _ _ _ h => h) (by kernel_rfl) (by kernel_rfl) (by kernel_rfl) hS1 fun ac175 hf191 => ?_
            refine any_skip (i := 36) hf191 rfl rfl rfl rfl (fun _ _ _ h => h) (by kernel_rfl) (by kernel_rfl) (by kernel_rfl) hS1 fun ac176 hf192 => ?_
            refine any_skip (i := 37) hf192 rfl rfl rfl rfl (fun _ _ _ h => h) (by kernel_rfl) (by kernel_rfl) (by kernel_rfl) hS1 fun ac177 hf193 => ?_
            refine any_val (i := 38) (v := .bool false) hf193 rfl rfl rfl rfl rfl rfl (fun _ _ _ h => h) (by kernel_rfl) (by kernel_rfl) (by kernel_rfl) (fun wd7 hS1 => (r_pickF rfl rfl)) hS1 fun ac178 hf194 => ?_
            refine any_end (by kernel_rfl) ?_
            clear hI12 ac42 hf46 ac43 hf47 ac44 hf48 hf49 ac45 hf50 ac46 hf51 ac47 hf52 ac48 hf53 ac49 hf54 hf55 ac50 hf163 ac148 hf164 ac149 hf165 ac150 hf166 ac151 hf167 ac152 hf168 ac153 hf169 ac154 hf170 ac155 hf171 ac156 hf172 ac157 hf173 ac158 hf174 ac159 hf175 ac160 hf176 ac161 hf177 ac162 hf178 ac163 hf179 ac164 hf180 ac165 hf181 ac166 hf182 ac167 hf183 ac168 hf184 ac169 hf185 ac170 hf186 ac171 hf187 ac172 hf188 ac173 hf189 ac174 hf190 ac175 hf191 ac176 hf192 ac177 hf193 hS1
            refine then_normal ?_
            exact ⟨(hf194.cons 0 rfl (hf194.cons 1 rfl (hf194.cons 2 rfl (hf194.cons 3 rfl (hf194.cons 4 rfl (hf194.cons 6 rfl (hf194.cons 9 rfl (hf194.cons 10 rfl (hf194.cons 11 rfl (hf194.cons 12 rfl (hf194.cons 13 rfl (hf194.cons 14 rfl (hf194.cons 15 rfl (hf194.cons 16 rfl (hf194.cons 18 rfl (hf194.cons 19 rfl (hf194.cons 20 rfl (hf194.cons 21 rfl (hf194.cons 22 rfl (hf194.cons 23 rfl (hf194.cons 24 rfl (hf194.cons 25 rfl (hf194.cons 26 rfl (hf194.cons 27 rfl (hf194.cons 28 rfl (hf194.cons 29 rfl (hf194.cons 30 rfl (hf194.cons 31 rfl (hf194.cons 32 rfl (hf194.cons 33 rfl (hf194.cons 34 rfl (hf194.cons 35 rfl (hf194.cons 36 rfl (hf194.cons 37 rfl (hf194.cons 44 rfl (hf194.cons 45 rfl (hf194.cons 46 rfl (hf194.cons 47 rfl (hf194.cons 48 rfl (hf194.cons 49 rfl (hf194.cons 50 rfl (hf194.cons 51 rfl (hf194.cons 52 rfl (hf194.cons 91 rfl hf194.nil)))))))))))))))))))))))))))))))))))))))))))), hI13⟩
        · have hf195 := hf49.know 55 (u := .bool false) rfl (congrArg Value.bool g55_2)
          refine any_skip (i := 3) hf195 rfl rfl rfl rfl (fun _ _ _ h => h) (by kernel_rfl) (by kernel_rfl) (by kernel_rfl) hS1 fun ac179 hf196 => ?_
          refine any_skip (i := 4) hf196 rfl rfl rfl rfl (fun _ _ _ h => h) (by kernel_rfl) (by kernel_rfl) (by kernel_rfl) hS1 fun ac180 hf197 => ?_
          refine any_skip (i := 5) hf197 rfl rfl rfl rfl (fun _ _ _ h => h) (by kernel_rfl) (by kernel_rfl) (by kernel_rfl) hS1 fun ac181 hf198 => ?_
          refine any_val (i := 6) (v := .bool false) hf198 rfl rfl rfl rfl rfl rfl (fun _ _ _ h => h) (by kernel_rfl) (by kernel_rfl) (by kernel_rfl) (fun wd7 hS1 => (r_pickF rfl rfl)) hS1 fun ac182 hf199 => ?_
          refine any_val (i := 7) (v := .bool false) hf199 rfl rfl rfl rfl rfl rfl (fun _ _ _ h => h) (by kernel_rfl) (by kernel_rfl) (by kernel_rfl) (fun wd7 hS1 => (r_move rfl)) hS1 fun ac183 hf200 => ?_
          refine any_skip (i := 8) hf200 rfl rfl rfl rfl (fun _ _ _ h => h) (by kernel_rfl) (by kernel_rfl) (by kernel_rfl) hS1 fun ac184 hf201 => ?_
          refine any_skip (i := 9) hf201 rfl rfl rfl rfl (fun _ _ _ h => h) (by kernel_rfl) (by kernel_rfl) (by kernel_rfl) hS1 fun ac185 hf202 => ?_
          refine any_skip (i := 10) hf202 rfl rfl rfl rfl (fun _ _ _ h => h) (by kernel_rfl) (by kernel_rfl) (by kernel_rfl) hS1 fun ac186 hf203 => ?_
          refine any_skip (i := 11) hf203 rfl rfl rfl rfl (fun _ _ _ h => h) (by kernel_rfl) (by kernel_rfl) (by kernel_rfl) hS1 fun ac187 hf204 => ?_
          refine any_val (i := 12) (v := .bool false) hf204 rfl rfl rfl rfl rfl rfl (fun _ _ _ h => h) (by kernel_rfl) (by kernel_rfl) (by kernel_rfl) (fun wd7 hS1 => (r_pickF rfl rfl)) hS1 fun ac188 hf205 => ?_
          refine any_val (i := 13) (v := .bool false) hf205 rfl rfl rfl rfl rfl rfl (fun _ _ _ h => h) (by kernel_rfl) (by kernel_rfl) (by kernel_rfl) (fun wd7 hS1 => (r_move rfl)) hS1 fun ac189 hf206 => ?_
          refine any_skip (i := 14) hf206 rfl rfl rfl rfl (fun _ _ _ h => h) (by kernel_rfl) (by kernel_rfl) (by kernel_rfl) hS1 fun ac190 hf207 => ?_
          refine any_skip (i := 15) hf207 rfl rfl rfl rfl (fun _ _ _ h => h) (by kernel_rfl) (by kernel_rfl) (by kernel_rfl) hS1 fun ac191 hf208 => ?_
          refine any_skip (i := 16) hf208 rfl rfl rfl rfl (fun _ _ _ h => h) (by kernel_rfl) (by kernel_rfl) (by kernel_rfl) hS1 fun ac192 hf209 => ?_
          refine any_val (i := 17) (v := .bool false) hf209 rfl rfl rfl rfl rfl rfl (fun _ _ _ h => h) (by kernel_rfl) (by kernel_rfl) (by kernel_rfl) (fun wd7 hS1 => (r_pickF rfl rfl)) hS1 fun ac193 hf210 => ?_
          refine any_val (i := 18) (v := .bool false) hf210 rfl rfl rfl rfl rfl rfl (fun _ _ _ h => h) (by kernel_rfl) (by kernel_rfl) (by kernel_rfl) (fun wd7 hS1 => (r_move rfl)) hS1 fun ac194 hf211 => ?_
          refine any_skip (i := 19) hf211 rfl rfl rfl rfl (fun _ _ _ h => h) (by kernel_rfl) (by kernel_rfl) (by kernel_rfl) hS1 fun ac195 hf212 => ?_
          refine any_skip (i := 20) hf212 rfl rfl rfl rfl (fun _ _ _ h => h) (by kernel_rfl) (by kernel_rfl) (by kernel_rfl) hS1 fun ac196 hf213 => ?_
          refine any_skip (i := 21) hf213 rfl rfl rfl rfl (fun _ _ _ h => h) (by kernel_rfl) (by kernel_rfl) (by kernel_rfl) hS1 fun ac197 hf214 => ?_
          refine any_val (i := 22) (v := .bool false) hf214 rfl rfl rfl rfl rfl rfl (fun _ _ _ h => h) (by kernel_rfl) (by kernel_rfl) (by kernel_rfl) (fun wd7 hS1 => (r_pickF rfl rfl)) hS1 fun ac198 hf215 => ?_
          refine any_val (i := 23) (v := .bool false) hf215 rfl rfl rfl rfl rfl rfl (fun _ _ _ h => h) (by kernel_rfl) (by kernel_rfl) (by kernel_rfl) (fun wd7 hS1 => (r_move rfl)) hS1 fun ac199 hf216 => ?_
          refine any_skip (i := 24) hf216 rfl rfl rfl rfl (fun _ _ _ h => h) (by kernel_rfl) (by kernel_rfl) (by kernel_rfl) hS1 fun ac200 hf217 => ?_
          refine any_skip (i := 25) hf217 rfl rfl rfl rfl (fun _ _ _ h => h) (by kernel_rfl) (by kernel_rfl) (by kernel_rfl) hS1 fun ac201 hf218 => ?_
          refine any_skip (i := 26) hf218 rfl rfl rfl rfl (fun _ _ _ h => h) (by kernel_rfl) (by kernel_rfl) (by kernel_rfl) hS1 fun ac202 hf219 => ?_
          refine any_skip (i := 27) hf219 rfl rfl rfl rfl (fun _ _ _ h => h) (by kernel_rfl) (by kernel_rfl) (by kernel_rfl) hS1 fun ac203 hf220 => ?_
          refine any_skip (i := 28) hf220 rfl rfl rfl rfl (fun _ _ _ h => h) (by kernel_rfl) (by kernel_rfl) (by kernel_rfl) hS1 fun ac204 hf221 => ?_
          refine any_skip (i := 29) hf221 rfl rfl rfl rfl (fun _ _ _ h => h) (by kernel_rfl) (by kernel_rfl) (by kernel_rfl) hS1 fun ac205 hf222 => ?_
          refine any_skip (i := 30) hf222 rfl rfl rfl rfl (fun _ _ _ h => h) (by kernel_rfl) (by kernel_rfl) (by kernel_rfl) hS1 fun ac206 hf223 => ?_
          refine any_val (i := 31) (v := .bool false) hf223 rfl rfl rfl rfl rfl rfl (fun _ _ _ h => h) (by kernel_rfl) (by kernel_rfl) (by kernel_rfl) (fun wd7 hS1 => (r_pickF rfl rfl)) hS1 fun ac207 hf224 => ?_
          refine any_val (i := 32) (v := .bool false) hf224 rfl rfl rfl rfl rfl rfl (fun _ _ _ h => h) (by kernel_rfl) (by kernel_rfl) (by kernel_rfl) (fun wd7 hS1 => (r_move rfl)) hS1 fun ac208 hf225 => ?_
          refine any_skip (i := 33) hf225 rfl rfl rfl rfl (fun _ _ _ h => h) (by kernel_rfl) (by kernel_rfl) (by kernel_rfl) hS1 fun ac209 hf226 => ?_
          refine any_skip (i := 34) hf226 rfl rfl rfl rfl (fun _ _ _ h => h) (by kernel_rfl) (by kernel_rfl) (by kernel_rfl) hS1 fun ac210 hf227 => ?_
          refine any_skip (i := 35) hf227 rfl rfl rfl rfl (fun _ _ _ h => h) (by kernel_rfl) (by kernel_rfl) (by kernel_rfl) hS1 fun ac211 hf228 => ?_
          refine any_skip (i := 36) hf228 rfl rfl rfl rfl (fun _ _ _ h => h) (by kernel_rfl) (by kernel_rfl) (by kernel_rfl) hS1 fun ac212 hf229 => ?_
          refine any_skip (i := 37) hf229 rfl rfl rfl rfl (fun _ _ _ h => h) (by kernel_rfl) (by kernel_rfl) (by kernel_rfl) hS1 fun ac213 hf230 => ?_
          refine any_val (i := 38) (v := .bool false) hf230 rfl rfl rfl rfl rfl rfl (fun _ _ _ h => h) (by kernel_rfl) (by kernel_rfl) (by kernel_rfl) (fun wd7 hS1 => (r_pickF rfl rfl)) hS1 fun ac214 hf231 => ?_
          refine any_end (by kernel_rfl) ?_
          clear hI12 ac42 hf46 ac43 hf47 ac44 hf48 hf49 ac45 hf195 ac179 hf196 ac180 hf197 ac181 hf198 ac182 hf199 ac183 hf200 ac184 hf201 ac185 hf202 ac186 hf203 ac187 hf204 ac188 hf205 ac189 hf206 ac190 hf207 ac191 hf208 ac192 hf209 ac193 hf210 ac194 hf211 ac195 hf212 ac196 hf213 ac197 hf214 ac198 hf215 ac199 hf216 ac200 hf217 ac201 hf218 ac202 hf219 ac203 hf220 ac204 hf221 ac205 hf222 ac206 hf223 ac207 hf224 ac208 hf225 ac209 hf226 ac210 hf227 ac211 hf228 ac212 hf229 ac213 hf230 hS1
          refine then_normal ?_
          exact ⟨(hf231.cons 0 rfl (hf231.cons 1 rfl (hf231.cons 2 rfl (hf231.cons 3 rfl (hf231.cons 4 rfl (hf231.cons 6 rfl (hf231.cons 9 rfl (hf231.cons 10 rfl (hf231.cons 11 rfl (hf231.cons 12 rfl (hf231.cons 13 rfl (hf231.cons 14 rfl (hf231.cons 15 rfl (hf231.cons 16 rfl (hf231.cons 18 rfl (hf231.cons 19 rfl (hf231.cons 20 rfl (hf231.cons 21 rfl (hf231.cons 22 rfl (hf231.cons 23 rfl (hf231.cons 24 rfl (hf231.cons 25 rfl (hf231.cons 26 rfl (hf231.cons 27 rfl (hf231.cons 28 rfl (hf231.cons 29 rfl (hf231.cons 30 rfl (hf231.cons 31 rfl (hf231.cons 32 rfl (hf231.cons 33 rfl (hf231.cons 34 rfl (hf231.cons 35 rfl (hf231.cons 36 rfl (hf231.cons 37 rfl (hf231.cons 44 rfl (hf231.cons 45 rfl (hf231.cons 46 rfl (hf231.cons 47 rfl (hf231.cons 48 rfl (hf231.cons 49 rfl (hf231.cons 50 rfl (hf231.cons 51 rfl (hf231.cons 52 rfl (hf231.cons 91 rfl hf231.nil)))))))))))))))))))))))))))))))))))))))))))), hI13⟩
      ·
        intro ac215 wd9 hf232 hI15
        clear ac42 wd7 hf46 hI12
        refine then_normal ?_
        refine code_if_false hf232 rfl ?_
        refine wp_skip ?_
        refine block_normal ?_
        refine then_normal ?_
        refine seq_start (l := [0, 1]) rfl ?_
        refine seq_one (op_val (v := .int .i64 1) hf232 rfl rfl rfl rfl rfl rfl (r_add (c := 1) rfl rfl (by rfl)) fun ac216 hf233 => ?_)
        refine seq_one (op_val (v := .int .i64 1) hf233 rfl rfl rfl rfl rfl rfl (r_move rfl) fun ac217 hf234 => ?_)
        refine seq_end ?_
        clear ac215 hf232 ac216 hf233
        refine then_normal ?_
        refine rounds_go ?_
        refine code_seq ?_
        refine seq_start (l := [0]) rfl ?_
        refine seq_one (op_val (v := .bool true) hf234 rfl rfl rfl rfl rfl rfl (r_lssC rfl rfl (by decide)) fun ac218 hf235 => ?_)
        refine seq_end ?_
        clear ac217 hf234
        refine then_normal ?_
        refine code_seq ?_
        refine code_if_true hf235 rfl ?_
        refine wp_skip ?_
        refine then_normal ?_
        refine code_seq ?_
        refine wp_block ?_
        refine code_seq ?_
        refine seq_start (l := [0, 1]) rfl ?_
        refine seq_one (op_val (v := .int .i64 1) hf235 rfl rfl rfl rfl rfl rfl (r_move rfl) fun ac219 hf236 => ?_)
        refine seq_one (op_val (v := .int .i64 1) hf236 rfl rfl rfl rfl rfl rfl (r_assign rfl) fun ac220 hf237 => ?_)
        refine seq_end ?_
        clear ac218 hf235 ac219 hf236
        refine then_normal ?_
        refine code_seq ?_
        refine code_join 116 ([(0, .agg #[.int .u32 x0, .int .u32 x1, .int .u32 x2]), (1, .slice p L cap), (2, .agg #[.bool g0, .bool g1, .bool g2]), (3, .slice q ys.length caq), (4, .pointer (some ⟨b1, 0, none⟩)), (6, .pointer (some ⟨b2, 0, none⟩)), (9, .pointer (some ⟨b3, 0, none⟩)), (10, .bool true), (11, .pointer (some ⟨b4, 0, none⟩)), (12, .int .i64 bf), (13, .int .i64 (i : Int)), (14, .int .i64 d_5), (15, .bool true), (16, .int .i64 1), (18, .tuple #[.pointer (some ⟨b3, 0, none⟩), .bool true]), (19, .agg #[.int .u32 x0, .int .u32 x1, .int .u32 x2]), (20, .slice p L cap), (21, .tuple #[.pointer (some ⟨b3, 0, none⟩), .bool true]), (22, .pointer (some ⟨b3, 0, none⟩)), (23, .bool true), (24, .bool true), (25, .bool false), (26, .agg #[.int .i64 (-1), .int .i64 (-1), .int .i64 (-1)]), (27, .int .i64 (i : Int)), (28, .bool true), (29, .int .i64 (i : Int)), (30, .tuple #[.int .i64 d_5, .bool true]), (31, .pointer (some ⟨b3, 0, none⟩)), (32, .agg #[.bool g0, .bool g1, .bool g2]), (33, .tuple #[.int .i64 d_5, .bool true]), (34, .int .i64 d_5), (35, .bool true), (36, .bool true), (37, .bool false), (44, .int .i64 d_5), (45, .bool (decide (d_5 < 0))), (46, .bool false), (47, .int .i64 d_5), (48, .bool (decide (d_5 > 2))), (49, .bool false), (50, .int .i64 1), (51, .bool true), (52, .int .i64 1), (92, .int .i64 1), (91, .bool false)]) (fun w' => Inv w [(b1, #[.int .u32 x0, .int .u32 x1, .int .u32 x2], 47), (b2, #[.bool g0, .bool g1, .bool g2], 33), (b3, #[.int .i64 w0, .int .i64 w1, .int .i64 w2, .int .i64 a_5, .int .i64 b_5, .int .i64 c_5, .int .i64 d_5], 58), (b4, #[.int .i64 l0, .int .i64 l1, .int .i64 l2], 22)] w') ?_ ?_
        ·
          refine any_start (fun w => Has [(b2, #[.bool g0, .bool g1, .bool g2], 33), (b4, #[.int .i64 l0, .int .i64 l1, .int .i64 l2], 22)] w) follows (Has.drew (Has.cons (hI15.at 1 rfl) (Has.cons (hI15.at 3 rfl) Has.nil))) ?_
          have hS3 : Has [(b2, #[.bool g0, .bool g1, .bool g2], 33), (b4, #[.int .i64 l0, .int .i64 l1, .int .i64 l2], 22)] _ := Has.drew (Has.cons (hI15.at 1 rfl) (Has.cons (hI15.at 3 rfl) Has.nil))
          have hI16 := hI15.drew
          refine any_val (i := 0) (v := .int .i64 bf) hf237 rfl rfl rfl rfl rfl rfl (fun _ _ _ h => h) (by kernel_rfl) (by kernel_rfl) (by kernel_rfl) (fun wd9 hS3 => (r_move rfl)) hS3 fun ac221 hf238 => ?_
          refine any_val (i := 1) (v := .bool (decide (bf ≥ 0))) hf238 rfl rfl rfl rfl rfl rfl (fun _ _ _ h => h) (by kernel_rfl) (by kernel_rfl) (by kernel_rfl) (fun wd9 hS3 => (r_geq rfl rfl)) hS3 fun ac222 hf239 => ?_
          refine any_val (i := 2) (v := .bool (decide (bf ≥ 0))) hf239 rfl rfl rfl rfl rfl rfl (fun _ _ _ h => h) (by kernel_rfl) (by kernel_rfl) (by kernel_rfl) (fun wd9 hS3 => (r_move rfl)) hS3 fun ac223 hf240 => ?_
          rcases Bool.eq_false_or_eq_true (decide (bf ≥ 0) : Bool) with g55_8 | g55_8
          · have hf241 := hf240.know 55 (u := .bool true) rfl (congrArg Value.bool g55_8)
            refine any_val (i := 3) (v := .int .i64 d_5) hf241 rfl rfl rfl rfl rfl rfl (fun _ _ _ h => h) (by kernel_rfl) (by kernel_rfl) (by kernel_rfl) (fun wd9 hS3 => (r_move rfl)) hS3 fun ac224 hf242 => ?_
            refine any_val (i := 4) (v := .int .i64 bf) hf242 rfl rfl rfl rfl rfl rfl (fun _ _ _ h => h) (by kernel_rfl) (by kernel_rfl) (by kernel_rfl) (fun wd9 hS3 => (r_move rfl)) hS3 fun ac225 hf243 => ?_
            refine any_val (i := 5) (v := .bool (d_5 != bf)) hf243 rfl rfl rfl rfl rfl rfl (fun _ _ _ h => h) (by kernel_rfl) (by kernel_rfl) (by kernel_rfl) (fun wd9 hS3 => (r_neq rfl rfl)) hS3 fun ac226 hf244 => ?_
            refine any_val (i := 6) (v := .bool (d_5 != bf)) hf244 rfl rfl rfl rfl rfl rfl (fun _ _ _ h => h) (by kernel_rfl) (by kernel_rfl) (by kernel_rfl) (fun wd9 hS3 => (r_pickT rfl rfl)) hS3 fun ac227 hf245 => ?_
            refine any_val (i := 7) (v := .bool (d_5 != bf)) hf245 rfl rfl rfl rfl rfl rfl (fun _ _ _ h => h) (by kernel_rfl) (by kernel_rfl) (by kernel_rfl) (fun wd9 hS3 => (r_move rfl)) hS3 fun ac228 hf246 => ?_
            rcases Bool.eq_false_or_eq_true (d_5 != bf : Bool) with g60_9 | g60_9
            · have hf247 := hf246.know 60 (u := .bool true) rfl (congrArg Value.bool g60_9)
              refine any_val (i := 8) (v := .int .i64 d_5) hf247 rfl rfl rfl rfl rfl rfl (fun _ _ _ h => h) (by kernel_rfl) (by kernel_rfl) (by kernel_rfl) (fun wd9 hS3 => (r_move rfl)) hS3 fun ac229 hf248 => ?_
              refine any_val (i := 9) (v := .pointer (some ⟨b4, 0 + d_5.toNat, none⟩)) hf248 rfl rfl rfl rfl rfl rfl (fun _ _ _ h => h) (by kernel_rfl) (by kernel_rfl) (by kernel_rfl) (fun wd9 hS3 => (r_indexAddr (i := d_5.toNat) ar_22 rfl rfl (idx3 hk5.now).1 (idx3 hk5.now).2 (by rw [Nat.mul_one]))) hS3 fun ac230 hf249 => ?_
              refine any_val (i := 10) (v := .int .i64 (sel3 d_5 l0 l1 l2)) hf249 rfl rfl rfl rfl rfl rfl (fun _ _ _ h => h) (by kernel_rfl) (by kernel_rfl) (by kernel_rfl) (fun wd9 hS3 => (r_load ag_3 rfl (hS3.at 1 rfl) (by rcases hk5.now with h | h | h <;> rw [h] <;> rfl))) hS3 fun ac231 hf250 => ?_
              refine any_val (i := 11) (v := .bool (decide ((sel3 d_5 l0 l1 l2) ≥ 0))) hf250 rfl rfl rfl rfl rfl rfl (fun _ _ _ h => h) (by kernel_rfl) (by kernel_rfl) (by kernel_rfl) (fun wd9 hS3 => (r_geq rfl rfl)) hS3 fun ac232 hf251 => ?_
              refine any_val (i := 12) (v := .bool (decide ((sel3 d_5 l0 l1 l2) ≥ 0))) hf251 rfl rfl rfl rfl rfl rfl (fun _ _ _ h => h) (by kernel_rfl) (by kernel_rfl) (by kernel_rfl) (fun wd9 hS3 => (r_pickT rfl rfl)) hS3 fun ac233 hf252 => ?_
              refine any_val (i := 13) (v := .bool (decide ((sel3 d_5 l0 l1 l2) ≥ 0))) hf252 rfl rfl rfl rfl rfl rfl (fun _ _ _ h => h) (by kernel_rfl) (by kernel_rfl) (by kernel_rfl) (fun wd9 hS3 => (r_move rfl)) hS3 fun ac234 hf253 => ?_
              rcases Bool.eq_false_or_eq_true (decide ((sel3 d_5 l0 l1 l2) ≥ 0) : Bool) with g66_10 | g66_10
              · have hf254 := hf253.know 66 (u := .bool true) rfl (congrArg Value.bool g66_10)
                refine any_val (i := 14) (v := .int .i64 1) hf254 rfl rfl rfl rfl rfl rfl (fun _ _ _ h => h) (by kernel_rfl) (by kernel_rfl) (by kernel_rfl) (fun wd9 hS3 => (r_move rfl)) hS3 fun ac235 hf255 => ?_
                refine any_val (i := 15) (v := .pointer (some ⟨b2, 1, none⟩)) hf255 rfl rfl rfl rfl rfl rfl (fun _ _ _ h => h) (by kernel_rfl) (by kernel_rfl) (by kernel_rfl) (fun wd9 hS3 => (r_indexAddr (i := 1) ar_33 rfl rfl rfl (by decide) rfl)) hS3 fun ac236 hf256 => ?_
                refine any_val (i := 16) (v := .bool g1) hf256 rfl rfl rfl rfl rfl rfl (fun _ _ _ h => h) (by kernel_rfl) (by kernel_rfl) (by kernel_rfl) (fun wd9 hS3 => (r_load ag_4 rfl (hS3.at 0 rfl) rfl)) hS3 fun ac237 hf257 => ?_
                refine any_val (i := 17) (v := .bool g1) hf257 rfl rfl rfl rfl rfl rfl (fun _ _ _ h => h) (by kernel_rfl) (by kernel_rfl) (by kernel_rfl) (fun wd9 hS3 => (r_pickT rfl rfl)) hS3 fun ac238 hf258 => ?_
                refine any_val (i := 18) (v := .bool g1) hf258 rfl rfl rfl rfl rfl rfl (fun _ _ _ h => h) (by kernel_rfl) (by kernel_rfl) (by kernel_rfl) (fun wd9 hS3 => (r_move rfl)) hS3 fun ac239 hf259 => ?_
                rcases Bool.eq_false_or_eq_true (g1 : Bool) with g71_11 | g71_11
                · have hf260 := hf259.know 71 (u := .bool true) rfl (congrArg Value.bool g71_11)
                  refine any_val (i := 19) (v := .int .i64 1) hf260 rfl rfl rfl rfl rfl rfl (fun _ _ _ h => h) (by kernel_rfl) (by kernel_rfl) (by kernel_rfl) (fun wd9 hS3 => (r_move rfl)) hS3 fun ac240 hf261 => ?_
                  refine any_val (i := 20) (v := .int .i64 d_5) hf261 rfl rfl rfl rfl rfl rfl (fun _ _ _ h => h) (by kernel_rfl) (by kernel_rfl) (by kernel_rfl) (fun wd9 hS3 => (r_move rfl)) hS3 fun ac241 hf262 => ?_
                  refine any_val (i := 21) (v := .bool (1 != d_5)) hf262 rfl rfl rfl rfl rfl rfl (fun _ _ _ h => h) (by kernel_rfl) (by kernel_rfl) (by kernel_rfl) (fun wd9 hS3 => (r_neq rfl rfl)) hS3 fun ac242 hf263 => ?_
                  refine any_val (i := 22) (v := .bool (1 != d_5)) hf263 rfl rfl rfl rfl rfl rfl (fun _ _ _ h => h) (by kernel_rfl) (by kernel_rfl) (by kernel_rfl) (fun wd9 hS3 => (r_pickT rfl rfl)) hS3 fun ac243 hf264 => ?_
                  refine any_val (i := 23) (v := .bool (1 != d_5)) hf264 rfl rfl rfl rfl rfl rfl (fun _ _ _ h => h) (by kernel_rfl) (by kernel_rfl) (by kernel_rfl) (fun wd9 hS3 => (r_move rfl)) hS3 fun ac244 hf265 => ?_
                  rcases Bool.eq_false_or_eq_true (1 != d_5 : Bool) with g76_12 | g76_12
                  · have hf266 := hf265.know 76 (u := .bool true) rfl (congrArg Value.bool g76_12)
                    refine any_val (i := 24) (v := .int .i64 1) hf266 rfl rfl rfl rfl rfl rfl (fun _ _ _ h => h) (by kernel_rfl) (by kernel_rfl) (by kernel_rfl) (fun wd9 hS3 => (r_move rfl)) hS3 fun ac245 hf267 => ?_
                    refine any_val (i := 25) (v := .pointer (some ⟨b4, 1, none⟩)) hf267 rfl rfl rfl rfl rfl rfl (fun _ _ _ h => h) (by kernel_rfl) (by kernel_rfl) (by kernel_rfl) (fun wd9 hS3 => (r_indexAddr (i := 1) ar_22 rfl rfl rfl (by decide) rfl)) hS3 fun ac246 hf268 => ?_
                    refine any_val (i := 26) (v := .int .i64 l1) hf268 rfl rfl rfl rfl rfl rfl (fun _ _ _ h => h) (by kernel_rfl) (by kernel_rfl) (by kernel_rfl) (fun wd9 hS3 => (r_load ag_3 rfl (hS3.at 1 rfl) rfl)) hS3 fun ac247 hf269 => ?_
                    refine any_val (i := 27) (v := .int .i64 d_5) hf269 rfl rfl rfl rfl rfl rfl (fun _ _ _ h => h) (by kernel_rfl) (by kernel_rfl) (by kernel_rfl) (fun wd9 hS3 => (r_move rfl)) hS3 fun ac248 hf270 => ?_
                    refine any_val (i := 28) (v := .pointer (some ⟨b4, 0 + d_5.toNat, none⟩)) hf270 rfl rfl rfl rfl rfl rfl (fun _ _ _ h => h) (by kernel_rfl) (by kernel_rfl) (by kernel_rfl) (fun wd9 hS3 => (r_indexAddr (i := d_5.toNat) ar_22 rfl rfl (idx3 hk5.now).1 (idx3 hk5.now).2 (by rw [Nat.mul_one]))) hS3 fun ac249 hf271 => ?_
                    refine any_val (i := 29) (v := .int .i64 (sel3 d_5 l0 l1 l2)) hf271 rfl rfl rfl rfl rfl rfl (fun _ _ _ h => h) (by kernel_rfl) (by kernel_rfl) (by kernel_rfl) (fun wd9 hS3 => (r_load ag_3 rfl (hS3.at 1 rfl) (by rcases hk5.now with h | h | h <;> rw [h] <;> rfl))) hS3 fun ac250 hf272 => ?_
                    refine any_val (i := 30) (v := .bool (decide (l1 < (sel3 d_5 l0 l1 l2)))) hf272 rfl rfl rfl rfl rfl rfl (fun _ _ _ h => h) (by kernel_rfl) (by kernel_rfl) (by kernel_rfl) (fun wd9 hS3 => (r_lss rfl rfl)) hS3 fun ac251 hf273 => ?_
                    refine any_val (i := 31) (v := .bool (decide (l1 < (sel3 d_5 l0 l1 l2)))) hf273 rfl rfl rfl rfl rfl rfl (fun _ _ _ h => h) (by kernel_rfl) (by kernel_rfl) (by kernel_rfl) (fun wd9 hS3 => (r_pickT rfl rfl)) hS3 fun ac252 hf274 => ?_
                    refine any_val (i := 32) (v := .bool (decide (l1 < (sel3 d_5 l0 l1 l2)))) hf274 rfl rfl rfl rfl rfl rfl (fun _ _ _ h => h) (by kernel_rfl) (by kernel_rfl) (by kernel_rfl) (fun wd9 hS3 => (r_move rfl)) hS3 fun ac253 hf275 => ?_
                    rcases Bool.eq_false_or_eq_true (decide (l1 < (sel3 d_5 l0 l1 l2)) : Bool) with g85_13 | g85_13
                    · have hf276 := hf275.know 85 (u := .bool true) rfl (congrArg Value.bool g85_13)
                      refine any_val (i := 33) (v := .pointer (some ⟨b3, 0, none⟩)) hf276 rfl rfl rfl rfl rfl rfl (fun _ _ _ h => h) (by kernel_rfl) (by kernel_rfl) (by kernel_rfl) (fun wd9 hS3 => (r_move rfl)) hS3 fun ac254 hf277 => ?_
                      refine any_val (i := 35) (v := .int .i64 1) hf277 rfl rfl rfl rfl rfl rfl (fun _ _ _ h => h) (by kernel_rfl) (by kernel_rfl) (by kernel_rfl) (fun wd9 hS3 => (r_move rfl)) hS3 fun ac255 hf278 => ?_
                      refine any_one (i := 34) (by kernel_rfl) ?_
                      refine (op_pureW hf278 rfl rfl rfl rfl ca_17 (credits_walk w0 w1 w2 a_5 b_5 c_5 d_5 hd.v.ne b3 _ (Has.cons (hI16.at 2 rfl) Has.nil)) hI16 fun ac256 wd10 hI17 hf279 => ⟨?_, ?_⟩)
                      · exact (Has.cons (hI17.at 1 rfl) (Has.cons (hI17.at 3 rfl) Has.nil))
                      have hS4 : Has [(b2, #[.bool g0, .bool g1, .bool g2], 33), (b4, #[.int .i64 l0, .int .i64 l1, .int .i64 l2], 22)] _ := (Has.cons (hI17.at 1 rfl) (Has.cons (hI17.at 3 rfl) Has.nil))
                      refine any_val (i := 36) (v := .int .i64 b_5) hf279 rfl rfl rfl rfl rfl rfl (fun _ _ _ h => h) (by kernel_rfl) (by kernel_rfl) (by kernel_rfl) (fun wd10 hS4 => (r_index (i := 1) ar_22 ag_3 rfl rfl rfl (by decide) rfl)) hS4 fun ac257 hf280 => ?_
                      refine any_val (i := 37) (v := .bool (decide (b_5 > 0))) hf280 rfl rfl rfl rfl rfl rfl (fun _ _ _ h => h) (by kernel_rfl) (by kernel_rfl) (by kernel_rfl) (fun wd10 hS4 => (r_gtr rfl rfl)) hS4 fun ac258 hf281 => ?_
                      refine any_val (i := 38) (v := .bool (decide (b_5 > 0))) hf281 rfl rfl rfl rfl rfl rfl (fun _ _ _ h => h) (by kernel_rfl) (by kernel_rfl) (by kernel_rfl) (fun wd10 hS4 => (r_pickT rfl rfl)) hS4 fun ac259 hf282 => ?_
                      refine any_end (by kernel_rfl) ?_
                      clear hI15 ac220 hf237 ac221 hf238 ac222 hf239 hf240 ac223 hf241 ac224 hf242 ac225 hf243 ac226 hf244 ac227 hf245 hf246 ac228 hf247 ac229 hf248 ac230 hf249 ac231 hf250 ac232 hf251 ac233 hf252 hf253 ac234 hf254 ac235 hf255 ac236 hf256 ac237 hf257 ac238 hf258 hf259 ac239 hf260 ac240 hf261 ac241 hf262 ac242 hf263 ac243 hf264 hf265 ac244 hf266 ac245 hf267 ac246 hf268 ac247 hf269 ac248 hf270 ac249 hf271 ac250 hf272 ac251 hf273 ac252 hf274 hf275 ac253 hf276 ac254 hf277 ac255 wd9 hI16 hf278 hS3 ac256 hf279 ac257 hf280 ac258 hf281 hS4
                      refine then_normal ?_
                      have hf283 := hf282.know 91 (u := .bool false) rfl (congrArg Value.bool (decide_eq_false (Int.not_lt.2 (hx1.check hd.v ha he5 (x := 1) (.inr (.inl rfl)) (of_decide_eq_true g55_8) (bne_iff_ne.1 g60_9) (of_decide_eq_true g66_10) g71_11 (bne_iff_ne.1 g76_12) (of_decide_eq_true g85_13)))))
                      clear hf282
                      exact ⟨(hf283.cons 0 rfl (hf283.cons 1 rfl (hf283.cons 2 rfl (hf283.cons 3 rfl (hf283.cons 4 rfl (hf283.cons 6 rfl (hf283.cons 9 rfl (hf283.cons 10 rfl (hf283.cons 11 rfl (hf283.cons 12 rfl (hf283.cons 13 rfl (hf283.cons 14 rfl (hf283.cons 15 rfl (hf283.cons 16 rfl (hf283.cons 18 rfl (hf283.cons 19 rfl (hf283.cons 20 rfl (hf283.cons 21 rfl (hf283.cons 22 rfl (hf283.cons 23 rfl (hf283.cons 24 rfl (hf283.cons 25 rfl (hf283.cons 26 rfl (hf283.cons 27 rfl (hf283.cons 28 rfl (hf283.cons 29 rfl (hf283.cons 30 rfl (hf283.cons 31 rfl (hf283.cons 32 rfl (hf283.cons 33 rfl (hf283.cons 34 rfl (hf283.cons 35 rfl (hf283.cons 36 rfl (hf283.cons 37 rfl (hf283.cons 44 rfl (hf283.cons 45 rfl (hf283.cons 46 rfl (hf283.cons 47 rfl (hf283.cons 48 rfl (hf283.cons 49 rfl (hf283.cons 50 rfl (hf283.cons 51 rfl (hf283.cons 52 rfl (hf283.cons 92 rfl (hf283.cons 91 rfl hf283.nil))))))))))))))))))))))))))))))))))))))))))))), hI17⟩
                    · have hf284 := hf275.know 85 (u := .bool false) rfl (congrArg Value.bool g85_13)
                      refine any_skip (i := 33) hf284 rfl rfl rfl rfl (fun _ _ _ h => h) (by kernel_rfl) (by kernel_rfl) (by kernel_rfl) hS3 fun ac260 hf285 => ?_
                      refine any_skip (i := 34) hf285 rfl rfl rfl rfl (fun _ _ _ h => h) (by kernel_rfl) (by kernel_rfl) (by kernel_rfl) hS3 fun ac261 hf286 => ?_
                      refine any_skip (i := 35) hf286 rfl rfl rfl rfl (fun _ _ _ h => h) (by kernel_rfl) (by kernel_rfl) (by kernel_rfl) hS3 fun ac262 hf287 => ?_
                      refine any_skip (i := 36) hf287 rfl rfl rfl rfl (fun _ _ _ h => h) (by kernel_rfl) (by kernel_rfl) (by kernel_rfl) hS3 fun ac263 hf288 => ?_
                      refine any_skip (i := 37) hf288 rfl rfl rfl rfl (fun _ _ _ h => h) (by kernel_rfl) (by kernel_rfl) (by kernel_rfl) hS3 fun ac264 hf289 => ?_
                      refine any_val (i := 38) (v := .bool false) hf289 rfl rfl rfl rfl rfl rfl (fun _ _ _ h => h) (by kernel_rfl) (by kernel_rfl) (by kernel_rfl) (fun wd9 hS3 => (r_pickF rfl rfl)) hS3 fun ac265 hf290 => ?_
                      refine any_end (by kernel_rfl) ?_
                      clear hI15 ac220 hf237 ac221 hf238 ac222 hf239 hf240 ac223 hf241 ac224 hf242 ac225 hf243 ac226 hf244 ac227 hf245 hf246 ac228 hf247 ac229 hf248 ac230 hf249 ac231 hf250 ac232 hf251 ac233 hf252 hf253 ac234 hf254 ac235 hf255 ac236 hf256 ac237 hf257 ac238 hf258 hf259 ac239 hf260 ac240 hf261 ac241 hf262 ac242 hf263 ac243 hf264 hf265 ac244 hf266 ac245 hf267 ac246 hf268 ac247 hf269 ac248 hf270 ac249 hf271 ac250 hf272 ac251 hf273 ac252 hf274 hf275 ac253 hf284 ac260 hf285 ac261 hf286 ac262 hf287 ac263 hf288 ac264 hf289 hS3
                      refine then_normal ?_
                      exact ⟨(hf290.cons 0 rfl (hf290.cons 1 rfl (hf290.cons 2 rfl (hf290.cons 3 rfl (hf290.cons 4 rfl (hf290.cons 6 rfl (hf290.cons 9 rfl (hf290.cons 10 rfl (hf290.cons 11 rfl (hf290.cons 12 rfl (hf290.cons 13 rfl (hf290.cons 14 rfl (hf290.cons 15 rfl (hf290.cons 16 rfl (hf290.cons 18 rfl (hf290.cons 19 rfl (hf290.cons 20 rfl (hf290.cons 21 rfl (hf290.cons 22 rfl (hf290.cons 23 rfl (hf290.cons 24 rfl (hf290.cons 25 rfl (hf290.cons 26 rfl (hf290.cons 27 rfl (hf290.cons 28 rfl (hf290.cons 29 rfl (hf290.cons 30 rfl (hf290.cons 31 rfl (hf290.cons 32 rfl (hf290.cons 33 rfl (hf290.cons 34 rfl (hf290.cons 35 rfl (hf290.cons 36 rfl (hf290.cons 37 rfl (hf290.cons 44 rfl (hf290.cons 45 rfl (hf290.cons 46 rfl (hf290.cons 47 rfl (hf290.cons 48 rfl (hf290.cons 49 rfl (hf290.cons 50 rfl (hf290.cons 51 rfl (hf290.cons 52 rfl (hf290.cons 92 rfl (hf290.cons 91 rfl hf290.nil))))))))))))))))))))))))))))))))))))))))))))), hI16⟩
                  · have hf291 := hf265.know 76 (u := .bool false) rfl (congrArg Value.bool g76_12)
                    refine any_skip (i := 24) hf291 rfl rfl rfl rfl (fun _ _ _ h => h) (by kernel_rfl) (by kernel_rfl) (by kernel_rfl) hS3 fun ac266 hf292 => ?_
                    refine any_skip (i := 25) hf292 rfl rfl rfl rfl (fun _ _ _ h => h) (by kernel_rfl) (by kernel_rfl) (by kernel_rfl) hS3 fun ac267 hf293 => ?_
                    refine any_skip (i := 26) hf293 rfl rfl rfl rfl (fun _ _ _ h => h) (by kernel_rfl) (by kernel_rfl) (by kernel_rfl) hS3 fun ac268 hf294 => ?_
                    refine any_skip (i := 27) hf294 rfl rfl rfl rfl (fun _ _ _ h => h) (by kernel_rfl) (by kernel_rfl) (by kernel_rfl) hS3 fun ac269 hf295 => ?_
                    refine any_skip (i := 28) hf295 rfl rfl rfl rfl (fun _ _ _ h => h) (by kernel_rfl) (by kernel_rfl) (by kernel_rfl) hS3 fun ac270 hf296 => ?_
                    refine any_skip (i := 29) hf296 rfl rfl rfl rfl (fun _ _ _ h => h) (by kernel_rfl) (by kernel_rfl) (by kernel_rfl) hS3 fun ac271 hf297 => ?_
                    refine any_skip (i := 30) hf297 rfl rfl rfl rfl (fun _ _ _ h => h) (by kernel_rfl) (by kernel_rfl) (by kernel_rfl) hS3 fun ac272 hf298 => ?_
                    refine any_val (i := 31) (v := .bool false) hf298 rfl rfl rfl rfl rfl rfl (fun _ _ _ h => h) (by kernel_rfl) (by kernel_rfl) (by kernel_rfl) (fun wd9 hS3 => (r_pickF rfl rfl)) hS3 fun ac273 hf299 => ?_
                    refine any_val (i := 32) (v := .bool false) hf299 rfl rfl rfl rfl rfl rfl (fun _ _ _ h => h) (by kernel_rfl) (by kernel_rfl) (by kernel_rfl) (fun wd9 hS3 => (r_move rfl)) hS3 fun ac274 hf300 => ?_
                    refine any_skip (i := 33) hf300 rfl rfl rfl rfl (fun _ _ _ h => h) (by kernel_rfl) (by kernel_rfl) (by kernel_rfl) hS3 fun ac275 hf301 => ?_
                    refine any_skip (i := 34) hf301 rfl rfl rfl rfl (fun _ _ _ h => h) (by kernel_rfl) (by kernel_rfl) (by kernel_rfl) hS3 fun ac276 hf302 => ?_
                    refine any_skip (i := 35) hf302 rfl rfl rfl rfl (fun _ _ _ h => h) (by kernel_rfl) (by kernel_rfl) (by kernel_rfl) hS3 fun ac277 hf303 => ?_
                    refine any_skip (i := 36) hf303 rfl rfl rfl rfl (fun _ _ _ h => h) (by kernel_rfl) (by kernel_rfl) (by kernel_rfl) hS3 fun ac278 hf304 => ?_
                    refine any_skip (i := 37) hf304 rfl rfl rfl rfl (fun _ _ _ h => h) (by kernel_rfl) (by kernel_rfl) (by kernel_rfl) hS3 fun ac279 hf305 => ?_
                    refine any_val (i := 38) (v := .bool false) hf305 rfl rfl rfl rfl rfl rfl (fun _ _ _ h => h) (by kernel_rfl) (by kernel_rfl) (by kernel_rfl) (fun wd9 hS3 => (r_pickF rfl rfl)) hS3 fun ac280 hf306 => ?_
                    refine any_end (by kernel_rfl) ?_
                    clear hI15 ac220 hf237 ac221 hf238 ac222 hf239 hf240 ac223 hf241 ac224 hf242 ac225 hf243 ac226 hf244 ac227 hf245 hf246 ac228 hf247 ac229 hf248 ac230 hf249 ac231 hf250 ac232 hf251 ac233 hf252 hf253 ac234 hf254 ac235 hf255 ac236 hf256 ac237 hf257 ac238 hf258 hf259 ac239 hf260 ac240 hf261 ac241 hf262 ac242 hf263 ac243 hf264 hf265 ac244 hf291 ac266 hf292 ac267 hf293 ac268 hf294 ac269 hf295 ac270 hf296 ac271 hf297 ac272 hf298 ac273 hf299 ac274 hf300 ac275 hf301 ac276 hf302 ac277 hf303 ac278 hf304 ac279 hf305 hS3
                    refine then_normal ?_
                    exact ⟨(hf306.cons 0 rfl (hf306.cons 1 rfl (hf306.cons 2 rfl (hf306.cons 3 rfl (hf306.cons 4 rfl (hf306.cons 6 rfl (hf306.cons 9 rfl (hf306.cons 10 rfl (hf306.cons 11 rfl (hf306.cons 12 rfl (hf306.cons 13 rfl (hf306.cons 14 rfl (hf306.cons 15 rfl (hf306.cons 16 rfl (hf306.cons 18 rfl (hf306.cons 19 rfl (hf306.cons 20 rfl (hf306.cons 21 rfl (hf306.cons 22 rfl (hf306.cons 23 rfl (hf306.cons 24 rfl (hf306.cons 25 rfl (hf306.cons 26 rfl (hf306.cons 27 rfl (hf306.cons 28 rfl (hf306.cons 29 rfl (hf306.cons 30 rfl (hf306.cons 31 rfl (hf306.cons 32 rfl (hf306.cons 33 rfl (hf306.cons 34 rfl (hf306.cons 35 rfl (hf306.cons 36 rfl (hf306.cons 37 rfl (hf306.cons 44 rfl (hf306.cons 45 rfl (hf306.cons 46 rfl (hf306.cons 47 rfl (hf306.cons 48 rfl (hf306.cons 49 rfl (hf306.cons 50 rfl (hf306.cons 51 rfl (hf306.cons 52 rfl (hf306.cons 92 rfl (hf306.cons 91 rfl hf306.nil))))))))))))))))))))))))))))))))))))))))))))), hI16⟩
                · have hf307 := hf259.know 71 (u := .bool false) rfl (congrArg Value.bool g71_11)
                  refine any_skip (i := 19) hf307 rfl rfl rfl rfl (fun _ _ _ h => h) (by kernel_rfl) (by kernel_rfl) (by kernel_rfl) hS3 fun ac281 hf308 => ?_
                  refine any_skip (i := 20) hf308 rfl rfl rfl rfl (fun _ _ _ h => h) (by kernel_rfl) (by kernel_rfl) (by kernel_rfl) hS3 fun ac282 hf309 => ?_
                  refine any_skip (i := 21) hf309 rfl rfl rfl rfl (fun _ _ _ h => h) (by kernel_rfl) (by kernel_rfl) (by kernel_rfl) hS3 fun ac283 hf310 => ?_
                  refine any_val (i := 22) (v := .bool false) hf310 rfl rfl rfl rfl rfl rfl (fun _ _ _ h => h) (by kernel_rfl) (by kernel_rfl) (by kernel_rfl) (fun wd9 hS3 => (r_pickF rfl rfl)) hS3 fun ac284 hf311 => ?_
                  refine any_val (i := 23) (v := .bool false) hf311 rfl rfl rfl rfl rfl rfl (fun _ _ _ h => h) (by kernel_rfl) (by kernel_rfl) (by kernel_rfl) (fun wd9 hS3 => (r_move rfl)) hS3 fun ac285 hf312 => ?_
                  refine any_skip (i := 24) hf312 rfl rfl rfl rfl (fun _ _ _ h => h) (by kernel_rfl) (by kernel_rfl) (by kernel_rfl) hS3 fun ac286 hf313 => ?_
                  refine any_skip (i := 25) hf313 rfl rfl rfl rfl (fun _ _ _ h => h) (by kernel_rfl) (by kernel_rfl) (by kernel_rfl) hS3 fun ac287 hf314 => ?_
                  refine any_skip (i := 26) hf314 rfl rfl rfl rfl (fun _ _ _ h => h) (by kernel_rfl) (by kernel_rfl) (by kernel_rfl) hS3 fun ac288 hf315 => ?_
                  refine any_skip (i := 27) hf315 rfl rfl rfl rfl (fun _ _ _ h => h) (by kernel_rfl) (by kernel_rfl) (by kernel_rfl) hS3 fun ac289 hf316 => ?_
                  refine any_skip (i := 28) hf316 rfl rfl rfl rfl (fun _ _ _ h => h) (by kernel_rfl) (by kernel_rfl) (by kernel_rfl) hS3 fun ac290 hf317 => ?_
                  refine any_skip (i := 29) hf317 rfl rfl rfl rfl (fun _ _ _ h => h) (by kernel_rfl) (by kernel_rfl) (by kernel_rfl) hS3 fun ac291 hf318 => ?_
                  refine any_skip (i := 30) hf318 rfl rfl rfl rfl (fun _ _ _ h => h) (by kernel_rfl) (by kernel_rfl) (by kernel_rfl) hS3 fun ac292 hf319 => ?_
                  refine any_val (i := 31) (v := .bool false) hf319 rfl rfl rfl rfl rfl rfl (fun _ _ _ h => h) (by kernel_rfl) (by kernel_rfl) (by kernel_rfl) (fun wd9 hS3 => (r_pickF rfl rfl)) hS3 fun ac293 hf320 => ?_
                  refine any_val (i := 32) (v := .bool false) hf320 rfl rfl rfl rfl rfl rfl (fun _ _ _ h => h) (by kernel_rfl) (by kernel_rfl) (by kernel_rfl) (fun wd9 hS3 => (r_move rfl)) hS3 fun ac294 hf321 => ?_
                  refine any_skip (i := 33) hf321 rfl rfl rfl rfl (fun _ _ _ h => h) (by kernel_rfl) (by kernel_rfl) (by kernel_rfl) hS3 fun ac295 hf322 => ?_
                  refine any_skip (i := 34) hf322 rfl rfl rfl rfl (fun _ _ _ h => h) (by kernel_rfl) (by kernel_rfl) (by kernel_rfl) hS3 fun ac296 hf323 => ?_
                  refine any_skip (i := 35) hf323 rfl rfl rfl rfl (fun _ _ _ h => h) (by kernel_rfl) (by kernel_rfl) (by kernel_rfl) hS3 fun ac297 hf324 => ?_
                  refine any_skip (i := 36) hf324 rfl rfl rfl rfl (fun _ _ _ h => h) (by kernel_rfl) (by kernel_rfl) (by kernel_rfl) hS3 fun ac298 hf325 => ?_
                  refine any_skip (i := 37) hf325 rfl rfl rfl rfl (fun _ _ _ h => h) (by kernel_rfl) (by kernel_rfl) (by kernel_rfl) hS3 fun ac299 hf326 => ?_
                  refine any_val (i := 38) (v := .bool false) hf326 rfl rfl rfl rfl rfl rfl (fun _ _ _ h => h) (by kernel_rfl) (by kernel_rfl) (by kernel_rfl) (fun wd9 hS3 => (r_pickF rfl rfl)) hS3 fun ac300 hf327 => ?_
                  refine any_end (by kernel_rfl) ?_
                  clear hI15 ac220 hf237 ac221 hf238 ac222 hf239 hf240 ac223 hf241 ac224 hf242 ac225 hf243 ac226 hf244 ac227 hf245 hf246 ac228 hf247 ac229 hf248 ac230 hf249 ac231 hf250 ac232 hf251 ac233 hf252 hf253 ac234 hf254 ac235 hf255 ac236 hf256 ac237 hf257 ac238 hf258 hf259 ac239 hf307 ac281 hf308 ac282 hf309 ac283 hf310 ac284 hf311 ac285 hf312 ac286 hf313 ac287 hf314 ac288 hf315 ac289 hf316 ac290 hf317 ac291 hf318 ac292 hf319 ac293 hf320 ac294 hf321 ac295 hf322 ac296 hf323 ac297 hf324 ac298 hf325 ac299 hf326 hS3
                  refine then_normal ?_
                  exact ⟨(hf327.cons 0 rfl (hf327.cons 1 rfl (hf327.cons 2 rfl (hf327.cons 3 rfl (hf327.cons 4 rfl (hf327.cons 6 rfl (hf327.cons 9 rfl (hf327.cons 10 rfl (hf327.cons 11 rfl (hf327.cons 12 rfl (hf327.cons 13 rfl (hf327.cons 14 rfl (hf327.cons 15 rfl (hf327.cons 16 rfl (hf327.cons 18 rfl (hf327.cons 19 rfl (hf327.cons 20 rfl (hf327.cons 21 rfl (hf327.cons 22 rfl (hf327.cons 23 rfl (hf327.cons 24 rfl (hf327.cons 25 rfl (hf327.cons 26 rfl (hf327.cons 27 rfl (hf327.cons 28 rfl (hf327.cons 29 rfl (hf327.cons 30 rfl (hf327.cons 31 rfl (hf327.cons 32 rfl (hf327.cons 33 rfl (hf327.cons 34 rfl (hf327.cons 35 rfl (hf327.cons 36 rfl (hf327.cons 37 rfl (hf327.cons 44 rfl (hf327.cons 45 rfl (hf327.cons 46 rfl (hf327.cons 47 rfl (hf327.cons 48 rfl (hf327.cons 49 rfl (hf327.cons 50 rfl (hf327.cons 51 rfl (hf327.cons 52 rfl (hf327.cons 92 rfl (hf327.cons 91 rfl hf327.nil))))))))))))))))))))))))))))))))))))))))))))), hI16⟩
              · have hf328 := hf253.know 66 (u := .bool false) rfl (congrArg Value.bool g66_10)
                refine any_skip (i := 14) hf328 rfl rfl rfl rfl (fun _ _ _ h => h) (by kernel_rfl) (by kernel_rfl) (by kernel_rfl) hS3 fun ac301 hf329 => ?_
                refine any_skip (i := 15) hf329 rfl rfl rfl rfl (fun _ _ _ h => h) (by kernel_rfl) (by kernel_rfl) (by kernel_rfl) hS3 fun ac302 hf330 => ?_
                refine any_skip (i := 16) hf330 rfl rfl rfl rfl (fun _ _ _ h => h) (by kernel_rfl) (by kernel_rfl) (by kernel_rfl) hS3 fun ac303 hf331 => ?_
                refine any_val (i := 17) (v := .bool false) hf331 rfl rfl rfl rfl rfl rfl (fun _ _ _ h => h) (by kernel_rfl) (by kernel_rfl) (by kernel_rfl) (fun wd9 hS3 => (r_pickF rfl rfl)) hS3 fun ac304 hf332 => ?_
                refine any_val (i := 18) (v := .bool false) hf332 rfl rfl rfl rfl rfl rfl (fun _ _ _ h => h) (by kernel_rfl) (by kernel_rfl) (by kernel_rfl) (fun wd9 hS3 => (r_move rfl)) hS3 fun ac305 hf333 => ?_
                refine any_skip (i := 19) hf333 rfl rfl rfl rfl (fun _ _ _ h => h) (by kernel_rfl) (by kernel_rfl) (by kernel_rfl) hS3 fun ac306 hf334 => ?_
                refine any_skip (i := 20) hf334 rfl rfl rfl rfl (fun _ _ _ h => h) (by kernel_rfl) (by kernel_rfl) (by kernel_rfl) hS3 fun ac307 hf335 => ?_
                refine any_skip (i := 21) hf335 rfl rfl rfl rfl (fun _ _ _ h => h) (by kernel_rfl) (by kernel_rfl) (by kernel_rfl) hS3 fun ac308 hf336 => ?_
                refine any_val (i := 22) (v := .bool false) hf336 rfl rfl rfl rfl rfl rfl (fun _ _ _ h => h) (by kernel_rfl) (by kernel_rfl) (by kernel_rfl) (fun wd9 hS3 => (r_pickF rfl rfl)) hS3 fun ac309 hf337 => ?_
                refine any_val (i := 23) (v := .bool false) hf337 rfl rfl rfl rfl rfl rfl (fun _ _ _ h => h) (by kernel_rfl) (by kernel_rfl) (by kernel_rfl) (fun wd9 hS3 => (r_move rfl)) hS3 fun ac310 hf338 => ?_
                refine any_skip (i := 24) hf338 rfl rfl rfl rfl (fun _ _ _ h => h) (by kernel_rfl) (by kernel_rfl) (by kernel_rfl) hS3 fun ac311 hf339 => ?_
                refine any_skip (i := 25) hf339 rfl rfl rfl rfl (fun _ _ _ h => h) (by kernel_rfl) (by kernel_rfl) (by kernel_rfl) hS3 fun ac312 hf340 => ?_
                refine any_skip (i := 26) hf340 rfl rfl rfl rfl (fun _ _ _ h => h) (by kernel_rfl) (by kernel_rfl) (by kernel_rfl) hS3 fun ac313 hf341 => ?_
                refine any_skip (i := 27) hf341 rfl rfl rfl rfl (fun _ _ _ h => h) (by kernel_rfl) (by kernel_rfl) (by kernel_rfl) hS3 fun ac314 hf342 => ?_
                refine any_skip (i := 28) hf342 rfl rfl rfl rfl (fun _ _ _ h => h) (by kernel_rfl) (by kernel_rfl) (by kernel_rfl) hS3 fun ac315 hf343 => ?_
                refine any_skip (i := 29) hf343 rfl rfl rfl rfl (fun _ _ _ h => h) (by kernel_rfl) (by kernel_rfl) (by kernel_rfl) hS3 fun ac316 hf344 => ?_
                refine any_skip (i := 30) hf344 rfl rfl rfl rfl (fun _ _ _ h => h) (by kernel_rfl) (by kernel_rfl) (by kernel_rfl) hS3 fun ac317 hf345 => ?_
                refine any_val (i := 31) (v := .bool false) hf345 rfl rfl rfl rfl rfl rfl (fun _ _ _ h => h) (by kernel_rfl) (by kernel_rfl) (by kernel_rfl) (fun wd9 hS3 => (r_pickF rfl rfl)) hS3 fun ac318 hf346 => ?_
                refine any_val (i := 32) (v := .bool false) hf346 rfl rfl rfl rfl rfl rfl (fun _ _ _ h => h) (by kernel_rfl) (by kernel_rfl) (by kernel_rfl) (fun wd9 hS3 => (r_move rfl)) hS3 fun ac319 hf347 => ?_
                refine any_skip (i := 33) hf347 rfl rfl rfl rfl (fun _ _ _ h => h) (by kernel_rfl) (by kernel_rfl) (by kernel_rfl) hS3 fun ac320 hf348 => ?_
                refine any_skip (i := 34) hf348 rfl rfl rfl rfl (fun _ _ _ h => h) (by kernel_rfl) (by kernel_rfl) (by kernel_rfl) hS3 fun ac321 hf349 => ?_
                refine any_skip (i := 35) hf349 rfl rfl rfl rfl (fun _ _ _ h => h) (by kernel_rfl) (by kernel_rfl) (by kernel_rfl) hS3 fun ac322 hf350 => ?_
                refine any_skip (i := 36) hf350 rfl rfl rfl rfl (fun _ _ _ h => h) (by kernel_rfl) (by kernel_rfl) (by kernel_rfl) hS3 fun ac323 hf351 => ?_
                refine any_skip (i := 37) hf351 rfl rfl rfl rfl (fun _ _ _ h => h) (by kernel_rfl) (by kernel_rfl) (by kernel_rfl) hS3 fun ac324 hf352 => ?_
                refine any_val (i := 38) (v := .bool false) hf352 rfl rfl rfl rfl rfl rfl (fun _ _ _ h => h) (by kernel_rfl) (by kernel_rfl) (by kernel_rfl) (fun wd9 hS3 => (r_pickF rfl rfl)) hS3 fun ac325 hf353 => ?_
                refine any_end (by kernel_rfl) ?_
                clear hI15 ac220 hf237 ac221 hf238 ac222 hf239 hf240 ac223 hf241 ac224 hf242 ac225 hf243 ac226 hf244 ac227 hf245 hf246 ac228 hf247 ac229 hf248 ac230 hf249 ac231 hf250 ac232 hf251 ac233 hf252 hf253 ac234 hf328 ac301 hf329 ac302 hf330 ac303 hf331 ac304 hf332 ac305 hf333 ac306 hf334 ac307 hf335 ac308 hf336 ac309 hf337 ac310 hf338 ac311 hf339 ac312 hf340 ac313 hf341 ac314 hf342 ac315 hf343 ac316 hf344 ac317 hf345 ac318 hf346 ac319 hf347 ac320 hf348 ac321 hf349 ac322 hf350 ac323 hf351 ac324 hf352 hS3
                refine then_normal ?_
                exact ⟨(hf353.cons 0 rfl (hf353.cons 1 rfl (hf353.cons 2 rfl (hf353.cons 3 rfl (hf353.cons 4 rfl (hf353.cons 6 rfl (hf353.cons 9 rfl (hf353.cons 10 rfl (hf353.cons 11 rfl (hf353.cons 12 rfl (hf353.cons 13 rfl (hf353.cons 14 rfl (hf353.cons 15 rfl (hf353.cons 16 rfl (hf353.cons 18 rfl (hf353.cons 19 rfl (hf353.cons 20 rfl (hf353.cons 21 rfl (hf353.cons 22 rfl (hf353.cons 23 rfl (hf353.cons 24 rfl (hf353.cons 25 rfl (hf353.cons 26 rfl (hf353.cons 27 rfl (hf353.cons 28 rfl (hf353.cons 29 rfl (hf353.cons 30 rfl (hf353.cons 31 rfl (hf353.cons 32 rfl (hf353.cons 33 rfl (hf353.cons 34 rfl (hf353.cons 35 rfl (hf353.cons 36 rfl (hf353.cons 37 rfl (hf353.cons 44 rfl (hf353.cons 45 rfl (hf353.cons 46 rfl (hf353.cons 47 rfl (hf353.cons 48 rfl (hf353.cons 49 rfl (hf353.cons 50 rfl (hf353.cons 51 rfl (hf353.cons 52 rfl (hf353.cons 92 rfl (hf353.cons 91 rfl hf353.nil))))))))))))))))))))))))))))))))))))))))))))), hI16⟩
            · have hf354 := hf246.know 60 (u := .bool false) rfl (congrArg Value.bool g60_9)
              refine any_skip (i := 8) hf354 rfl rfl rfl rfl (fun _ _ _ h => h) (by kernel_rfl) (by kernel_rfl) (by kernel_rfl) hS3 fun ac326 hf355 => ?_
              refine any_skip (i := 9) hf355 rfl rfl rfl rfl (fun _ _ _ h => h) (by kernel_rfl) (by kernel_rfl) (by kernel_rfl) hS3 fun ac327 hf356 => ?_
              refine any_skip (i := 10) hf356 rfl rfl rfl rfl (fun _ _ _ h => h) (by kernel_rfl) (by kernel_rfl) (by kernel_rfl) hS3 fun ac328 hf357 => ?_
              refine any_skip (i := 11) hf357 rfl rfl rfl rfl (fun _ _ _ h => h) (by kernel_rfl) (by kernel_rfl) (by kernel_rfl) hS3 fun ac329 hf358 => ?_
              refine any_val (i := 12) (v := .bool false) hf358 rfl rfl rfl rfl rfl rfl (fun _ _ _ h => h) (by kernel_rfl) (by kernel_rfl) (by kernel_rfl) (fun wd9 hS3 => (r_pickF rfl rfl)) hS3 fun ac330 hf359 => ?_
              refine any_val (i := 13) (v := .bool false) hf359 rfl rfl rfl rfl rfl rfl (fun _ _ _ h => h) (by kernel_rfl) (by kernel_rfl) (by kernel_rfl) (fun wd9 hS3 => (r_move rfl)) hS3 fun ac331 hf360 => ?_
              refine any_skip (i := 14) hf360 rfl rfl rfl rfl (fun _ _ _ h => h) (by kernel_rfl) (by kernel_rfl) (by kernel_rfl) hS3 fun ac332 hf361 => ?_
              refine any_skip (i := 15) hf361 rfl rfl rfl rfl (fun _ _ _ h => h) (by kernel_rfl) (by kernel_rfl) (by kernel_rfl) hS3 fun ac333 hf362 => ?_
              refine any_skip (i := 16) hf362 rfl rfl rfl rfl (fun _ _ _ h => h) (by kernel_rfl) (by kernel_rfl) (by kernel_rfl) hS3 fun ac334 hf363 => ?_
              refine any_val (i := 17) (v := .bool false) hf363 rfl rfl rfl rfl rfl rfl (fun _ _ _ h => h) (by kernel_rfl) (by kernel_rfl) (by kernel_rfl) (fun wd9 hS3 => (r_pickF rfl rfl)) hS3 fun ac335 hf364 => ?_
              refine any_val (i := 18) (v := .bool false) hf364 rfl rfl rfl rfl rfl rfl (fun _ _ _ h => h) (by kernel_rfl) (by kernel_rfl) (by kernel_rfl) (fun wd9 hS3 => (r_move rfl)) hS3 fun ac336 hf365 => ?_
              refine any_skip (i := 19) hf365 rfl rfl rfl rfl (fun _ _ _ h => h) (by kernel_rfl) (by kernel_rfl) (by kernel_rfl) hS3 fun ac337 hf366 => ?_
              refine any_skip (i := 20) hf366 rfl rfl rfl rfl (fun _ _ _ h => h) (by kernel_rfl) (by kernel_rfl) (by kernel_rfl) hS3 fun ac338 hf367 => ?_
              refine any_skip (i := 21) hf367 rfl rfl rfl rfl (fun _ _ _ h => h) (by kernel_rfl) (by kernel_rfl) (by kernel_rfl) hS3 fun ac339 hf368 => ?_
              refine any_val (i := 22) (v := .bool false) hf368 rfl rfl rfl rfl rfl rfl (fun _ _ _ h => h) (by kernel_rfl) (by kernel_rfl) (by kernel_rfl) (fun wd9 hS3 => (r_pickF rfl rfl)) hS3 fun ac340 hf369 => ?_
              refine any_val (i := 23) (v := .bool false) hf369 rfl rfl rfl rfl rfl rfl (fun _ _ _ h => h) (by kernel_rfl) (by kernel_rfl) (by kernel_rfl) (fun wd9 hS3 => (r_move rfl)) hS3 fun ac341 hf370 => ?_
              refine any_skip (i := 24) hf370 rfl rfl rfl rfl (fun _ _ _ h => h) (by kernel_rfl) (by kernel_rfl) (by kernel_rfl) hS3 fun ac342 hf371 => ?_
              refine any_skip (i := 25) hf371 rfl rfl rfl rfl (fun _ _ _ h => h) (by kernel_rfl) (by kernel_rfl) (by kernel_rfl) hS3 fun ac343 hf372 => ?_
              refine any_skip (i := 26) hf372 rfl rfl rfl rfl (fun _ _ _ h => h) (by kernel_rfl) (by kernel_rfl) (by kernel_rfl) hS3 fun ac344 hf373 => ?_
              refine any_skip (i := 27) hf373 rfl rfl rfl rfl (fun _ _ _ h => h) (by kernel_rfl) (by kernel_rfl) (by kernel_rfl) hS3 fun ac345 hf374 => ?_
              refine any_skip (i := 28) hf374 rfl rfl rfl rfl (fun _ _ _ h => h) (by kernel_rfl) (by kernel_rfl) (by kernel_rfl) hS3 fun ac346 hf375 => ?_
              refine any_skip (i := 29) hf375 rfl rfl rfl rfl (fun _ _ _ h => h) (by kernel_rfl) (by kernel_rfl) (by kernel_rfl) hS3 fun ac347 hf376 => ?_
              refine any_skip (i := 30) hf376 rfl rfl rfl rfl (fun _ _ _ h => h) (by kernel_rfl) (by kernel_rfl) (by kernel_rfl) hS3 fun ac348 hf377 => ?_
              refine any_val (i := 31) (v := .bool false) hf377 rfl rfl rfl rfl rfl rfl (fun _ _ _ h => h) (by kernel_rfl) (by kernel_rfl) (by kernel_rfl) (fun wd9 hS3 => (r_pickF rfl rfl)) hS3 fun ac349 hf378 => ?_
              refine any_val (i := 32) (v := .bool false) hf378 rfl rfl rfl rfl rfl rfl (fun _ _ _ h => h) (by kernel_rfl) (by kernel_rfl) (by kernel_rfl) (fun wd9 hS3 => (r_move rfl)) hS3 fun ac350 hf379 => ?_
              refine any_skip (i := 33) hf379 rfl rfl rfl rfl (fun _ _ _ h => h) (by kernel_rfl) (by kernel_rfl) (by kernel_rfl) hS3 fun ac351 hf380 => ?_
              refine any_skip (i := 34) hf380 rfl rfl rfl rfl (fun _ _ _ h => h) (by kernel_rfl) (by kernel_rfl) (by kernel_rfl) hS3 fun ac352 hf381 => ?_
              refine any_skip (i := 35) hf381 rfl rfl rfl rfl (fun _ _ _ h => h) (by kernel_rfl) (by kernel_rfl) (by kernel_rfl) hS3 fun ac353 hf382 => ?_
              refine any_skip (i := 36) hf382 rfl rfl rfl rfl (fun _ _ _ h => h) (by kernel_rfl) (by kernel_rfl) (by kernel_rfl) hS3 fun ac354 hf383 => ?_
              refine any_skip (i := 37) hf383 rfl rfl rfl rfl (fun _ _ _ h => h) (by kernel_rfl) (by kernel_rfl) (by kernel_rfl) hS3 fun ac355 hf384 => ?_
              refine any_val (i := 38) (v := .bool false) hf384 rfl rfl rfl rfl rfl rfl (fun _ _ _ h => h) (by kernel_rfl) (by kernel_rfl) (by kernel_rfl) (fun wd9 hS3 => (r_pickF rfl rfl)) hS3 fun ac356 hf385 => ?_
              refine any_end (by kernel_rfl) ?_
              clear hI15 ac220 hf237 ac221 hf238 ac222 hf239 hf240 ac223 hf241 ac224 hf242 ac225 hf243 ac226 hf244 ac227 hf245 hf246 ac228 hf354 ac326 hf355 ac327 hf356 ac328 hf357 ac329 hf358 ac330 hf359 ac331 hf360 ac332 hf361 ac333 hf362 ac334 hf363 ac335 hf364 ac336 hf365 ac337 hf366 ac338 hf367 ac339 hf368 ac340 hf369 ac341 hf370 ac342 hf371 ac343 hf372 ac344 hf373 ac345 hf374 ac346 hf375 ac347 hf376 ac348 hf377 ac349 hf378 ac350 hf379 ac351 hf380 ac352 hf381 ac353 hf382 ac354 hf383 ac355 hf384 hS3
              refine then_normal ?_
              exact ⟨(hf385.cons 0 rfl (hf385.cons 1 rfl (hf385.cons 2 rfl (hf385.cons 3 rfl (hf385.cons 4 rfl (hf385.cons 6 rfl (hf385.cons 9 rfl (hf385.cons 10 rfl (hf385.cons 11 rfl (hf385.cons 12 rfl (hf385.cons 13 rfl (hf385.cons 14 rfl (hf385.cons 15 rfl (hf385.cons 16 rfl (hf385.cons 18 rfl (hf385.cons 19 rfl (hf385.cons 20 rfl (hf385.cons 21 rfl (hf385.cons 22 rfl (hf385.cons 23 rfl (hf385.cons 24 rfl (hf385.cons 25 rfl (hf385.cons 26 rfl (hf385.cons 27 rfl (hf385.cons 28 rfl (hf385.cons 29 rfl (hf385.cons 30 rfl (hf385.cons 31 rfl (hf385.cons 32 rfl (hf385.cons 33 rfl (hf385.cons 34 rfl (hf385.cons 35 rfl (hf385.cons 36 rfl (hf385.cons 37 rfl (hf385.cons 44 rfl (hf385.cons 45 rfl (hf385.cons 46 rfl (hf385.cons 47 rfl (hf385.cons 48 rfl (hf385.cons 49 rfl (hf385.cons 50 rfl (hf385.cons 51 rfl (hf385.cons 52 rfl (hf385.cons 92 rfl (hf385.cons 91 rfl hf385.nil))))))))))))))))))))))))))))))))))))))))))))), hI16⟩
          · have hf386 := hf240.know 55 (u := .bool false) rfl (congrArg Value.bool g55_8)
            refine any_skip (i := 3) hf386 rfl rfl rfl rfl (fun _ _ _ h => h) (by kernel_rfl) (by kernel_rfl) (by kernel_rfl) hS3 fun ac357 hf387 => ?_
            refine any_skip (i := 4) hf387 rfl rfl rfl rfl (fun _ _ _ h => h) (by kernel_rfl) (by kernel_rfl) (by kernel_rfl) hS3 fun ac358 hf388 => ?_
            refine any_skip (i := 5) hf388 rfl rfl rfl rfl (fun _ _ _ h => h) (by kernel_rfl) (by kernel_rfl) (by kernel_rfl) hS3 fun ac359 hf389 => ?_
            refine any_val (i := 6) (v := .bool false) hf389 rfl rfl rfl rfl rfl rfl (fun _ _ _ h => h) (by kernel_rfl) (by kernel_rfl) (by kernel_rfl) (fun wd9 hS3 => (r_pickF rfl rfl)) hS3 fun ac360 hf390 => ?_
            refine any_val (i := 7) (v := .bool false) hf390 rfl rfl rfl rfl rfl rfl (fun _ _ _ h => h) (by kernel_rfl) (by kernel_rfl) (by kernel_rfl) (fun wd9 hS3 => (r_move rfl)) hS3 fun ac361 hf391 => ?_
            refine any_skip (i := 8) hf391 rfl rfl rfl rfl (fun _ _ _ h => h) (by kernel_rfl) (by kernel_rfl) (by kernel_rfl) hS3 fun ac362 hf392 => ?_
            refine any_skip (i := 9) hf392 rfl rfl rfl rfl (fun _ _ _ h => h) (by kernel_rfl) (by kernel_rfl) (by kernel_rfl) hS3 fun ac363 hf393 => ?_
            refine any_skip (i := 10) hf393 rfl rfl rfl rfl (fun _ _ _ h => h) (by kernel_rfl) (by kernel_rfl) (by kernel_rfl) hS3 fun ac364 hf394 => ?_
            refine any_skip (i := 11) hf394 rfl rfl rfl rfl (fun _ _ _ h => h) (by kernel_rfl) (by kernel_rfl) (by kernel_rfl) hS3 fun ac365 hf395 => ?_
            refine any_val (i := 12) (v := .bool false) hf395 rfl rfl rfl rfl rfl rfl (fun _ _ _ h => h) (by kernel_rfl) (by kernel_rfl) (by kernel_rfl) (fun wd9 hS3 => (r_pickF rfl rfl)) hS3 fun ac366 hf396 => ?_
            refine any_val (i := 13) (v := .bool false) hf396 rfl rfl rfl rfl rfl rfl (fun _ _ _ h => h) (by kernel_rfl) (by kernel_rfl) (by kernel_rfl) (fun wd9 hS3 => (r_move rfl)) hS3 fun ac367 hf397 => ?_
            refine any_skip (i := 14) hf397 rfl rfl rfl rfl (fun _ _ _ h => h) (by kernel_rfl) (by kernel_rfl) (by kernel_rfl) hS3 fun ac368 hf398 => ?_
            refine any_skip (i := 15) hf398 rfl rfl rfl rfl (fun _ _ _ h => h) (by kernel_rfl) (by kernel_rfl) (by kernel_rfl) hS3 fun ac369 hf399 => ?_
            refine any_skip (i := 16) hf399 rfl rfl rfl rfl (fun _ _ _ h => h) (by kernel_rfl) (by kernel_rfl) (by kernel_rfl) hS3 fun ac370 hf400 => ?_
            refine any_val (i := 17) (v := .bool false) hf400 rfl rfl rfl rfl rfl rfl (fun _ _ _ h => h) (by kernel_rfl) (by kernel_rfl) (by kernel_rfl) (fun wd9 hS3 => (r_pickF rfl rfl)) hS3 fun ac371 hf401 => ?_
            refine any_val (i := 18) (v := .bool false) hf401 rfl rfl rfl rfl rfl rfl (fun _ _ _ h => h) (by kernel_rfl) (by kernel_rfl) (by kernel_rfl) (fun wd9 hS3 => (r_move rfl)) hS3 fun ac372 hf402 => ?_
            refine any_skip (i := 19) hf402 rfl rfl rfl rfl (fun _ _ _ h => h) (by kernel_rfl) (by kernel_rfl) (by kernel_rfl) hS3 fun ac373 hf403 => ?_
            refine any_skip (i := 20) hf403 rfl rfl rfl rfl (fun _ _ _ h => h) (by kernel_rfl) (by kernel_rfl) (by kernel_rfl) hS3 fun ac374 hf404 => ?_
            refine any_skip (i := 21) hf404 rfl rfl rfl rfl (fun _ _ _ h => h) (by kernel_rfl) (by kernel_rfl) (by kernel_rfl) hS3 fun ac375 hf405 => ?_
            refine any_val (i := 22) (v := .bool false) hf405 rfl rfl rfl rfl rfl rfl (fun _ _ _ h => h) (by kernel_rfl) (by kernel_rfl) (by kernel_rfl) (fun wd9 hS3 => (r_pickF rfl rfl)) hS3 fun ac376 hf406 => ?_
            refine any_val (i := 23) (v := .bool false) hf406 rfl rfl rfl rfl rfl rfl (fun _ _ _ h => h) (by kernel_rfl) (by kernel_rfl) (by kernel_rfl) (fun wd9 hS3 => (r_move rfl)) hS3 fun ac377 hf407 => ?_
            refine any_skip (i := 24) hf407 rfl rfl rfl rfl (fun _ _ _ h => h) (by kernel_rfl) (by kernel_rfl) (by kernel_rfl) hS3 fun ac378 hf408 => ?_
            refine any_skip (i := 25) hf408 rfl rfl rfl rfl (fun _ _ _ h => h) (by kernel_rfl) (by kernel_rfl) (by kernel_rfl) hS3 fun ac379 hf409 => ?_
            refine any_skip (i := 26) hf409 rfl rfl rfl rfl (fun _ _ _ h => h) (by kernel_rfl) (by kernel_rfl) (by kernel_rfl) hS3 fun ac380 hf410 => ?_
            refine any_skip (i := 27) hf410 rfl rfl rfl rfl (fun _ _ _ h => h) (by kernel_rfl) (by kernel_rfl) (by kernel_rfl) hS3 fun ac381 hf411 => ?_
            refine any_skip (i := 28) hf411 rfl rfl rfl rfl (fun _ _ _ h => h) (by kernel_rfl) (by kernel_rfl) (by kernel_rfl) hS3 fun ac382 hf412 => ?_
            refine any_skip (i := 29) hf412 rfl rfl rfl rfl (fun _ _ _ h => h) (by kernel_rfl) (by kernel_rfl) (by kernel_rfl) hS3 fun ac383 hf413 => ?_
            refine any_skip (i := 30) hf413 rfl rfl rfl rfl (fun _ _ _ h => h) (by kernel_rfl) (by kernel_rfl) (by kernel_rfl) hS3 fun ac384 hf414 => ?_
            refine any_val (i := 31) (v := .bool false) hf414 rfl rfl rfl rfl rfl rfl (fun _ _ _ h => h) (by kernel_rfl) (by kernel_rfl) (by kernel_rfl) (fun wd9 hS3 => (r_pickF rfl rfl)) hS3 fun ac385 hf415 => ?_
            refine any_val (i := 32) (v := .bool false) hf415 rfl rfl rfl rfl rfl rfl (fun _ _ _ h => h) (by kernel_rfl) (by kernel_rfl) (by kernel_rfl) (fun wd9 hS3 => (r_move rfl)) hS3 fun ac386 hf416 => ?_
            refine any_skip (i := 33) hf416 rfl rfl rfl rfl (fun _ _ _ h => h) (by kernel_rfl) (by kernel_rfl) (by kernel_rfl) hS3 fun ac387 hf417 => ?_
            refine any_skip (i := 34) hf417 rfl rfl rfl rfl (fun _ _ _ h => h) (by kernel_rfl) (by kernel_rfl) (by kernel_rfl) hS3 fun ac388 hf418 => ?_
            refine any_skip (i := 35) hf418 rfl rfl rfl rfl (fun _ _ _ h => h) (by kernel_rfl) (by kernel_rfl) (by kernel_rfl) hS3 fun ac389 hf419 => ?_
            refine any_skip (i := 36) hf419 rfl rfl rfl rfl (fun _ _ _ h => h) (by kernel_rfl) (by kernel_rfl) (by kernel_rfl) hS3 fun ac390 hf420 => ?_
            refine any_skip (i := 37) hf420 rfl rfl rfl rfl (fun _ _ _ h => h) (by kernel_rfl) (by kernel_rfl) (by kernel_rfl) hS3 fun ac391 hf421 => ?_
            refine any_val (i := 38) (v := .bool false) hf421 rfl rfl rfl rfl rfl rfl (fun _ _ _ h => h) (by kernel_rfl) (by kernel_rfl) (by kernel_rfl) (fun wd9 hS3 => (r_pickF rfl rfl)) hS3 fun ac392 hf422 => ?_
            refine any_end (by kernel_rfl) ?_
            clear hI15 ac220 hf237 ac221 hf238 ac222 hf239 hf240 ac223 hf386 ac357 hf387 ac358 hf388 ac359 hf389 ac360 hf390 ac361 hf391 ac362 hf392 ac363 hf393 ac364 hf394 ac365 hf395 ac366 hf396 ac367 hf397 ac368 hf398 ac369 hf399 ac370 hf400 ac371 hf401 ac372 hf402 ac373 hf403 ac374 hf404 ac375 hf405 ac376 hf406 ac377 hf407 ac378 hf408 ac379 hf409 ac380 hf410 ac381 hf411 ac382 hf412 ac383 hf413 ac384 hf414 ac385 hf415 ac386 hf416 ac387 hf417 ac388 hf418 ac389 hf419 ac390 hf420 ac391 hf421 hS3
            refine then_normal ?_
            exact ⟨(hf422.cons 0 rfl (hf422.cons 1 rfl (hf422.cons 2 rfl (hf422.cons 3 rfl (hf422.cons 4 rfl (hf422.cons 6 rfl (hf422.cons 9 rfl (hf422.cons 10 rfl (hf422.cons 11 rfl (hf422.cons 12 rfl (hf422.cons 13 rfl (hf422.cons 14 rfl (hf422.cons 15 rfl (hf422.cons 16 rfl (hf422.cons 18 rfl (hf422.cons 19 rfl (hf422.cons 20 rfl (hf422.cons 21 rfl (hf422.cons 22 rfl (hf422.cons 23 rfl (hf422.cons 24 rfl (hf422.cons 25 rfl (hf422.cons 26 rfl (hf422.cons 27 rfl (hf422.cons 28 rfl (hf422.cons 29 rfl (hf422.cons 30 rfl (hf422.cons 31 rfl (hf422.cons 32 rfl (hf422.cons 33 rfl (hf422.cons 34 rfl (hf422.cons 35 rfl (hf422.cons 36 rfl (hf422.cons 37 rfl (hf422.cons 44 rfl (hf422.cons 45 rfl (hf422.cons 46 rfl (hf422.cons 47 rfl (hf422.cons 48 rfl (hf422.cons 49 rfl (hf422.cons 50 rfl (hf422.cons 51 rfl (hf422.cons 52 rfl (hf422.cons 92 rfl (hf422.cons 91 rfl hf422.nil))))))))))))))))))))))))))))))))))))))))))))), hI16⟩
        ·
          intro ac393 wd11 hf423 hI18
          clear ac220 wd9 hf237 hI15
          refine then_normal ?_
          refine code_if_false hf423 rfl ?_
          refine wp_skip ?_
          refine block_normal ?_
          refine then_normal ?_
          refine seq_start (l := [0, 1]) rfl ?_
          refine seq_one (op_val (v := .int .i64 2) hf423 rfl rfl rfl rfl rfl rfl (r_add (c := 2) rfl rfl (by rfl)) fun ac394 hf424 => ?_)
          refine seq_one (op_val (v := .int .i64 2) hf424 rfl rfl rfl rfl rfl rfl (r_move rfl) fun ac395 hf425 => ?_)
          refine seq_end ?_
          clear ac393 hf423 ac394 hf424
          refine then_normal ?_
          refine rounds_go ?_
          refine code_seq ?_
          refine seq_start (l := [0]) rfl ?_
          refine seq_one (op_val (v := .bool true) hf425 rfl rfl rfl rfl rfl rfl (r_lssC rfl rfl (by decide)) fun ac396 hf426 => ?_)
          refine seq_end ?_
          clear ac395 hf425
          refine then_normal ?_
          refine code_seq ?_
          refine code_if_true hf426 rfl ?_
          refine wp_skip ?_
          refine then_normal ?_
          refine code_seq ?_
          refine wp_block ?_
          refine code_seq ?_
          refine seq_start (l := [0, 1]) rfl ?_
          refine seq_one (op_val (v := .int .i64 2) hf426 rfl rfl rfl rfl rfl rfl (r_move rfl) fun ac397 hf427 => ?_)
          refine seq_one (op_val (v := .int .i64 2) hf427 rfl rfl rfl rfl rfl rfl (r_assign rfl) fun ac398 hf428 => ?_)
          refine seq_end ?_
          clear ac396 hf426 ac397 hf427
          refine then_normal ?_
          refine code_seq ?_
          refine code_join 116 ([(0, .agg #[.int .u32 x0, .int .u32 x1, .int .u32 x2]), (1, .slice p L cap), (2, .agg #[.bool g0, .bool g1, .bool g2]), (3, .slice q ys.length caq), (4, .pointer (some ⟨b1, 0, none⟩)), (6, .pointer (some ⟨b2, 0, none⟩)), (9, .pointer (some ⟨b3, 0, none⟩)), (10, .bool true), (11, .pointer (some ⟨b4, 0, none⟩)), (12, .int .i64 bf), (13, .int .i64 (i : Int)), (14, .int .i64 d_5), (15, .bool true), (16, .int .i64 2), (18, .tuple #[.pointer (some ⟨b3, 0, none⟩), .bool true]), (19, .agg #[.int .u32 x0, .int .u32 x1, .int .u32 x2]), (20, .slice p L cap), (21, .tuple #[.pointer (some ⟨b3, 0, none⟩), .bool true]), (22, .pointer (some ⟨b3, 0, none⟩)), (23, .bool true), (24, .bool true), (25, .bool false), (26, .agg #[.int .i64 (-1), .int .i64 (-1), .int .i64 (-1)]), (27, .int .i64 (i : Int)), (28, .bool true), (29, .int .i64 (i : Int)), (30, .tuple #[.int .i64 d_5, .bool true]), (31, .pointer (some ⟨b3, 0, none⟩)), (32, .agg #[.bool g0, .bool g1, .bool g2]), (33, .tuple #[.int .i64 d_5, .bool true]), (34, .int .i64 d_5), (35, .bool true), (36, .bool true), (37, .bool false), (44, .int .i64 d_5), (45, .bool (decide (d_5 < 0))), (46, .bool false), (47, .int .i64 d_5), (48, .bool (decide (d_5 > 2))), (49, .bool false), (50, .int .i64 2), (51, .bool true), (52, .int .i64 2), (92, .int .i64 2), (91, .bool false)]) (fun w' => Inv w [(b1, #[.int .u32 x0, .int .u32 x1, .int .u32 x2], 47), (b2, #[.bool g0, .bool g1, .bool g2], 33), (b3, #[.int .i64 w0, .int .i64 w1, .int .i64 w2, .int .i64 a_5, .int .i64 b_5, .int .i64 c_5, .int .i64 d_5], 58), (b4, #[.int .i64 l0, .int .i64 l1, .int .i64 l2], 22)] w') ?_ ?_
          ·
            refine any_start (fun w => Has [(b2, #[.bool g0, .bool g1, .bool g2], 33), (b4, #[.int .i64 l0, .int .i64 l1, .int .i64 l2], 22)] w) follows (Has.drew (Has.cons (hI18.at 1 rfl) (Has.cons (hI18.at 3 rfl) Has.nil))) ?_
            have hS5 : Has [(b2, #[.bool g0, .bool g1, .bool g2], 33), (b4, #[.int .i64 l0, .int .i64 l1, .int .i64 l2], 22)] _ := Has.drew (Has.cons (hI18.at 1 rfl) (Has.cons (hI18.at 3 rfl) Has.nil))
            have hI19 := hI18.drew
            refine any_val (i := 0) (v := .int .i64 bf) hf428 rfl rfl rfl rfl rfl rfl (fun _ _ _ h => h) (by kernel_rfl) (by kernel_rfl) (by kernel_rfl) (fun wd11 hS5 => (r_move rfl)) hS5 fun ac399 hf429 => ?_
            refine any_val (i := 1) (v := .bool (decide (bf ≥ 0))) hf429 rfl rfl rfl rfl rfl rfl (fun _ _ _ h => h) (by kernel_rfl) (by kernel_rfl) (by kernel_rfl) (fun wd11 hS5 => (r_geq rfl rfl)) hS5 fun ac400 hf430 => ?_
            refine any_val (i := 2) (v := .bool (decide (bf ≥ 0))) hf430 rfl rfl rfl rfl rfl rfl (fun _ _ _ h => h) (by kernel_rfl) (by kernel_rfl) (by kernel_rfl) (fun wd11 hS5 => (r_move rfl)) hS5 fun ac401 hf431 => ?_
            rcases Bool.eq_false_or_eq_true (decide (bf ≥ 0) : Bool) with g55_14 | g55_14
            · have hf432 := hf431.know 55 (u := .bool true) rfl (congrArg Value.bool g55_14)
              refine any_val (i := 3) (v := .int .i64 d_5) hf432 rfl rfl rfl rfl rfl rfl (fun _ _ _ h => h) (by kernel_rfl) (by kernel_rfl) (by kernel_rfl) (fun wd11 hS5 => (r_move rfl)) hS5 fun ac402 hf433 => ?_
              refine any_val (i := 4) (v := .int .i64 bf) hf433 rfl rfl rfl rfl rfl rfl (fun _ _ _ h => h) (by kernel_rfl) (by kernel_rfl) (by kernel_rfl) (fun wd11 hS5 => (r_move rfl)) hS5 fun ac403 hf434 => ?_
              refine any_val (i := 5) (v := .bool (d_5 != bf)) hf434 rfl rfl rfl rfl rfl rfl (fun _ _ _ h => h) (by kernel_rfl) (by kernel_rfl) (by kernel_rfl) (fun wd11 hS5 => (r_neq rfl rfl)) hS5 fun ac404 hf435 => ?_
              refine any_val (i := 6) (v := .bool (d_5 != bf)) hf435 rfl rfl rfl rfl rfl rfl (fun _ _ _ h => h) (by kernel_rfl) (by kernel_rfl) (by kernel_rfl) (fun wd11 hS5 => (r_pickT rfl rfl)) hS5 fun ac405 hf436 => ?_
              refine any_val (i := 7) (v := .bool (d_5 != bf)) hf436 rfl rfl rfl rfl rfl rfl (fun _ _ _ h => h) (by kernel_rfl) (by kernel_rfl) (by kernel_rfl) (fun wd11 hS5 => (r_move rfl)) hS5 fun ac406 hf437 => ?_
              rcases Bool.eq_false_or_eq_true (d_5 != bf : Bool) with g60_15 | g60_15
              · have hf438 := hf437.know 60 (u := .bool true) rfl (congrArg Value.bool g60_15)
                refine any_val (i := 8) (v := .int .i64 d_5) hf438 rfl rfl rfl rfl rfl rfl (fun _ _ _ h => h) (by kernel_rfl) (by kernel_rfl) (by kernel_rfl) (fun wd11 hS5 => (r_move rfl)) hS5 fun ac407 hf439 => ?_
                refine any_val (i := 9) (v := .pointer (some ⟨b4, 0 + d_5.toNat, none⟩)) hf439 rfl rfl rfl rfl rfl rfl (fun _ _ _ h => h) (by kernel_rfl) (by kernel_rfl) (by kernel_rfl) (fun wd11 hS5 => (r_indexAddr (i := d_5.toNat) ar_22 rfl rfl (idx3 hk5.now).1 (idx3 hk5.now).2 (by rw [Nat.mul_one]))) hS5 fun ac408 hf440 => ?_
                refine any_val (i := 10) (v := .int .i64 (sel3 d_5 l0 l1 l2)) hf440 rfl rfl rfl rfl rfl rfl (fun _ _ _ h => h) (by kernel_rfl) (by kernel_rfl) (by kernel_rfl) (fun wd11 hS5 => (r_load ag_3 rfl (hS5.at 1 rfl) (by rcases hk5.now with h | h | h <;> rw [h] <;> rfl))) hS5 fun ac409 hf441 => ?_
                refine any_val (i := 11) (v := .bool (decide ((sel3 d_5 l0 l1 l2) ≥ 0))) hf441 rfl rfl rfl rfl rfl rfl (fun _ _ _ h => h) (by kernel_rfl) (by kernel_rfl) (by kernel_rfl) (fun wd11 hS5 => (r_geq rfl rfl)) hS5 fun ac410 hf442 => ?_
                refine any_val (i := 12) (v := .bool (decide ((sel3 d_5 l0 l1 l2) ≥ 0))) hf442 rfl rfl rfl rfl rfl rfl (fun _ _ _ h => h) (by kernel_rfl) (by kernel_rfl) (by kernel_rfl) (fun wd11 hS5 => (r_pickT rfl rfl)) hS5 fun ac411 hf443 => ?_
                refine any_val (i := 13) (v := .bool (decide ((sel3 d_5 l0 l1 l2) ≥ 0))) hf443 rfl rfl rfl rfl rfl rfl (fun _ _ _ h => h) (by kernel_rfl) (by kernel_rfl) (by kernel_rfl) (fun wd11 hS5 => (r_move rfl)) hS5 fun ac412 hf444 => ?_
                rcases Bool.eq_false_or_eq_true (decide ((sel3 d_5 l0 l1 l2) ≥ 0) : Bool) with g66_16 | g66_16
                · have hf445 := hf444.know 66 (u := .bool true) rfl (congrArg Value.bool g66_16)
                  refine any_val (i := 14) (v := .int .i64 2) hf445 rfl rfl rfl rfl rfl rfl (fun _ _ _ h => h) (by kernel_rfl) (by kernel_rfl) (by kernel_rfl) (fun wd11 hS5 => (r_move rfl)) hS5 fun ac413 hf446 => ?_
                  refine any_val (i := 15) (v := .pointer (some ⟨b2, 2, none⟩)) hf446 rfl rfl rfl rfl rfl rfl (fun _ _ _ h => h) (by kernel_rfl) (by kernel_rfl) (by kernel_rfl) (fun wd11 hS5 => (r_indexAddr (i := 2) ar_33 rfl rfl rfl (by decide) rfl)) hS5 fun ac414 hf447 => ?_
                  refine any_val (i := 16) (v := .bool g2) hf447 rfl rfl rfl rfl rfl rfl (fun _ _ _ h => h) (by kernel_rfl) (by kernel_rfl) (by kernel_rfl) (fun wd11 hS5 => (r_load ag_4 rfl (hS5.at 0 rfl) rfl)) hS5 fun ac415 hf448 => ?_
                  refine any_val (i := 17) (v := .bool g2) hf448 rfl rfl rfl rfl rfl rfl (fun _ _ _ h => h) (by kernel_rfl) (by kernel_rfl) (by kernel_rfl) (fun wd11 hS5 => (r_pickT rfl rfl)) hS5 fun ac416 hf449 => ?_
                  refine any_val (i := 18) (v := .bool g2) hf449 rfl rfl rfl rfl rfl rfl (fun _ _ _ h => h) (by kernel_rfl) (by kernel_rfl) (by kernel_rfl) (fun wd11 hS5 => (r_move rfl)) hS5 fun ac417 hf450 => ?_
                  rcases Bool.eq_false_or_eq_true (g2 : Bool) with g71_17 | g71_17
                  · have hf451 := hf450.know 71 (u := .bool true) rfl (congrArg Value.bool g71_17)
                    refine any_val (i := 19) (v := .int .i64 2) hf451 rfl rfl rfl rfl rfl rfl (fun _ _ _ h => h) (by kernel_rfl) (by kernel_rfl) (by kernel_rfl) (fun wd11 hS5 => (r_move rfl)) hS5 fun ac418 hf452 => ?_
                    refine any_val (i := 20) (v := .int .i64 d_5) hf452 rfl rfl rfl rfl rfl rfl (fun _ _ _ h => h) (by kernel_rfl) (by kernel_rfl) (by kernel_rfl) (fun wd11 hS5 => (r_move rfl)) hS5 fun ac419 hf453 => ?_
                    refine any_val (i := 21) (v := .bool (2 != d_5)) hf453 rfl rfl rfl rfl rfl rfl (fun _ _ _ h => h) (by kernel_rfl) (by kernel_rfl) (by kernel_rfl) (fun wd11 hS5 => (r_neq rfl rfl)) hS5 fun ac420 hf454 => ?_
                    refine any_val (i := 22) (v := .bool (2 != d_5)) hf454 rfl rfl rfl rfl rfl rfl (fun _ _ _ h => h) (by kernel_rfl) (by kernel_rfl) (by kernel_rfl) (fun wd11 hS5 => (r_pickT rfl rfl)) hS5 fun ac421 hf455 => ?_
                    refine any_val (i := 23) (v := .bool (2 != d_5)) hf455 rfl rfl rfl rfl rfl rfl (fun _ _ _ h => h) (by kernel_rfl) (by kernel_rfl) (by kernel_rfl) (fun wd11 hS5 => (r_move rfl)) hS5 fun ac422 hf456 => ?_
                    rcases Bool.eq_false_or_eq_true (2 != d_5 : Bool) with g76_18 | g76_18
                    · have hf457 := hf456.know 76 (u := .bool true) rfl (congrArg Value.bool g76_18)
                      refine any_val (i := 24) (v := .int .i64 2) hf457 rfl rfl rfl rfl rfl rfl (fun _ _ _ h => h) (by kernel_rfl) (by kernel_rfl) (by kernel_rfl) (fun wd11 hS5 => (r_move rfl)) hS5 fun ac423 hf458 => ?_
                      refine any_val (i := 25) (v := .pointer (some ⟨b4, 2, none⟩)) hf458 rfl rfl rfl rfl rfl rfl (fun _ _ _ h => h) (by kernel_rfl) (by kernel_rfl) (by kernel_rfl) (fun wd11 hS5 => (r_indexAddr (i := 2) ar_22 rfl rfl rfl (by decide) rfl)) hS5 fun ac424 hf459 => ?_
                      refine any_val (i := 26) (v := .int .i64 l2) hf459 rfl rfl rfl rfl rfl rfl (fun _ _ _ h => h) (by kernel_rfl) (by kernel_rfl) (by kernel_rfl) (fun wd11 hS5 => (r_load ag_3 rfl (hS5.at 1 rfl) rfl)) hS5 fun ac425 hf460 => ?_
                      refine any_val (i := 27) (v := .int .i64 d_5) hf460 rfl rfl rfl rfl rfl rfl (fun _ _ _ h => h) (by kernel_rfl) (by kernel_rfl) (by kernel_rfl) (fun wd11 hS5 => (r_move rfl)) hS5 fun ac426 hf461 => ?_
                      refine any_val (i := 28) (v := .pointer (some ⟨b4, 0 + d_5.toNat, none⟩)) hf461 rfl rfl rfl rfl rfl rfl (fun _ _ _ h => h) (by kernel_rfl) (by kernel_rfl) (by kernel_rfl) (fun wd11 hS5 => (r_indexAddr (i := d_5.toNat) ar_22 rfl rfl (idx3 hk5.now).1 (idx3 hk5.now).2 (by rw [Nat.mul_one]))) hS5 fun ac427 hf462 => ?_
                      refine any_val (i := 29) (v := .int .i64 (sel3 d_5 l0 l1 l2)) hf462 rfl rfl rfl rfl rfl rfl (fun _ _ _ h => h) (by kernel_rfl) (by kernel_rfl) (by kernel_rfl) (fun wd11 hS5 => (r_load ag_3 rfl (hS5.at 1 rfl) (by rcases hk5.now with h | h | h <;> rw [h] <;> rfl))) hS5 fun ac428 hf463 => ?_
                      refine any_val (i := 30) (v := .bool (decide (l2 < (sel3 d_5 l0 l1 l2)))) hf463 rfl rfl rfl rfl rfl rfl (fun _ _ _ h => h) (by kernel_rfl) (by kernel_rfl) (by kernel_rfl) (fun wd11 hS5 => (r_lss rfl rfl)) hS5 fun ac429 hf464 => ?_
                      refine any_val (i := 31) (v := .bool (decide (l2 < (sel3 d_5 l0 l1 l2)))) hf464 rfl rfl rfl rfl rfl rfl (fun _ _ _ h => h) (by kernel_rfl) (by kernel_rfl) (by kernel_rfl) (fun wd11 hS5 => (r_pickT rfl rfl)) hS5 fun ac430 hf465 => ?_
                      refine any_val (i := 32) (v := .bool (decide (l2 < (sel3 d_5 l0 l1 l2)))) hf465 rfl rfl rfl rfl rfl rfl (fun _ _ _ h => h) (by kernel_rfl) (by kernel_rfl) (by kernel_rfl) (fun wd11 hS5 => (r_move rfl)) hS5 fun ac431 hf466 => ?_
                      rcases Bool.eq_false_or_eq_true (decide (l2 < (sel3 d_5 l0 l1 l2)) : Bool) with g85_19 | g85_19
                      · have hf467 := hf466.know 85 (u := .bool true) rfl (congrArg Value.bool g85_19)
                        refine any_val (i := 33) (v := .pointer (some ⟨b3, 0, none⟩)) hf467 rfl rfl rfl rfl rfl rfl (fun _ _ _ h => h) (by kernel_rfl) (by kernel_rfl) (by kernel_rfl) (fun wd11 hS5 => (r_move rfl)) hS5 fun ac432 hf468 => ?_
                        refine any_val (i := 35) (v := .int .i64 2) hf468 rfl rfl rfl rfl rfl rfl (fun _ _ _ h => h) (by kernel_rfl) (by kernel_rfl) (by kernel_rfl) (fun wd11 hS5 => (r_move rfl)) hS5 fun ac433 hf469 => ?_
                        refine any_one (i := 34) (by kernel_rfl) ?_
                        refine (op_pureW hf469 rfl rfl rfl rfl ca_17 (credits_walk w0 w1 w2 a_5 b_5 c_5 d_5 hd.v.ne b3 _ (Has.cons (hI19.at 2 rfl) Has.nil)) hI19 fun ac434 wd12 hI20 hf470 => ⟨?_, ?_⟩)
                        · exact (Has.cons (hI20.at 1 rfl) (Has.cons (hI20.at 3 rfl) Has.nil))
                        have hS6 : Has [(b2, #[.bool g0, .bool g1, .bool g2], 33), (b4, #[.int .i64 l0, .int .i64 l1, .int .i64 l2], 22)] _ := (Has.cons (hI20.at 1 rfl) (Has.cons (hI20.at 3 rfl) Has.nil))
                        refine any_val (i := 36) (v := .int .i64 c_5) hf470 rfl rfl rfl rfl rfl rfl (fun _ _ _ h => h) (by kernel_rfl) (by kernel_rfl) (by kernel_rfl) (fun wd12 hS6 => (r_index (i := 2) ar_22 ag_3 rfl rfl rfl (by decide) rfl)) hS6 fun ac435 hf471 => ?_
                        refine any_val (i := 37) (v := .bool (decide (c_5 > 0))) hf471 rfl rfl rfl rfl rfl rfl (fun _ _ _ h => h) (by kernel_rfl) (by kernel_rfl) (by kernel_rfl) (fun wd12 hS6 => (r_gtr rfl rfl)) hS6 fun ac436 hf472 => ?_
                        refine any_val (i := 38) (v := .bool (decide (c_5 > 0))) hf472 rfl rfl rfl rfl rfl rfl (fun _ _ _ h => h) (by kernel_rfl) (by kernel_rfl) (by kernel_rfl) (fun wd12 hS6 => (r_pickT rfl rfl)) hS6 fun ac437 hf473 => ?_
                        refine any_end (by kernel_rfl) ?_
                        clear hI18 ac398 hf428 ac399 hf429 ac400 hf430 hf431 ac401 hf432 ac402 hf433 ac403 hf434 ac404 hf435 ac405 hf436 hf437 ac406 hf438 ac407 hf439 ac408 hf440 ac409 hf441 ac410 hf442 ac411 hf443 hf444 ac412 hf445 ac413 hf446 ac414 hf447 ac415 hf448 ac416 hf449 hf450 ac417 hf451 ac418 hf452 ac419 hf453 ac420 hf454 ac421 hf455 hf456 ac422 hf457 ac423 hf458 ac424 hf459 ac425 hf460 ac426 hf461 ac427 hf462 ac428 hf463 ac429 hf464 ac430 hf465 hf466 ac431 hf467 ac432 hf468 ac433 wd11 hI19 hf469 hS5 ac434 hf470 ac435 hf471 ac436 hf472 hS6
                        refine then_normal ?_
                        have hf474 := hf473.know 91 (u := .bool false) rfl (congrArg Value.bool (decide_eq_false (Int.not_lt.2 (hx1.check hd.v ha he5 (x := 2) (.inr (.inr rfl)) (of_decide_eq_true g55_14) (bne_iff_ne.1 g60_15) (of_decide_eq_true g66_16) g71_17 (bne_iff_ne.1 g76_18) (of_decide_eq_true g85_19)))))
                        clear hf473
                        exact ⟨(hf474.cons 0 rfl (hf474.cons 1 rfl (hf474.cons 2 rfl (hf474.cons 3 rfl (hf474.cons 4 rfl (hf474.cons 6 rfl (hf474.cons 9 rfl (hf474.cons 10 rfl (hf474.cons 11 rfl (hf474.cons 12 rfl (hf474.cons 13 rfl (hf474.cons 14 rfl (hf474.cons 15 rfl (hf474.cons 16 rfl (hf474.cons 18 rfl (hf474.cons 19 rfl (hf474.cons 20 rfl (hf474.cons 21 rfl (hf474.cons 22 rfl (hf474.cons 23 rfl (hf474.cons 24 rfl (hf474.cons 25 rfl (hf474.cons 26 rfl (hf474.cons 27 rfl (hf474.cons 28 rfl (hf474.cons 29 rfl (hf474.cons 30 rfl (hf474.cons 31 rfl (hf474.cons 32 rfl (hf474.cons 33 rfl (hf474.cons 34 rfl (hf474.cons 35 rfl (hf474.cons 36 rfl (hf474.cons 37 rfl (hf474.cons 44 rfl (hf474.cons 45 rfl (hf474.cons 46 rfl (hf474.cons 47 rfl (hf474.cons 48 rfl (hf474.cons 49 rfl (hf474.cons 50 rfl (hf474.cons 51 rfl (hf474.cons 52 rfl (hf474.cons 92 rfl (hf474.cons 91 rfl hf474.nil))))))))))))))))))))))))))))))))))))))))))))), hI20⟩
                      · have hf475 := hf466.know 85 (u := .bool false) rfl (congrArg Value.bool g85_19)
                        refine any_skip (i := 33) hf475 rfl rfl rfl rfl (fun _ _ _ h => h) (by kernel_rfl) (by kernel_rfl) (by kernel_rfl) hS5 fun ac438 hf476 => ?_
                        refine any_skip (i := 34) hf476 rfl rfl rfl rfl (fun _ _ _ h => h) (by kernel_rfl) (by kernel_rfl) (by kernel_rfl) hS5 fun ac439 hf477 => ?_
                        refine any_skip (i := 35) hf477 rfl rfl rfl rfl (fun _ _ _ h => h) (by kernel_rfl) (by kernel_rfl) (by kernel_rfl) hS5 fun ac440 hf478 => ?_
                        refine any_skip (i := 36) hf478 rfl rfl rfl rfl (fun _ _ _ h => h) (by kernel_rfl) (by kernel_rfl) (by kernel_rfl) hS5 fun ac441 hf479 => ?_
                        refine any_skip (i := 37) hf479 rfl rfl rfl rfl (fun _ _ _ h => h) (by kernel_rfl) (by kernel_rfl) (by kernel_rfl) hS5 fun ac442 hf480 => ?_
                        refine any_val (i := 38) (v := .bool false) hf480 rfl rfl rfl rfl rfl rfl (fun _ _ _ h => h) (by kernel_rfl) (by kernel_rfl) (by kernel_rfl) (fun wd11 hS5 => (r_pickF rfl rfl)) hS5 fun ac443 hf481 => ?_
                        refine any_end (by kernel_rfl) ?_
                        clear hI18 ac398 hf428 ac399 hf429 ac400 hf430 hf431 ac401 hf432 ac402 hf433 ac403 hf434 ac404 hf435 ac405 hf436 hf437 ac406 hf438 ac407 hf439 ac408 hf440 ac409 hf441 ac410 hf442 ac411 hf443 hf444 ac412 hf445 ac413 hf446 ac414 hf447 ac415 hf448 ac416 hf449 hf450 ac417 hf451 ac418 hf452 ac419 hf453 ac420 hf454 ac421 hf455 hf456 ac422 hf457 ac423 hf458 ac424 hf459 ac425 hf460 ac426 hf461 ac427 hf462 ac428 hf463 ac429 hf464 ac430 hf465 hf466 ac431 hf475 ac438 hf476 ac439 hf477 ac440 hf478 ac441 hf479 ac442 hf480 hS5
                        refine then_normal ?_
                        exact ⟨(hf481.cons 0 rfl (hf481.cons 1 rfl (hf481.cons 2 rfl (hf481.cons 3 rfl (hf481.cons 4 rfl (hf481.cons 6 rfl (hf481.cons 9 rfl (hf481.cons 10 rfl (hf481.cons 11 rfl (hf481.cons 12 rfl (hf481.cons 13 rfl (hf481.cons 14 rfl (hf481.cons 15 rfl (hf481.cons 16 rfl (hf481.cons 18 rfl (hf481.cons 19 rfl (hf481.cons 20 rfl (hf481.cons 21 rfl (hf481.cons 22 rfl (hf481.cons 23 rfl (hf481.cons 24 rfl (hf481.cons 25 rfl (hf481.cons 26 rfl (hf481.cons 27 rfl (hf481.cons 28 rfl (hf481.cons 29 rfl (hf481.cons 30 rfl (hf481.cons 31 rfl (hf481.cons 32 rfl (hf481.cons 33 rfl (hf481.cons 34 rfl (hf481.cons 35 rfl (hf481.cons 36 rfl (hf481.cons 37 rfl (hf481.cons 44 rfl (hf481.cons 45 rfl (hf481.cons 46 rfl (hf481.cons 47 rfl (hf481.cons 48 rfl (hf481.cons 49 rfl (hf481.cons 50 rfl (hf481.cons 51 rfl (hf481.cons 52 rfl (hf481.cons 92 rfl (hf481.cons 91 rfl hf481.nil))))))))))))))))))))))))))))))))))))))))))))), hI19⟩
                    · have hf482 := hf456.know 76 (u := .bool false) rfl (congrArg Value.bool g76_18)
                      refine any_skip (i := 24) hf482 rfl rfl rfl rfl (fun _ _ _ h => h) (by kernel_rfl) (by kernel_rfl) (by kernel_rfl) hS5 fun ac444 hf483 => ?_
                      refine any_skip (i := 25) hf483 rfl rfl rfl rfl (fun _ _ _ h => h) (by kernel_rfl) (by kernel_rfl) (by kernel_rfl) hS5 fun ac445 hf484 => ?_
                      refine any_skip (i := 26) hf484 rfl rfl rfl rfl (fun _ _ _ h => h) (by kernel_rfl) (by kernel_rfl) (by kernel_rfl) hS5 fun ac446 hf485 => ?_
                      refine any_skip (i := 27) hf485 rfl rfl rfl rfl (fun _ _ _ h => h) (by kernel_rfl) (by kernel_rfl) (by kernel_rfl) hS5 fun ac447 hf486 => ?_
                      refine any_skip (i := 28) hf486 rfl rfl rfl rfl (fun _ _ _ h => h) (by kernel_rfl) (by kernel_rfl) (by kernel_rfl) hS5 fun ac448 hf487 => ?_
                      refine any_skip (i := 29) hf487 rfl rfl rfl rfl (fun _ _ _ h => h) (by kernel_rfl) (by kernel_rfl) (by kernel_rfl) hS5 fun ac449 hf488 => ?_
                      refine any_skip (i := 30) hf488 rfl rfl rfl rfl (fun _ _ _ h => h) (by kernel_rfl) (by kernel_rfl) (by kernel_rfl) hS5 fun ac450 hf489 => ?_
                      refine any_val (i := 31) (v := .bool false) hf489 rfl rfl rfl rfl rfl rfl (fun _ _ _ h => h) (by kernel_rfl) (by kernel_rfl) (by kernel_rfl) (fun wd11 hS5 => (r_pickF rfl rfl)) hS5 fun ac451 hf490 => ?_
                      refine any_val (i := 32) (v := .bool false) hf490 rfl rfl rfl rfl rfl rfl (fun _ _ _ h => h) (by kernel_rfl) (by kernel_rfl) (by kernel_rfl) (fun wd11 hS5 => (r_move rfl)) hS5 fun ac452 hf491 => ?_
                      refine any_skip (i := 33) hf491 rfl rfl rfl rfl (fun _ _ _ h => h) (by kernel_rfl) (by kernel_rfl) (by kernel_rfl) hS5 fun ac453 hf492 => ?_
                      refine any_skip (i := 34) hf492 rfl rfl rfl rfl (fun _ _ _ h => h) (by kernel_rfl) (by kernel_rfl) (by kernel_rfl) hS5 fun ac454 hf493 => ?_
                      refine any_skip (i := 35) hf493 rfl rfl rfl rfl (fun _ _ _ h => h) (by kernel_rfl) (by kernel_rfl) (by kernel_rfl) hS5 fun ac455 hf494 => ?_
                      refine any_skip (i := 36) hf494 rfl rfl rfl rfl (fun _ _ _ h => h) (by kernel_rfl) (by kernel_rfl) (by kernel_rfl) hS5 fun ac456 hf495 => ?_
                      refine any_skip (i := 37) hf495 rfl rfl rfl rfl (fun _ _ _ h => h) (by kernel_rfl) (by kernel_rfl) (by kernel_rfl) hS5 fun ac457 hf496 => ?_
                      refine any_val (i := 38) (v := .bool false) hf496 rfl rfl rfl rfl rfl rfl (fun _ _ _ h => h) (by kernel_rfl) (by kernel_rfl) (by kernel_rfl) (fun wd11 hS5 => (r_pickF rfl rfl)) hS5 fun ac458 hf497 => ?_
                      refine any_end (by kernel_rfl) ?_
                      clear hI18 ac398 hf428 ac399 hf429 ac400 hf430 hf431 ac401 hf432 ac402 hf433 ac403 hf434 ac404 hf435 ac405 hf436 hf437 ac406 hf438 ac407 hf439 ac408 hf440 ac409 hf441 ac410 hf442 ac411 hf443 hf444 ac412 hf445 ac413 hf446 ac414 hf447 ac415 hf448 ac416 hf449 hf450 ac417 hf451 ac418 hf452 ac419 hf453 ac420 hf454 ac421 hf455 hf456 ac422 hf482 ac444 hf483 ac445 hf484 ac446 hf485 ac447 hf486 ac448 hf487 ac449 hf488 ac450 hf489 ac451 hf490 ac452 hf491 ac453 hf492 ac454 hf493 ac455 hf494 ac456 hf495 ac457 hf496 hS5
                      refine then_normal ?_
                      exact ⟨(hf497.cons 0 rfl (hf497.cons 1 rfl (hf497.cons 2 rfl (hf497.cons 3 rfl (hf497.cons 4 rfl (hf497.cons 6 rfl (hf497.cons 9 rfl (hf497.cons 10 rfl (hf497.cons 11 rfl (hf497.cons 12 rfl (hf497.cons 13 rfl (hf497.cons 14 rfl (hf497.cons 15 rfl (hf497.cons 16 rfl (hf497.cons 18 rfl (hf497.cons 19 rfl (hf497.cons 20 rfl (hf497.cons 21 rfl (hf497.cons 22 rfl (hf497.cons 23 rfl (hf497.cons 24 rfl (hf497.cons 25 rfl (hf497.cons 26 rfl (hf497.cons 27 rfl (hf497.cons 28 rfl (hf497.cons 29 rfl (hf497.cons 30 rfl (hf497.cons 31 rfl (hf497.cons 32 rfl (hf497.cons 33 rfl (hf497.cons 34 rfl (hf497.cons 35 rfl (hf497.cons 36 rfl (hf497.cons 37 rfl (hf497.cons 44 rfl (hf497.cons 45 rfl (hf497.cons 46 rfl (hf497.cons 47 rfl (hf497.cons 48 rfl (hf497.cons 49 rfl (hf497.cons 50 rfl (hf497.cons 51 rfl (hf497.cons 52 rfl (hf497.cons 92 rfl (hf497.cons 91 rfl hf497.nil))))))))))))))))))))))))))))))))))))))))))))), hI19⟩
                  · have hf498 := hf450.know 71 (u := .bool false) rfl (congrArg Value.bool g71_17)
                    refine any_skip (i := 19) hf498 rfl rfl rfl rfl (fun _ _ _ h => h) (by kernel_rfl) (by kernel_rfl) (by kernel_rfl) hS5 fun ac459 hf499 => ?_
                    refine any_skip (i := 20) hf499 rfl rfl rfl rfl (fun _ _ _ h => h) (by kernel_rfl) (by kernel_rfl) (by kernel_rfl) hS5 fun ac460 hf500 => ?_
                    refine any_skip (i := 21) hf500 rfl rfl rfl rfl (fun _ _ _ h => h) (by kernel_rfl) (by kernel_rfl) (by kernel_rfl) hS5 fun ac461 hf501 => ?_
                    refine any_val (i := 22) (v := .bool false) hf501 rfl rfl rfl rfl rfl rfl (fun _ _ _ h => h) (by kernel_rfl) (by kernel_rfl) (by kernel_rfl) (fun wd11 hS5 => (r_pickF rfl rfl)) hS5 fun ac462 hf502 => ?_
                    refine any_val (i := 23) (v := .bool false) hf502 rfl rfl rfl rfl rfl rfl (fun _ _ _ h => h) (by kernel_rfl) (by kernel_rfl) (by kernel_rfl) (fun wd11 hS5 => (r_move rfl)) hS5 fun ac463 hf503 => ?_
                    refine any_skip (i := 24) hf503 rfl rfl rfl rfl (fun _ _ _ h => h) (by kernel_rfl) (by kernel_rfl) (by kernel_rfl) hS5 fun ac464 hf504 => ?_
                    refine any_skip (i := 25) hf504 rfl rfl rfl rfl (fun _ _ _ h => h) (by kernel_rfl) (by kernel_rfl) (by kernel_rfl) hS5 fun ac465 hf505 => ?_
                    refine any_skip (i := 26) hf505 rfl rfl rfl rfl (fun _ _ _ h => h) (by kernel_rfl) (by kernel_rfl) (by kernel_rfl) hS5 fun ac466 hf506 => ?_
                    refine any_skip (i := 27) hf506 rfl rfl rfl rfl (fun _ _ _ h => h) (by kernel_rfl) (by kernel_rfl) (by kernel_rfl) hS5 fun ac467 hf507 => ?_
                    refine any_skip (i := 28) hf507 rfl rfl rfl rfl (fun _ _ _ h => h) (by kernel_rfl) (by kernel_rfl) (by kernel_rfl) hS5 fun ac468 hf508 => ?_
                    refine any_skip (i := 29) hf508 rfl rfl rfl rfl (fun _ _ _ h => h) (by kernel_rfl) (by kernel_rfl) (by kernel_rfl) hS5 fun ac469 hf509 => ?_
                    refine any_skip (i := 30) hf509 rfl rfl rfl rfl (fun _ _ _ h => h) (by kernel_rfl) (by kernel_rfl) (by kernel_rfl) hS5 fun ac470 hf510 => ?_
                    refine any_val (i := 31) (v := .bool false) hf510 rfl rfl rfl rfl rfl rfl (fun _ _ _ h => h) (by kernel_rfl) (by kernel_rfl) (by kernel_rfl) (fun wd11 hS5 => (r_pickF rfl rfl)) hS5 fun ac471 hf511 => ?_
                    refine any_val (i := 32) (v := .bool false) hf511 rfl rfl rfl rfl rfl rfl (fun _ _ _ h => h) (by kernel_rfl) (by kernel_rfl) (by kernel_rfl) (fun wd11 hS5 => (r_move rfl)) hS5 fun ac472 hf512 => ?_
                    refine any_skip (i := 33) hf512 rfl rfl rfl rfl (fun _ _ _ h => h) (by kernel_rfl) (by kernel_rfl) (by kernel_rfl) hS5 fun ac473 hf513 => ?_
                    refine any_skip (i := 34) hf513 rfl rfl rfl rfl (fun _ _ _ h => h) (by kernel_rfl) (by kernel_rfl) (by kernel_rfl) hS5 fun ac474 hf514 => ?_
                    refine any_skip (i := 35) hf514 rfl rfl rfl rfl (fun _ _ _ h => h) (by kernel_rfl) (by kernel_rfl) (by kernel_rfl) hS5 fun ac475 hf515 => ?_
                    refine any_skip (i := 36) hf515 rfl rfl rfl rfl (fun _ _ _ h => h) (by kernel_rfl) (by kernel_rfl) (by kernel_rfl) hS5 fun ac476 hf516 => ?_
                    refine any_skip (i := 37) hf516 rfl rfl rfl rfl (fun _ _ _ h => h) (by kernel_rfl) (by kernel_rfl) (by kernel_rfl) hS5 fun ac477 hf517 => ?_
                    refine any_val (i := 38) (v := .bool false) hf517 rfl rfl rfl rfl rfl rfl (fun _ _ _ h => h) (by kernel_rfl) (by kernel_rfl) (by kernel_rfl) (fun wd11 hS5 => (r_pickF rfl rfl)) hS5 fun ac478 hf518 => ?_
                    refine any_end (by kernel_rfl) ?_
                    clear hI18 ac398 hf428 ac399 hf429 ac400 hf430 hf431 ac401 hf432 ac402 hf433 ac403 hf434 ac404 hf435 ac405 hf436 hf437 ac406 hf438 ac407 hf439 ac408 hf440 ac409 hf441 ac410 hf442 ac411 hf443 hf444 ac412 hf445 ac413 hf446 ac414 hf447 ac415 hf448 ac416 hf449 hf450 ac417 hf498 ac459 hf499 ac460 hf500 ac461 hf501 ac462 hf502 ac463 hf503 ac464 hf504 ac465 hf505 ac466 hf506 ac467 hf507 ac468 hf508 ac469 hf509 ac470 hf510 ac471 hf511 ac472 hf512 ac473 hf513 ac474 hf514 ac475 hf515 ac476 hf516 ac477 hf517 hS5
                    refine then_normal ?_
                    exact ⟨(hf518.cons 0 rfl (hf518.cons 1 rfl (hf518.cons 2 rfl (hf518.cons 3 rfl (hf518.cons 4 rfl (hf518.cons 6 rfl (hf518.cons 9 rfl (hf518.cons 10 rfl (hf518.cons 11 rfl (hf518.cons 12 rfl (hf518.cons 13 rfl (hf518.cons 14 rfl (hf518.cons 15 rfl (hf518.cons 16 rfl (hf518.cons 18 rfl (hf518.cons 19 rfl (hf518.cons 20 rfl (hf518.cons 21 rfl (hf518.cons 22 rfl (hf518.cons 23 rfl (hf518.cons 24 rfl (hf518.cons 25 rfl (hf518.cons 26 rfl (hf518.cons 27 rfl (hf518.cons 28 rfl (hf518.cons 29 rfl (hf518.cons 30 rfl (hf518.cons 31 rfl (hf518.cons 32 rfl (hf518.cons 33 rfl (hf518.cons 34 rfl (hf518.cons 35 rfl (hf518.cons 36 rfl (hf518.cons 37 rfl (hf518.cons 44 rfl (hf518.cons 45 rfl (hf518.cons 46 rfl (hf518.cons 47 rfl (hf518.cons 48 rfl (hf518.cons 49 rfl (hf518.cons 50 rfl (hf518.cons 51 rfl (hf518.cons 52 rfl (hf518.cons 92 rfl (hf518.cons 91 rfl hf518.nil))))))))))))))))))))))))))))))))))))))))))))), hI19⟩
                · have hf519 := hf444.know 66 (u := .bool false) rfl (congrArg Value.bool g66_16)
                  refine any_skip (i := 14) hf519 rfl rfl rfl rfl (fun _ _ _ h => h) (by kernel_rfl) (by kernel_rfl) (by kernel_rfl) hS5 fun ac479 hf520 => ?_
                  refine any_skip (i := 15) hf520 rfl rfl rfl rfl (fun _ _ _ h => h) (by kernel_rfl) (by kernel_rfl) (by kernel_rfl) hS5 fun ac480 hf521 => ?_
                  refine any_skip (i := 16) hf521 rfl rfl rfl rfl (fun _ _ _ h => h) (by kernel_rfl) (by kernel_rfl) (by kernel_rfl) hS5 fun ac481 hf522 => ?_
                  refine any_val (i := 17) (v := .bool false) hf522 rfl rfl rfl rfl rfl rfl (fun _ _ _ h => h) (by kernel_rfl) (by kernel_rfl) (by kernel_rfl) (fun wd11 hS5 => (r_pickF rfl rfl)) hS5 fun ac482 hf523 => ?_
                  refine any_val (i := 18) (v := .bool false) hf523 rfl rfl rfl rfl rfl rfl (fun _ _ _ h => h) (by kernel_rfl) (by kernel_rfl) (by kernel_rfl) (fun wd11 hS5 => (r_move rfl)) hS5 fun ac483 hf524 => ?_
                  refine any_skip (i := 19) hf524 rfl rfl rfl rfl (fun _ _ _ h => h) (by kernel_rfl) (by kernel_rfl) (by kernel_rfl) hS5 fun ac484 hf525 => ?_
                  refine any_skip (i := 20) hf525 rfl rfl rfl rfl (fun _ _ _ h => h) (by kernel_rfl) (by kernel_rfl) (by kernel_rfl) hS5 fun ac485 hf526 => ?_
                  refine any_skip (i := 21) hf526 rfl rfl rfl rfl (fun _ _ _ h => h) (by kernel_rfl) (by kernel_rfl) (by kernel_rfl) hS5 fun ac486 hf527 => ?_
                  refine any_val (i := 22) (v := .bool false) hf527 rfl rfl rfl rfl rfl rfl (fun _ _ _ h => h) (by kernel_rfl) (by kernel_rfl) (by kernel_rfl) (fun wd11 hS5 => (r_pickF rfl rfl)) hS5 fun ac487 hf528 => ?_
                  refine any_val (i := 23) (v := .bool false) hf528 rfl rfl rfl rfl rfl rfl (fun _ _ _ h => h) (by kernel_rfl) (by kernel_rfl) (by kernel_rfl) (fun wd11 hS5 => (r_move rfl)) hS5 fun ac488 hf529 => ?_
                  refine any_skip (i := 24) hf529 rfl rfl rfl rfl (fun _ _ _ h => h) (by kernel_rfl) (by kernel_rfl) (by kernel_rfl) hS5 fun ac489 hf530 => ?_
                  refine any_skip (i := 25) hf530 rfl rfl rfl rfl (fun _ _ _ h => h) (by kernel_rfl) (by kernel_rfl) (by kernel_rfl) hS5 fun ac490 hf531 => ?_
                  refine any_skip (i := 26) hf531 rfl rfl rfl rfl (fun _ _ _ h => h) (by kernel_rfl) (by kernel_rfl) (by kernel_rfl) hS5 fun ac491 hf532 => ?_
                  refine any_skip (i := 27) hf532 rfl rfl rfl rfl (fun _ _ _ h => h) (by kernel_rfl) (by kernel_rfl) (by kernel_rfl) hS5 fun ac492 hf533 => ?_
                  refine any_skip (i := 28) hf533 rfl rfl rfl rfl (fun _ _ _ h => h) (by kernel_rfl) (by kernel_rfl) (by kernel_rfl) hS5 fun ac493 hf534 => ?_
                  refine any_skip (i := 29) hf534 rfl rfl rfl rfl (fun _ _ _ h => h) (by kernel_rfl) (by kernel_rfl) (by kernel_rfl) hS5 fun ac494 hf535 => ?_
                  refine any_skip (i := 30) hf535 rfl rfl rfl rfl (fun _ _ _ h => h) (by kernel_rfl) (by kernel_rfl) (by kernel_rfl) hS5 fun ac495 hf536 => ?_
                  refine any_val (i := 31) (v := .bool false) hf536 rfl rfl rfl rfl rfl rfl (fun _ _ _ h => h) (by kernel_rfl) (by kernel_rfl) (by kernel_rfl) (fun wd11 hS5 => (r_pickF rfl rfl)) hS5 fun ac496 hf537 => ?_
                  refine any_val (i := 32) (v := .bool false) hf537 rfl rfl rfl rfl rfl rfl (fun _ _ _ h => h) (by kernel_rfl) (by kernel_rfl) (by kernel_rfl) (fun wd11 hS5 => (r_move rfl)) hS5 fun ac497 hf538 => ?_
                  refine any_skip (i := 33) hf538 rfl rfl rfl rfl (fun _ _ _ h => h) (by kernel_rfl) (by kernel_rfl) (by kernel_rfl) hS5 fun ac498 hf539 => ?_
                  refine any_skip (i := 34) hf539 rfl rfl rfl rfl (fun _ _ _ h => h) (by kernel_rfl) (by kernel_rfl) (by kernel_rfl) hS5 fun ac499 hf540 => ?_
                  refine any_skip (i := 35) hf540 rfl rfl rfl rfl (fun _ _ _ h => h) (by kernel_rfl) (by kernel_rfl) (by kernel_rfl) hS5 fun ac500 hf541 => ?_
                  refine any_skip (i := 36) hf541 rfl rfl rfl rfl (fun _ _ _ h => h) (by kernel_rfl) (by kernel_rfl) (by kernel_rfl) hS5 fun ac501 hf542 => ?_
                  refine any_skip (i := 37) hf542 rfl rfl rfl rfl (fun _ _ _ h => h) (by kernel_rfl) (by kernel_rfl) (by kernel_rfl) hS5 fun ac502 hf543 => ?_
                  refine any_val (i := 38) (v := .bool false) hf543 rfl rfl rfl rfl rfl rfl (fun _ _ _ h => h) (by kernel_rfl) (by kernel_rfl) (by kernel_rfl) (fun wd11 hS5 => (r_pickF rfl rfl)) hS5 fun ac503 hf544 => ?_
                  refine any_end (by kernel_rfl) ?_
                  clear hI18 ac398 hf428 ac399 hf429 ac400 hf430 hf431 ac401 hf432 ac402 hf433 ac403 hf434 ac404 hf435 ac405 hf436 hf437 ac406 hf438 ac407 hf439 ac408 hf440 ac409 hf441 ac410 hf442 ac411 hf443 hf444 ac412 hf519 ac479 hf520 ac480 hf521 ac481 hf522 ac482 hf523 ac483 hf524 ac484 hf525 ac485 hf526 ac486 hf527 ac487 hf528 ac488 hf529 ac489 hf530 ac490 hf531 ac491 hf532 ac492 hf533 ac493 hf534 ac494 hf535 ac495 hf536 ac496 hf537 ac497 hf538 ac498 hf539 ac499 hf540 ac500 hf541 ac501 hf542 ac502 hf543 hS5
                  refine then_normal ?_
                  exact ⟨(hf544.cons 0 rfl (hf544.cons 1 rfl (hf544.cons 2 rfl (hf544.cons 3 rfl (hf544.cons 4 rfl (hf544.cons 6 rfl (hf544.cons 9 rfl (hf544.cons 10 rfl (hf544.cons 11 rfl (hf544.cons 12 rfl (hf544.cons 13 rfl (hf544.cons 14 rfl (hf544.cons 15 rfl (hf544.cons 16 rfl (hf544.cons 18 rfl (hf544.cons 19 rfl (hf544.cons 20 rfl (hf544.cons 21 rfl (hf544.cons 22 rfl (hf544.cons 23 rfl (hf544.cons 24 rfl (hf544.cons 25 rfl (hf544.cons 26 rfl (hf544.cons 27 rfl (hf544.cons 28 rfl (hf544.cons 29 rfl (hf544.cons 30 rfl (hf544.cons 31 rfl (hf544.cons 32 rfl (hf544.cons 33 rfl (hf544.cons 34 rfl (hf544.cons 35 rfl (hf544.cons 36 rfl (hf544.cons 37 rfl (hf544.cons 44 rfl (hf544.cons 45 rfl (hf544.cons 46 rfl (hf544.cons 47 rfl (hf544.cons 48 rfl (hf544.cons 49 rfl (hf544.cons 50 rfl (hf544.cons 51 rfl (hf544.cons 52 rfl (hf544.cons 92 rfl (hf544.cons 91 rfl hf544.nil))))))))))))))))))))))))))))))))))))))))))))), hI19⟩
              · have hf545 := hf437.know 60 (u := .bool false) rfl (congrArg Value.bool g60_15)
                refine any_skip (i := 8) hf545 rfl rfl rfl rfl (fun _ _ _ h => h) (by kernel_rfl) (by kernel_rfl) (by kernel_rfl) hS5 fun ac504 hf546 => ?_
                refine any_skip (i := 9) hf546 rfl rfl rfl rfl (fun _ _ _ h => h) (by kernel_rfl) (by kernel_rfl) (by kernel_rfl) hS5 fun ac505 hf547 => ?_
                refine any_skip (i := 10) hf547 rfl rfl rfl rfl (fun _ _ _ h => h) (by kernel_rfl) (by kernel_rfl) (by kernel_rfl) hS5 fun ac506 hf548 => ?_
                refine any_skip (i := 11) hf548 rfl rfl rfl rfl (fun _ _ _ h => h) (by kernel_rfl) (by kernel_rfl) (by kernel_rfl) hS5 fun ac507 hf549 => ?_
                refine any_val (i := 12) (v := .bool false) hf549 rfl rfl rfl rfl rfl rfl (fun _ _ _ h => h) (by kernel_rfl) (by kernel_rfl) (by kernel_rfl) (fun wd11 hS5 => (r_pickF rfl rfl)) hS5 fun ac508 hf550 => ?_
                refine any_val (i := 13) (v := .bool false) hf550 rfl rfl rfl rfl rfl rfl (fun _ _ _ h => h) (by kernel_rfl) (by kernel_rfl) (by kernel_rfl) (fun wd11 hS5 => (r_move rfl)) hS5 fun ac509 hf551 => ?_
                refine any_skip (i := 14) hf551 rfl rfl rfl rfl (fun _ _ _ h => h) (by kernel_rfl) (by kernel_rfl) (by kernel_rfl) hS5 fun ac510 hf552 => ?_
                refine any_skip (i := 15) hf552 rfl rfl rfl rfl (fun _ _ _ h => h) (by kernel_rfl) (by kernel_rfl) (by kernel_rfl) hS5 fun ac511 hf553 => ?_
                refine any_skip (i := 16) hf553 rfl rfl rfl rfl (fun _ _ _ h => h) (by kernel_rfl) (by kernel_rfl) (by kernel_rfl) hS5 fun ac512 hf554 => ?_
                refine any_val (i := 17) (v := .bool false) hf554 rfl rfl rfl rfl rfl rfl (fun _ _ _ h => h) (by kernel_rfl) (by kernel_rfl) (by kernel_rfl) (fun wd11 hS5 => (r_pickF rfl rfl)) hS5 fun ac513 hf555 => ?_
                refine any_val (i := 18) (v := .bool false) hf555 rfl rfl rfl rfl rfl rfl (fun _ _ _ h => h) (by kernel_rfl) (by kernel_rfl) (by kernel_rfl) (fun wd11 hS5 => (r_move rfl)) hS5 fun ac514 hf556 => ?_
                refine any_skip (i := 19) hf556 rfl rfl rfl rfl (fun _ _ _ h => h) (by kernel_rfl) (by kernel_rfl) (by kernel_rfl) hS5 fun ac515 hf557 => ?_
                refine any_skip (i := 20) hf557 rfl rfl rfl rfl (fun _ _ _ h => h) (by kernel_rfl) (by kernel_rfl) (by kernel_rfl) hS5 fun ac516 hf558 => ?_
                refine any_skip (i := 21) hf558 rfl rfl rfl rfl (fun _ _ _ h => h) (by kernel_rfl) (by kernel_rfl) (by kernel_rfl) hS5 fun ac517 hf559 => ?_
                refine any_val (i := 22) (v := .bool false) hf559 rfl rfl rfl rfl rfl rfl (fun _ _ _ h => h) (by kernel_rfl) (by kernel_rfl) (by kernel_rfl) (fun wd11 hS5 => (r_pickF rfl rfl)) hS5 fun ac518 hf560 => ?_
                refine any_val (i := 23) (v := .bool false) hf560 rfl rfl rfl rfl rfl rfl (fun _ _ _ h => h) (by kernel_rfl) (by kernel_rfl) (by kernel_rfl) (fun wd11 hS5 => (r_move rfl)) hS5 fun ac519 hf561 => ?_
                refine any_skip (i := 24) hf561 rfl rfl rfl rfl (fun _ _ _ h => h) (by kernel_rfl) (by kernel_rfl) (by kernel_rfl) hS5 fun ac520 hf562 => ?_
                refine any_skip (i := 25) hf562 rfl rfl rfl rfl (fun _ _ _ h => h) (by kernel_rfl) (by kernel_rfl) (by kernel_rfl) hS5 fun ac521 hf563 => ?_
                refine any_skip (i := 26) hf563 rfl rfl rfl rfl (fun _ _ _ h => h) (by kernel_rfl) (by kernel_rfl) (by kernel_rfl) hS5 fun ac522 hf564 => ?_
                refine any_skip (i := 27) hf564 rfl rfl rfl rfl (fun _ _ _ h => h) (by kernel_rfl) (by kernel_rfl) (by kernel_rfl) hS5 fun ac523 hf565 => ?_
                refine any_skip (i := 28) hf565 rfl rfl rfl rfl (fun _ _ _ h => h) (by kernel_rfl) (by kernel_rfl) (by kernel_rfl) hS5 fun ac524 hf566 => ?_
                refine any_skip (i := 29) hf566 rfl rfl rfl rfl (fun _ _ _ h => h) (by kernel_rfl) (by kernel_rfl) (by kernel_rfl) hS5 fun ac525 hf567 => ?_
                refine any_skip (i := 30) hf567 rfl rfl rfl rfl (fun _ _ _ h => h) (by kernel_rfl) (by kernel_rfl) (by kernel_rfl) hS5 fun ac526 hf568 => ?_
                refine any_val (i := 31) (v := .bool false) hf568 rfl rfl rfl rfl rfl rfl (fun _ _ _ h => h) (by kernel_rfl) (by kernel_rfl) (by kernel_rfl) (fun wd11 hS5 => (r_pickF rfl rfl)) hS5 fun ac527 hf569 => ?_
                refine any_val (i := 32) (v := .bool false) hf569 rfl rfl rfl rfl rfl rfl (fun _ _ _ h => h) (by kernel_rfl) (by kernel_rfl) (by kernel_rfl) (fun wd11 hS5 => (r_move rfl)) hS5 fun ac528 hf570 => ?_
                refine any_skip (i := 33) hf570 rfl rfl rfl rfl (fun _ _ _ h => h) (by kernel_rfl) (by kernel_rfl) (by kernel_rfl) hS5 fun ac529 hf571 => ?_
                refine any_skip (i := 34) hf571 rfl rfl rfl rfl (fun _ _ _ h => h) (by kernel_rfl) (by kernel_rfl) (by kernel_rfl) hS5 fun ac530 hf572 => ?_
                refine any_skip (i := 35) hf572 rfl rfl rfl rfl (fun _ _ _ h => h) (by kernel_rfl) (by kernel_rfl) (by kernel_rfl) hS5 fun ac531 hf573 => ?_
                refine any_skip (i := 36) hf573 rfl rfl rfl rfl (fun _ _ _ h => h) (by kernel_rfl) (by kernel_rfl) (by kernel_rfl) hS5 fun ac532 hf574 => ?_
                refine any_skip (i := 37) hf574 rfl rfl rfl rfl (fun _ _ _ h => h) (by kernel_rfl) (by kernel_rfl) (by kernel_rfl) hS5 fun ac533 hf575 => ?_
                refine any_val (i := 38) (v := .bool false) hf575 rfl rfl rfl rfl rfl rfl (fun _ _ _ h => h) (by kernel_rfl) (by kernel_rfl) (by kernel_rfl) (fun wd11 hS5 => (r_pickF rfl rfl)) hS5 fun ac534 hf576 => ?_
                refine any_end (by kernel_rfl) ?_
                clear hI18 ac398 hf428 ac399 hf429 ac400 hf430 hf431 ac401 hf432 ac402 hf433 ac403 hf434 ac404 hf435 ac405 hf436 hf437 ac406 hf545 ac504 hf546 ac505 hf547 ac506 hf548 ac507 hf549 ac508 hf550 ac509 hf551 ac510 hf552 ac511 hf553 ac512 hf554 ac513 hf555 ac514 hf556 ac515 hf557 ac516 hf558 ac517 hf559 ac518 hf560 ac519 hf561 ac520 hf562 ac521 hf563 ac522 hf564 ac523 hf565 ac524 hf566 ac525 hf567 ac526 hf568 ac527 hf569 ac528 hf570 ac529 hf571 ac530 hf572 ac531 hf573 ac532 hf574 ac533 hf575 hS5
                refine then_normal ?_
                exact ⟨(hf576.cons 0 rfl (hf576.cons 1 rfl (hf576.cons 2 rfl (hf576.cons 3 rfl (hf576.cons 4 rfl (hf576.cons 6 rfl (hf576.cons 9 rfl (hf576.cons 10 rfl (hf576.cons 11 rfl (hf576.cons 12 rfl (hf576.cons 13 rfl (hf576.cons 14 rfl (hf576.cons 15 rfl (hf576.cons 16 rfl (hf576.cons 18 rfl (hf576.cons 19 rfl (hf576.cons 20 rfl (hf576.cons 21 rfl (hf576.cons 22 rfl (hf576.cons 23 rfl (hf576.cons 24 rfl (hf576.cons 25 rfl (hf576.cons 26 rfl (hf576.cons 27 rfl (hf576.cons 28 rfl (hf576.cons 29 rfl (hf576.cons 30 rfl (hf576.cons 31 rfl (hf576.cons 32 rfl (hf576.cons 33 rfl (hf576.cons 34 rfl (hf576.cons 35 rfl (hf576.cons 36 rfl (hf576.cons 37 rfl (hf576.cons 44 rfl (hf576.cons 45 rfl (hf576.cons 46 rfl (hf576.cons 47 rfl (hf576.cons 48 rfl (hf576.cons 49 rfl (hf576.cons 50 rfl (hf576.cons 51 rfl (hf576.cons 52 rfl (hf576.cons 92 rfl (hf576.cons 91 rfl hf576.nil))))))))))))))))))))))))))))))))))))))))))))), hI19⟩
            · have hf577 := hf431.know 55 (u := .bool false) rfl (congrArg Value.bool g55_14)
              refine any_skip (i := 3) hf577 rfl rfl rfl rfl (fun _ _ _ h => h) (by kernel_rfl) (by kernel_rfl) (by kernel_rfl) hS5 fun ac535 hf578 => ?_
              refine any_skip (i := 4) hf578 rfl rfl rfl rfl (fun _ _ _ h => h) (by kernel_rfl) (by kernel_rfl) (by kernel_rfl) hS5 fun ac536 hf579 => ?_
              refine any_skip (i := 5) hf579 rfl rfl rfl rfl (fun _ _ _ h => h) (by kernel_rfl) (by kernel_rfl) (by kernel_rfl) hS5 fun ac537 hf580 => ?_
              refine any_val (i := 6) (v := .bool false) hf580 rfl rfl rfl rfl rfl rfl (fun _ _ _ h => h) (by kernel_rfl) (by kernel_rfl) (by kernel_rfl) (fun wd11 hS5 => (r_pickF rfl rfl)) hS5 fun ac538 hf581 => ?_
              refine any_val (i := 7) (v := .bool false) hf581 rfl rfl rfl rfl rfl rfl (fun _ _ _ h => h) (by kernel_rfl) (by kernel_rfl) (by kernel_rfl) (fun wd11 hS5 => (r_move rfl)) hS5 fun ac539 hf582 => ?_
              refine any_skip (i := 8) hf582 rfl rfl rfl rfl (fun _ _ _ h => h) (by kernel_rfl) (by kernel_rfl) (by kernel_rfl) hS5 fun ac540 hf583 => ?_
              refine any_skip (i := 9) hf583 rfl rfl rfl rfl (fun _ _ _ h => h) (by kernel_rfl) (by kernel_rfl) (by kernel_rfl) hS5 fun ac541 hf584 => ?_
              refine any_skip (i := 10) hf584 rfl rfl rfl rfl (fun _ _ _ h => h) (by kernel_rfl) (by kernel_rfl) (by kernel_rfl) hS5 fun ac542 hf585 => ?_
              refine any_skip (i := 11) hf585 rfl rfl rfl rfl (fun _ _ _ h => h) (by kernel_rfl) (by kernel_rfl) (by kernel_rfl) hS5 fun ac543 hf586 => ?_
              refine any_val (i := 12) (v := .bool false) hf586 rfl rfl rfl rfl rfl rfl (fun _ _ _ h => h) (by kernel_rfl) (by kernel_rfl) (by kernel_rfl) (fun wd11 hS5 => (r_pickF rfl rfl)) hS5 fun ac544 hf587 => ?_
              refine any_val (i := 13) (v := .bool false) hf587 rfl rfl rfl rfl rfl rfl (fun _ _ _ h => h) (by kernel_rfl) (by kernel_rfl) (by kernel_rfl) (fun wd11 hS5 => (r_move rfl)) hS5 fun ac545 hf588 => ?_
              refine any_skip (i := 14) hf588 rfl rfl rfl rfl (fun _ _ _ h => h) (by kernel_rfl) (by kernel_rfl) (by kernel_rfl) hS5 fun ac546 hf589 => ?_
              refine any_skip (i := 15) hf589 rfl rfl rfl rfl (fun _ _ _ h => h) (by kernel_rfl) (by kernel_rfl) (by kernel_rfl) hS5 fun ac547 hf590 => ?_
              refine any_skip (i := 16) hf590 rfl rfl rfl rfl (fun _ _ _ h => h) (by kernel_rfl) (by kernel_rfl) (by kernel_rfl) hS5 fun ac548 hf591 => ?_
              refine any_val (i := 17) (v := .bool false) hf591 rfl rfl rfl rfl rfl rfl (fun _ _ _ h => h) (by kernel_rfl) (by kernel_rfl) (by kernel_rfl) (fun wd11 hS5 => (r_pickF rfl rfl)) hS5 fun ac549 hf592 => ?_
              refine any_val (i := 18) (v := .bool false) hf592 rfl rfl rfl rfl rfl rfl (fun _ _ _ h => h) (by kernel_rfl) (by kernel_rfl) (by kernel_rfl) (fun wd11 hS5 => (r_move rfl)) hS5 fun ac550 hf593 => ?_
              refine any_skip (i := 19) hf593 rfl rfl rfl rfl (fun _ _ _ h => h) (by kernel_rfl) (by kernel_rfl) (by kernel_rfl) hS5 fun ac551 hf594 => ?_
              refine any_skip (i := 20) hf594 rfl rfl rfl rfl (fun _ _ _ h => h) (by kernel_rfl) (by kernel_rfl) (by kernel_rfl) hS5 fun ac552 hf595 => ?_
              refine any_skip (i := 21) hf595 rfl rfl rfl rfl (fun _ _ _ h => h) (by kernel_rfl) (by kernel_rfl) (by kernel_rfl) hS5 fun ac553 hf596 => ?_
              refine any_val (i := 22) (v := .bool false) hf596 rfl rfl rfl rfl rfl rfl (fun _ _ _ h => h) (by kernel_rfl) (by kernel_rfl) (by kernel_rfl) (fun wd11 hS5 => (r_pickF rfl rfl)) hS5 fun ac554 hf597 => ?_
              refine any_val (i := 23) (v := .bool false) hf597 rfl rfl rfl rfl rfl rfl (fun _ _ _ h => h) (by kernel_rfl) (by kernel_rfl) (by kernel_rfl) (fun wd11 hS5 => (r_move rfl)) hS5 fun ac555 hf598 => ?_
              refine any_skip (i := 24) hf598 rfl rfl rfl rfl (fun _ _ _ h => h) (by kernel_rfl) (by kernel_rfl) (by kernel_rfl) hS5 fun ac556 hf599 => ?_
              refine any_skip (i := 25) hf599 rfl rfl rfl rfl (fun _ _ _ h => h) (by kernel_rfl) (by kernel_rfl) (by kernel_rfl) hS5 fun ac557 hf600 => ?_
              refine any_skip (i := 26) hf600 rfl rfl rfl rfl (fun _ _ _ h => h) (by kernel_rfl) (by kernel_rfl) (by kernel_rfl) hS5 fun ac558 hf601 => ?_
              refine any_skip (i := 27) hf601 rfl rfl rfl rfl (fun _ _ _ h => h) (by kernel_rfl) (by kernel_rfl) (by kernel_rfl) hS5 fun ac559 hf602 => ?_
              refine any_skip (i := 28) hf602 rfl rfl rfl rfl (fun _ _ _ h => h) (by kernel_rfl) (by kernel_rfl) (by kernel_rfl) hS5 fun ac560 hf603 => ?_
              refine any_skip (i := 29) hf603 rfl rfl rfl rfl (fun _ _ _ h => h) (by kernel_rfl) (by kernel_rfl) (by kernel_rfl) hS5 fun ac561 hf604 => ?_
              refine any_skip (i := 30) hf604 rfl rfl rfl rfl (fun _ _ _ h => h) (by kernel_rfl) (by kernel_rfl) (by kernel_rfl) hS5 fun ac562 hf605 => ?_
              refine any_val (i := 31) (v := .bool false) hf605 rfl rfl rfl rfl rfl rfl (fun _ _ _ h => h) (by kernel_rfl) (by kernel_rfl) (by kernel_rfl) (fun wd11 hS5 => (r_pickF rfl rfl)) hS5 fun ac563 hf606 => ?_
              refine any_val (i := 32) (v := .bool false) hf606 rfl rfl rfl rfl rfl rfl (fun _ _ _ h => h) (by kernel_rfl) (by kernel_rfl) (by kernel_rfl) (fun wd11 hS5 => (r_move rfl)) hS5 fun ac564 hf607 => ?_
              refine any_skip (i := 33) hf607 rfl rfl rfl rfl (fun _ _ _ h => h) (by kernel_rfl) (by kernel_rfl) (by kernel_rfl) hS5 fun ac565 hf608 => ?_
              refine any_skip (i := 34) hf608 rfl rfl rfl rfl (fun _ _ _ h => h) (by kernel_rfl) (by kernel_rfl) (by kernel_rfl) hS5 fun ac566 hf609 => ?_
              refine any_skip (i := 35) hf609 rfl rfl rfl rfl (fun _ _ _ h => h) (by kernel_rfl) (by kernel_rfl) (by kernel_rfl) hS5 fun ac567 hf610 => ?_
              refine any_skip (i := 36) hf610 rfl rfl rfl rfl (fun _ _ _ h => h) (by kernel_rfl) (by kernel_rfl) (by kernel_rfl) hS5 fun ac568 hf611 => ?_
              refine any_skip (i := 37) hf611 rfl rfl rfl rfl (fun _ _ _ h => h) (by kernel_rfl) (by kernel_rfl) (by kernel_rfl) hS5 fun ac569 hf612 => ?_
              refine any_val (i := 38) (v := .bool false) hf612 rfl rfl rfl rfl rfl rfl (fun _ _ _ h => h) (by kernel_rfl) (by kernel_rfl) (by kernel_rfl) (fun wd11 hS5 => (r_pickF rfl rfl)) hS5 fun ac570 hf613 => ?_
              refine any_end (by kernel_rfl) ?_
              clear hI18 ac398 hf428 ac399 hf429 ac400 hf430 hf431 ac401 hf577 ac535 hf578 ac536 hf579 ac537 hf580 ac538 hf581 ac539 hf582 ac540 hf583 ac541 hf584 ac542 hf585 ac543 hf586 ac544 hf587 ac545 hf588 ac546 hf589 ac547 hf590 ac548 hf591 ac549 hf592 ac550 hf593 ac551 hf594 ac552 hf595 ac553 hf596 ac554 hf597 ac555 hf598 ac556 hf599 ac557 hf600 ac558 hf601 ac559 hf602 ac560 hf603 ac561 hf604 ac562 hf605 ac563 hf606 ac564 hf607 ac565 hf608 ac566 hf609 ac567 hf610 ac568 hf611 ac569 hf612 hS5
              refine then_normal ?_
              exact ⟨(hf613.cons 0 rfl (hf613.cons 1 rfl (hf613.cons 2 rfl (hf613.cons 3 rfl (hf613.cons 4 rfl (hf613.cons 6 rfl (hf613.cons 9 rfl (hf613.cons 10 rfl (hf613.cons 11 rfl (hf613.cons 12 rfl (hf613.cons 13 rfl (hf613.cons 14 rfl (hf613.cons 15 rfl (hf613.cons 16 rfl (hf613.cons 18 rfl (hf613.cons 19 rfl (hf613.cons 20 rfl (hf613.cons 21 rfl (hf613.cons 22 rfl (hf613.cons 23 rfl (hf613.cons 24 rfl (hf613.cons 25 rfl (hf613.cons 26 rfl (hf613.cons 27 rfl (hf613.cons 28 rfl (hf613.cons 29 rfl (hf613.cons 30 rfl (hf613.cons 31 rfl (hf613.cons 32 rfl (hf613.cons 33 rfl (hf613.cons 34 rfl (hf613.cons 35 rfl (hf613.cons 36 rfl (hf613.cons 37 rfl (hf613.cons 44 rfl (hf613.cons 45 rfl (hf613.cons 46 rfl (hf613.cons 47 rfl (hf613.cons 48 rfl (hf613.cons 49 rfl (hf613.cons 50 rfl (hf613.cons 51 rfl (hf613.cons 52 rfl (hf613.cons 92 rfl (hf613.cons 91 rfl hf613.nil))))))))))))))))))))))))))))))))))))))))))))), hI19⟩
          ·
            intro ac571 wd13 hf614 hI21
            clear ac398 wd11 hf428 hI18
            refine then_normal ?_
            refine code_if_false hf614 rfl ?_
            refine wp_skip ?_
            refine block_normal ?_
            refine then_normal ?_
            refine seq_start (l := [0, 1]) rfl ?_
            refine seq_one (op_val (v := .int .i64 3) hf614 rfl rfl rfl rfl rfl rfl (r_add (c := 3) rfl rfl (by rfl)) fun ac572 hf615 => ?_)
            refine seq_one (op_val (v := .int .i64 3) hf615 rfl rfl rfl rfl rfl rfl (r_move rfl) fun ac573 hf616 => ?_)
            refine seq_end ?_
            clear ac571 hf614 ac572 hf615
            refine then_normal ?_
            refine rounds_go ?_
            refine code_seq ?_
            refine seq_start (l := [0]) rfl ?_
            refine seq_one (op_val (v := .bool false) hf616 rfl rfl rfl rfl rfl rfl (r_lssC rfl rfl (by decide)) fun ac574 hf617 => ?_)
            refine seq_end ?_
            clear ac573 hf616
            refine then_normal ?_
            refine code_seq ?_
            refine code_if_false hf617 rfl ?_
            refine wp_exit ?_
            refine then_exit ?_
            refine then_exit ?_
            refine block_here ?_
            refine then_normal ?_
            refine code_seq ?_
            refine seq_start (l := [0]) rfl ?_
            refine seq_one (op_val (v := .int .i64 1) hf617 rfl rfl rfl rfl rfl rfl (r_assign rfl) fun ac575 hf618 => ?_)
            refine seq_end ?_
            clear ac574 hf617
            refine then_normal ?_
            refine code_seq ?_
            refine code_seq ?_
            refine seq_start (l := [0, 1, 2]) rfl ?_
            refine seq_one (op_val (v := .slice q ys.length caq) hf618 rfl rfl rfl rfl rfl rfl (r_move rfl) fun ac576 hf619 => ?_)
            refine seq_one (op_val (v := .int .i64 (ys.length : Int)) hf619 rfl rfl rfl rfl rfl rfl (r_len sl_48 rfl) fun ac577 hf620 => ?_)
            refine seq_one (op_val (v := .bool (decide ((ys.length : Int) > 0))) hf620 rfl rfl rfl rfl rfl rfl (r_gtr rfl rfl) fun ac578 hf621 => ?_)
            refine seq_end ?_
            clear ac575 hf618 ac576 hf619 ac577 hf620
            refine then_normal ?_
            refine code_joinG 116 ((Int)) (fun (m : Int) => [(0, .agg #[.int .u32 x0, .int .u32 x1, .int .u32 x2]), (1, .slice p L cap), (2, .agg #[.bool g0, .bool g1, .bool g2]), (3, .slice q ys.length caq), (4, .pointer (some ⟨b1, 0, none⟩)), (6, .pointer (some ⟨b2, 0, none⟩)), (9, .pointer (some ⟨b3, 0, none⟩)), (10, .bool true), (11, .pointer (some ⟨b4, 0, none⟩)), (12, .int .i64 bf), (13, .int .i64 (i : Int)), (14, .int .i64 d_5), (15, .bool true), (16, .int .i64 2), (18, .tuple #[.pointer (some ⟨b3, 0, none⟩), .bool true]), (19, .agg #[.int .u32 x0, .int .u32 x1, .int .u32 x2]), (20, .slice p L cap), (21, .tuple #[.pointer (some ⟨b3, 0, none⟩), .bool true]), (22, .pointer (some ⟨b3, 0, none⟩)), (23, .bool true), (24, .bool true), (25, .bool false), (26, .agg #[.int .i64 (-1), .int .i64 (-1), .int .i64 (-1)]), (27, .int .i64 (i : Int)), (28, .bool true), (29, .int .i64 (i : Int)), (30, .tuple #[.int .i64 d_5, .bool true]), (31, .pointer (some ⟨b3, 0, none⟩)), (32, .agg #[.bool g0, .bool g1, .bool g2]), (33, .tuple #[.int .i64 d_5, .bool true]), (34, .int .i64 d_5), (35, .bool true), (36, .bool true), (37, .bool false), (44, .int .i64 d_5), (45, .bool (decide (d_5 < 0))), (46, .bool false), (47, .int .i64 d_5), (48, .bool (decide (d_5 > 2))), (49, .bool false), (50, .int .i64 3), (51, .bool false), (52, .int .i64 2), (91, .bool false), (92, .int .i64 3), (93, .slice q ys.length caq), (94, .int .i64 (ys.length : Int)), (17, .int .i64 m)]) (fun (m : Int) => fun w' => Inv w [(b1, #[.int .u32 x0, .int .u32 x1, .int .u32 x2], 47), (b2, #[.bool g0, .bool g1, .bool g2], 33), (b3, #[.int .i64 w0, .int .i64 w1, .int .i64 w2, .int .i64 a_5, .int .i64 b_5, .int .i64 c_5, .int .i64 d_5], 58), (b4, #[.int .i64 l0, .int .i64 l1, .int .i64 l2], 22)] w' ∧ (1 ≤ m ∧ m ≤ 65536)) ?_ ?_
            ·
              refine code_if hf621 rfl (fun c95_20 => ?_) (fun c95_20 => ?_)
              · have hf622 := hf621.know 95 (u := .bool true) rfl (congrArg Value.bool c95_20)
                refine seq_start (l := [0, 1, 2, 3, 4, 5, 6, 7, 8, 9, 10]) rfl ?_
                refine seq_one (op_val (v := .int .i64 1) hf622 rfl rfl rfl rfl rfl rfl (r_move rfl) fun ac579 hf623 => ?_)
                refine seq_one (op_val (v := .slice q ys.length caq) hf623 rfl rfl rfl rfl rfl rfl (r_move rfl) fun ac580 hf624 => ?_)
                refine seq_one (op_val (v := .int .i64 (i : Int)) hf624 rfl rfl rfl rfl rfl rfl (r_move rfl) fun ac581 hf625 => ?_)
                refine seq_one (op_val (v := .slice q ys.length caq) hf625 rfl rfl rfl rfl rfl rfl (r_move rfl) fun ac582 hf626 => ?_)
                refine seq_one (op_val (v := .int .i64 (ys.length : Int)) hf626 rfl rfl rfl rfl rfl rfl (r_len sl_48 rfl) fun ac583 hf627 => ?_)
                have hl0 : 0 < ys.length := by have := of_decide_eq_true c95_20; omega
                have hl1 : (ys.length : Int) ≠ 0 := by omega
                have hl2 := Nat.mod_lt i hl0
                have hl3 := bounds_u16 (hy.getD hl2)
                have hl4 : i < 60 := by have := of_decide_eq_true c28_1; omega
                refine seq_one (op_val (v := .int .i64 ((i % ys.length : Nat) : Int)) hf627 rfl rfl rfl rfl rfl rfl (r_rem (c := ((i % ys.length : Nat) : Int)) rfl rfl (by omega) idx_mod) fun ac584 hf628 => ?_)
                refine seq_one (op_val (v := .pointer (slAt q (i % ys.length))) hf628 rfl rfl rfl rfl rfl rfl (r_indexAddrV (i := (i % ys.length)) sl_48 rfl rfl rfl hl2 (let r := (hq.old hI21 (fresh_keys (ks := [b1, b2, b3, b4]) rfl (fk_cons hb1 (fk_cons hb2 (fk_cons hb3 (fk_cons hb4 fk_nil)))))) (i % ys.length) hl2; ⟨r.choose, r.choose_spec.1⟩)) fun ac585 hf629 => ?_)
                refine seq_one (op_val (v := .int .u16 (ys.getD (i % ys.length) 0)) hf629 rfl rfl rfl rfl rfl rfl (r_loadV ag_52 rfl (hq.old hI21 (fresh_keys (ks := [b1, b2, b3, b4]) rfl (fk_cons hb1 (fk_cons hb2 (fk_cons hb3 (fk_cons hb4 fk_nil)))))) hl2) fun ac586 hf630 => ?_)
                refine seq_one (op_val (v := .int .i64 (ys.getD (i % ys.length) 0)) hf630 rfl rfl rfl rfl rfl rfl (r_conv (c := (ys.getD (i % ys.length) 0)) ui_52 ui_3 rfl (wrap_i64 (by omega) (by omega))) fun ac587 hf631 => ?_)
                refine seq_one (op_val (v := .int .i64 (1 + ys.getD (i % ys.length) 0)) hf631 rfl rfl rfl rfl rfl rfl (r_add (c := (1 + ys.getD (i % ys.length) 0)) rfl rfl (wrap_i64 (by omega) (by omega))) fun ac588 hf632 => ?_)
                refine seq_one (op_val (v := .int .i64 (1 + ys.getD (i % ys.length) 0)) hf632 rfl rfl rfl rfl rfl rfl (r_assign rfl) fun ac589 hf633 => ?_)
                refine seq_end ?_
                clear hf621 ac578 hf622 ac579 hf623 ac580 hf624 ac581 hf625 ac582 hf626 ac583 hf627 ac584 hf628 ac585 hf629 ac586 hf630 ac587 hf631 ac588 hf632
                refine then_normal ?_
                exact ⟨((1 + ys.getD (i % ys.length) 0)), (hf633.cons 0 rfl (hf633.cons 1 rfl (hf633.cons 2 rfl (hf633.cons 3 rfl (hf633.cons 4 rfl (hf633.cons 6 rfl (hf633.cons 9 rfl (hf633.cons 10 rfl (hf633.cons 11 rfl (hf633.cons 12 rfl (hf633.cons 13 rfl (hf633.cons 14 rfl (hf633.cons 15 rfl (hf633.cons 16 rfl (hf633.cons 18 rfl (hf633.cons 19 rfl (hf633.cons 20 rfl (hf633.cons 21 rfl (hf633.cons 22 rfl (hf633.cons 23 rfl (hf633.cons 24 rfl (hf633.cons 25 rfl (hf633.cons 26 rfl (hf633.cons 27 rfl (hf633.cons 28 rfl (hf633.cons 29 rfl (hf633.cons 30 rfl (hf633.cons 31 rfl (hf633.cons 32 rfl (hf633.cons 33 rfl (hf633.cons 34 rfl (hf633.cons 35 rfl (hf633.cons 36 rfl (hf633.cons 37 rfl (hf633.cons 44 rfl (hf633.cons 45 rfl (hf633.cons 46 rfl (hf633.cons 47 rfl (hf633.cons 48 rfl (hf633.cons 49 rfl (hf633.cons 50 rfl (hf633.cons 51 rfl (hf633.cons 52 rfl (hf633.cons 91 rfl (hf633.cons 92 rfl (hf633.cons 93 rfl (hf633.cons 94 rfl (hf633.cons 17 rfl hf633.nil)))))))))))))))))))))))))))))))))))))))))))))))), ⟨hI21, ⟨by omega, by omega⟩⟩⟩
              · have hf634 := hf621.know 95 (u := .bool false) rfl (congrArg Value.bool c95_20)
                refine wp_skip ?_
                refine then_normal ?_
                clear hf621
                exact ⟨(1), (hf634.cons 0 rfl (hf634.cons 1 rfl (hf634.cons 2 rfl (hf634.cons 3 rfl (hf634.cons 4 rfl (hf634.cons 6 rfl (hf634.cons 9 rfl (hf634.cons 10 rfl (hf634.cons 11 rfl (hf634.cons 12 rfl (hf634.cons 13 rfl (hf634.cons 14 rfl (hf634.cons 15 rfl (hf634.cons 16 rfl (hf634.cons 18 rfl (hf634.cons 19 rfl (hf634.cons 20 rfl (hf634.cons 21 rfl (hf634.cons 22 rfl (hf634.cons 23 rfl (hf634.cons 24 rfl (hf634.cons 25 rfl (hf634.cons 26 rfl (hf634.cons 27 rfl (hf634.cons 28 rfl (hf634.cons 29 rfl (hf634.cons 30 rfl (hf634.cons 31 rfl (hf634.cons 32 rfl (hf634.cons 33 rfl (hf634.cons 34 rfl (hf634.cons 35 rfl (hf634.cons 36 rfl (hf634.cons 37 rfl (hf634.cons 44 rfl (hf634.cons 45 rfl (hf634.cons 46 rfl (hf634.cons 47 rfl (hf634.cons 48 rfl (hf634.cons 49 rfl (hf634.cons 50 rfl (hf634.cons 51 rfl (hf634.cons 52 rfl (hf634.cons 91 rfl (hf634.cons 92 rfl (hf634.cons 93 rfl (hf634.cons 94 rfl (hf634.cons 17 rfl hf634.nil)))))))))))))))))))))))))))))))))))))))))))))))), ⟨hI21, ⟨by decide, by decide⟩⟩⟩
            ·
              intro m ac590 wd14 hf635 ⟨hI22, hj22⟩
              clear ac578 wd13 hf621 hI21
              have hm := hj22
              refine then_normal ?_
              refine code_seq ?_
              refine code_seq ?_
              refine seq_start (l := [0, 1, 2, 3]) rfl ?_
              refine seq_one (op_val (v := .pointer (some ⟨b3, 0, none⟩)) hf635 rfl rfl rfl rfl rfl rfl (r_move rfl) fun ac591 hf636 => ?_)
              refine seq_one (op_val (v := .int .i64 m) hf636 rfl rfl rfl rfl rfl rfl (r_move rfl) fun ac592 hf637 => ?_)
              refine seq_one (op_call (R := fun v w' => v = (.int .i64 (spE m ⟨a_5, b_5, c_5, d_5⟩)) ∧ Inv wd14 [(b3, #[.int .i64 w0, .int .i64 w1, .int .i64 w2, .int .i64 (((spS m ⟨a_5, b_5, c_5, d_5⟩ : St)).c0), .int .i64 (((spS m ⟨a_5, b_5, c_5, d_5⟩ : St)).c1), .int .i64 (((spS m ⟨a_5, b_5, c_5, d_5⟩ : St)).c2), .int .i64 (((spS m ⟨a_5, b_5, c_5, d_5⟩ : St)).now)], 58)] w') hf637 rfl rfl rfl rfl ca_14 ((spend_walk w0 w1 w2 a_5 b_5 c_5 d_5 m hd.v.ne hd.v ho5 b3 _ (Has.cons (hI22.at 2 rfl) Has.nil)).mono fun _ _ h => ⟨_, h.1, rfl, h.2⟩) fun ac593 v wd15 hR hf638 => ?_)
              obtain ⟨rfl, hR⟩ := hR
              obtain ⟨a_6, b_6, c_6, d_6, he6⟩ : ∃ a b c d, (spS m ⟨a_5, b_5, c_5, d_5⟩ : St) = ⟨a, b, c, d⟩ := ⟨_, _, _, _, rfl⟩
              rw [he6] at hR
              dsimp only at hR
              have ho6 : Ok w0 w1 w2 ⟨a_6, b_6, c_6, d_6⟩ := by rw [← he6]; exact (spS_ok ho5)
              have hI23 : Inv w [(b1, #[.int .u32 x0, .int .u32 x1, .int .u32 x2], 47), (b2, #[.bool g0, .bool g1, .bool g2], 33), (b3, #[.int .i64 w0, .int .i64 w1, .int .i64 w2, .int .i64 a_6, .int .i64 b_6, .int .i64 c_6, .int .i64 d_6], 58), (b4, #[.int .i64 l0, .int .i64 l1, .int .i64 l2], 22)] _ := Inv.callS (A := [(b1, #[.int .u32 x0, .int .u32 x1, .int .u32 x2], 47), (b2, #[.bool g0, .bool g1, .bool g2], 33)]) (S := [(b3, #[.int .i64 w0, .int .i64 w1, .int .i64 w2, .int .i64 a_5, .int .i64 b_5, .int .i64 c_5, .int .i64 d_5], 58)]) (S' := [(b3, #[.int .i64 w0, .int .i64 w1, .int .i64 w2, .int .i64 a_6, .int .i64 b_6, .int .i64 c_6, .int .i64 d_6], 58)]) (L := [(b4, #[.int .i64 l0, .int .i64 l1, .int .i64 l2], 22)]) (N := []) hI22 hR rfl (fun _ h => by cases h)
              have hs6 := spent_now hk5 hm.1 hm.2 he6
              refine seq_one (op_val (v := .bool ((spE m ⟨a_5, b_5, c_5, d_5⟩) != 0)) hf638 rfl rfl rfl rfl rfl rfl (r_neq rfl rfl) fun ac594 hf639 => ?_)
              refine seq_end ?_
              clear ac590 hf635 ac591 hf636 ac592 wd14 hf637 hI22 hR ac593 hf638
              refine then_normal ?_
              have hf640 := hf639.know 109 (u := .bool false) rfl (congrArg Value.bool (bne_eq_false_iff_eq.2 hs6.1))
              refine code_if_false hf640 rfl ?_
              refine wp_skip ?_
              refine then_normal ?_
              refine seq_start (l := [0, 1, 2, 3, 4, 5]) rfl ?_
              refine seq_one (op_val (v := .int .i64 d_5) hf640 rfl rfl rfl rfl rfl rfl (r_move rfl) fun ac595 hf641 => ?_)
              refine seq_one (op_val (v := .int .i64 (i : Int)) hf641 rfl rfl rfl rfl rfl rfl (r_move rfl) fun ac596 hf642 => ?_)
              refine seq_one (op_val (v := .int .i64 d_5) hf642 rfl rfl rfl rfl rfl rfl (r_move rfl) fun ac597 hf643 => ?_)
              refine seq_one (op_val (v := .pointer (some ⟨b4, 0 + d_5.toNat, none⟩)) hf643 rfl rfl rfl rfl rfl rfl (r_indexAddr (i := d_5.toNat) ar_22 rfl rfl (idx3 hk5.now).1 (idx3 hk5.now).2 (by rw [Nat.mul_one])) fun ac598 hf644 => ?_)
              refine seq_one (op_store (cs' := #[.int .i64 (upd3 d_5 0 (i : Int) l0), .int .i64 (upd3 d_5 1 (i : Int) l1), .int .i64 (upd3 d_5 2 (i : Int) l2)]) 3 hf644 rfl rfl rfl rfl rfl sz_3 hI23 rfl (by have := (idx3 hk5.now).2; show 0 + d_5.toNat < 3; omega) (by rcases hk5.now with h | h | h <;> rw [h] <;> rfl) fun wd16 hI24 => ?_)
              have hI25 : Inv w [(b1, #[.int .u32 x0, .int .u32 x1, .int .u32 x2], 47), (b2, #[.bool g0, .bool g1, .bool g2], 33), (b3, #[.int .i64 w0, .int .i64 w1, .int .i64 w2, .int .i64 a_6, .int .i64 b_6, .int .i64 c_6, .int .i64 d_6], 58), (b4, #[.int .i64 (upd3 d_5 0 (i : Int) l0), .int .i64 (upd3 d_5 1 (i : Int) l1), .int .i64 (upd3 d_5 2 (i : Int) l2)], 22)] wd16 := hI24
              refine seq_one (op_val (v := .int .i64 d_5) hf644 rfl rfl rfl rfl rfl rfl (r_assign rfl) fun ac599 hf645 => ?_)
              refine seq_end ?_
              clear hf639 ac594 hf640 ac595 hf641 ac596 hf642 ac597 hf643 wd15 hI23 hI24 ac598 hf644
              refine block_normal ?_
              refine then_normal ?_
              refine seq_start (l := [0, 1]) rfl ?_
              refine seq_one (op_val (v := .int .i64 ((i + 1 : Nat) : Int)) hf645 rfl rfl rfl rfl rfl rfl (r_add (c := ((i + 1 : Nat) : Int)) rfl rfl (wrap_i64 (by omega) (by have := hx1.le; omega))) fun ac600 hf646 => ?_)
              refine seq_one (op_val (v := .int .i64 ((i + 1 : Nat) : Int)) hf646 rfl rfl rfl rfl rfl rfl (r_move rfl) fun ac601 hf647 => ?_)
              refine seq_end ?_
              clear ac599 hf645 ac600 hf646
              refine then_normal ?_
              exact ⟨(i + 1, a_6, b_6, c_6, d_6, upd3 d_5 0 (i : Int) l0, upd3 d_5 1 (i : Int) l1, upd3 d_5 2 (i : Int) l2, d_5), (hf647.cons 0 rfl (hf647.cons 1 rfl (hf647.cons 2 rfl (hf647.cons 3 rfl (hf647.cons 4 rfl (hf647.cons 6 rfl (hf647.cons 9 rfl (hf647.cons 10 rfl (hf647.cons 11 rfl (hf647.cons 18 rfl (hf647.cons 19 rfl (hf647.cons 20 rfl (hf647.cons 21 rfl (hf647.cons 22 rfl (hf647.cons 23 rfl (hf647.cons 24 rfl (hf647.cons 25 rfl (hf647.cons 26 rfl (hf647.cons 12 rfl (hf647.cons 27 rfl hf647.nil)))))))))))))))))))), ⟨hI25, (hx1.next hd.v ha he5 hk5.now hm.1 hm.2 he6 hs6.2.2 (by have := of_decide_eq_true c28_1; omega))⟩, (by have := of_decide_eq_true c28_1; show 60 - (i + 1) < 60 - i; omega)⟩
    ·
      have hf648 := hf26.know 33 (u := .tuple #[.int .i64 0, .bool false]) rfl (by rw [pickN_none ha, ha])
      refine seq_one (op_val (v := .tuple #[.int .i64 0, .bool false]) hf648 rfl rfl rfl rfl rfl rfl (r_move rfl) fun ac602 hf649 => ?_)
      refine seq_one (op_val (v := .int .i64 0) hf649 rfl rfl rfl rfl rfl rfl (r_extract rfl rfl) fun ac603 hf650 => ?_)
      refine seq_one (op_val (v := .bool false) hf650 rfl rfl rfl rfl rfl rfl (r_extract rfl rfl) fun ac604 hf651 => ?_)
      refine seq_one (op_val (v := .int .i64 0) hf651 rfl rfl rfl rfl rfl rfl (r_assign rfl) fun ac605 hf652 => ?_)
      refine seq_one (op_val (v := .bool false) hf652 rfl rfl rfl rfl rfl rfl (r_assign rfl) fun ac606 hf653 => ?_)
      refine seq_end ?_
      clear ac22 hf23 ac23 hf24 ac24 wd6 hf25 hI11 hR hf26 ac25 hf648 ac602 hf649 ac603 hf650 ac604 hf651 ac605 hf652
      refine then_normal ?_
      refine code_seq ?_
      refine code_seq ?_
      refine seq_start (l := [0, 1]) rfl ?_
      refine seq_one (op_val (v := .bool false) hf653 rfl rfl rfl rfl rfl rfl (r_move rfl) fun ac607 hf654 => ?_)
      refine seq_one (op_val (v := .bool true) hf654 rfl rfl rfl rfl rfl rfl ((r_not (b := false) rfl).trans rfl) fun ac608 hf655 => ?_)
      refine seq_end ?_
      clear ac606 hf653 ac607 hf654
      refine then_normal ?_
      refine code_if_true hf655 rfl ?_
      refine code_seq ?_
      refine seq_start (l := [0, 1, 2, 3, 4, 5, 6]) rfl ?_
      refine seq_one (op_val (v := .agg #[.bool g0, .bool g1, .bool g2]) hf655 rfl rfl rfl rfl rfl rfl (r_loadW ag_33 sz_33 rfl (hI12.at 1 rfl) rfl) fun ac609 hf656 => ?_)
      refine seq_one (op_val (v := .agg #[.bool false, .bool false, .bool false]) hf656 rfl rfl rfl rfl rfl rfl (r_build (v := .agg #[.bool false, .bool false, .bool false]) rfl (fun _ => by kernel_rfl)) fun ac610 hf657 => ?_)
      refine seq_one (op_val (v := .bool (eqA (#[.bool g0, .bool g1, .bool g2]) (#[.bool false, .bool false, .bool false]))) hf657 rfl rfl rfl rfl rfl rfl (r_eqA sh_33 kt_33 rw_33 rfl zk_33 eg_33 rfl rfl ⟨⟨_, rfl⟩, ⟨_, rfl⟩, ⟨_, rfl⟩, trivial⟩ ⟨⟨_, rfl⟩, ⟨_, rfl⟩, ⟨_, rfl⟩, trivial⟩) fun ac611 hf658 => ?_)
      refine seq_one (op_val (v := .bool (eqA (#[.bool g0, .bool g1, .bool g2]) (#[.bool false, .bool false, .bool false]))) hf658 rfl rfl rfl rfl rfl rfl (r_move rfl) fun ac612 hf659 => ?_)
      have hf660 := hf659.know 41 (u := .bool true) rfl (congrArg Value.bool (eqA_true (by simp at ha; simp [ha])))
      refine seq_one (op_pure hf660 rfl rfl rfl rfl ca_11 awake_pur hI12 fun ac613 wd17 hI26 hf661 => ?_)
      refine seq_one (op_val (v := .bool true) hf661 rfl rfl rfl rfl rfl rfl (r_pickT rfl rfl) fun ac614 hf662 => ?_)
      refine seq_one (op_val (v := .bool true) hf662 rfl rfl rfl rfl rfl rfl (r_assign rfl) fun ac615 hf663 => ?_)
      refine seq_end ?_
      clear ac608 hf655 ac609 hf656 ac610 hf657 ac611 hf658 hf659 ac612 wd7 hI12 hf660 ac613 hf661 ac614 hf662
      refine then_normal ?_
      refine wp_ret ?_
      refine then_ret ?_
      refine block_ret ?_
      refine then_ret ?_
      refine then_ret ?_
      refine block_ret ?_
      refine then_ret ?_
      refine post1 rfl hf663 rfl ⟨?_, hI26.done (fresh_keys (ks := [b1, b2, b3, b4]) rfl (fk_cons hb1 (fk_cons hb2 (fk_cons hb3 (fk_cons hb4 fk_nil)))))⟩
      rfl
  · have hf664 := hf20.know 28 (u := .bool false) rfl (congrArg Value.bool c28_1)
    refine wp_exit ?_
    refine then_exit ?_
    refine then_exit ?_
    refine block_here ?_
    refine then_normal ?_
    refine code_seq ?_
    refine seq_start (l := [0, 1]) rfl ?_
    refine seq_one (op_pure hf664 rfl rfl rfl rfl ca_11 awake_pur hI11 fun ac616 wd18 hI27 hf665 => ?_)
    refine seq_one (op_val (v := .bool true) hf665 rfl rfl rfl rfl rfl rfl (r_assign rfl) fun ac617 hf666 => ?_)
    refine seq_end ?_
    clear hf20 ac20 wd6 hI11 hf664 ac616 hf665
    refine then_normal ?_
    refine wp_ret ?_
    refine post1 rfl hf666 rfl ⟨?_, hI27.done (fresh_keys (ks := [b1, b2, b3, b4]) rfl (fk_cons hb1 (fk_cons hb2 (fk_cons hb3 (fk_cons hb4 fk_nil)))))⟩
    rfl
end Go.Proofs.Ytkfilmdnpocinaa
