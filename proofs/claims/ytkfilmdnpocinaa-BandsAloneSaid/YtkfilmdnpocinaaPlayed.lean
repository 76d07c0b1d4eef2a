/-
  Bands behind calls.
-/
import Derived.Test.YtkfilmdnpocinaaFns3
namespace Go.Proofs.Ytkfilmdnpocinaa
set_option linter.unusedVariables false
set_option linter.unusedSimpArgs false
set_option maxRecDepth 100000
open Go.RowKit
set_option maxHeartbeats 8000000 in
theorem played_walk (x0 x1 x2 w0 w1 w2 : Int) (hd : Wd x0 x1 x2 w0 w1 w2) {p : Option Addr} {L cap : Nat} {rows : List (List Value)} (hl : rows.length = L) (hc : L ≤ cap) (ho : ∀ row ∈ rows, Oks opKinds row) (w : World) (hr : Rows_ w p 5 rows) : Calls Try.prog 18 [.agg #[.int .u32 x0, .int .u32 x1, .int .u32 x2], .slice p L cap].toArray w fun e w' => ∃ b, ∃ s : St, w.heap.size ≤ b ∧ Ok w0 w1 w2 s ∧ e = .returned (.tuple #[.pointer (some ⟨b, 0, none⟩), .bool true]) ∧ Inv w [(b, #[.int .i64 w0, .int .i64 w1, .int .i64 w2, .int .i64 s.c0, .int .i64 s.c1, .int .i64 s.c2, .int .i64 s.now], 58)] w' := by
  have hI1 := Inv.start w
  refine enter (n := 44) Try.func18 rfl rfl rfl ?_
  intro ac1 hf1
  refine code_seq ?_
  refine seq_start (l := [0, 1, 2]) rfl ?_
  refine seq_one (op_box hf1 rfl rfl rfl rfl hI1 fun ac2 b1 wd1 hb1 hI2 hf2 => ?_)
  have hI3 : Inv w [(b1, #[.int .u32 x0, .int .u32 x1, .int .u32 x2], 47)] wd1 := hI2
  refine seq_one (op_val (v := .pointer none) hf2 rfl rfl rfl rfl rfl rfl (r_assign rfl) fun ac3 hf3 => ?_)
  refine seq_one (op_val (v := .bool false) hf3 rfl rfl rfl rfl rfl rfl (r_assign rfl) fun ac4 hf4 => ?_)
  refine seq_end ?_
  clear ac1 hI1 hf1 hI2 ac2 hf2 ac3 hf3
  refine then_normal ?_
  refine code_seq ?_
  refine seq_start (l := [0, 1, 2, 3, 4, 5, 6, 7]) rfl ?_
  refine seq_one (op_val (v := .agg #[.int .u32 x0, .int .u32 x1, .int .u32 x2]) hf4 rfl rfl rfl rfl rfl rfl (r_loadW ag_47 sz_47 rfl (hI3.at 0 rfl) rfl) fun ac5 hf5 => ?_)
  refine seq_one (op_pure hf5 rfl rfl rfl rfl ca_19 (weighed_pur x0 x1 x2 w0 w1 w2 hd) hI3 fun ac6 wd2 hI4 hf6 => ?_)
  refine seq_one (op_call (R := fun v w' => ∃ b, wd2.heap.size ≤ b ∧ v = .tuple #[.pointer (some ⟨b, 0, none⟩), .int .i64 0] ∧ Inv wd2 [(b, #[.int .i64 w0, .int .i64 w1, .int .i64 w2, .int .i64 w0, .int .i64 w1, .int .i64 w2, .int .i64 0], 58)] w') hf6 rfl rfl rfl rfl ca_9 ((new_walk w0 w1 w2 _).mono fun e w' h => by rcases h with ⟨_, b, h1, h2, h3⟩ | ⟨h, _⟩; exact ⟨_, h2, b, h1, rfl, h3⟩; exact absurd hd.v h) fun ac7 v wd3 hR hf7 => ?_)
  obtain ⟨b2, hqb2, rfl, hwb2⟩ := hR
  have hb2 := Nat.le_trans hI4.size hqb2
  have hI5 : Inv w [(b1, #[.int .u32 x0, .int .u32 x1, .int .u32 x2], 47), (b2, #[.int .i64 w0, .int .i64 w1, .int .i64 w2, .int .i64 w0, .int .i64 w1, .int .i64 w2, .int .i64 0], 58)] _ := hI4.callN hwb2 (fun x hx => by simp only [List.mem_singleton] at hx; subst hx; exact hqb2)
  refine seq_one (op_val (v := .tuple #[.pointer (some ⟨b2, 0, none⟩), .int .i64 0]) hf7 rfl rfl rfl rfl rfl rfl (r_move rfl) fun ac8 hf8 => ?_)
  refine seq_one (op_val (v := .pointer (some ⟨b2, 0, none⟩)) hf8 rfl rfl rfl rfl rfl rfl (r_extract rfl rfl) fun ac9 hf9 => ?_)
  refine seq_one (op_val (v := .int .i64 0) hf9 rfl rfl rfl rfl rfl rfl (r_extract rfl rfl) fun ac10 hf10 => ?_)
  refine seq_one (op_val (v := .pointer (some ⟨b2, 0, none⟩)) hf10 rfl rfl rfl rfl rfl rfl (r_assign rfl) fun ac11 hf11 => ?_)
  refine seq_one (op_val (v := .int .i64 0) hf11 rfl rfl rfl rfl rfl rfl (r_assign rfl) fun ac12 hf12 => ?_)
  refine seq_end ?_
  clear ac4 hf4 ac5 wd1 hI3 hf5 ac6 wd2 hf6 hI4 hwb2 hqb2 ac7 hf7 ac8 hf8 ac9 hf9 ac10 hf10 ac11 hf11
  refine then_normal ?_
  refine code_seq ?_
  refine code_seq ?_
  refine seq_start (l := [0, 1, 2, 3, 4, 5, 6]) rfl ?_
  refine seq_one (op_val (v := .slice p L cap) hf12 rfl rfl rfl rfl rfl rfl (r_move rfl) fun ac13 hf13 => ?_)
  refine seq_one (op_val (v := .slice p L cap) hf13 rfl rfl rfl rfl rfl rfl (r_move rfl) fun ac14 hf14 => ?_)
  refine seq_one (op_val (v := .int .i64 (L : Int)) hf14 rfl rfl rfl rfl rfl rfl (r_len sl_23 rfl) fun ac15 hf15 => ?_)
  refine seq_one (op_val (v := .int .i64 ((min L 40 : Nat) : Int)) hf15 rfl rfl rfl rfl rfl rfl (r_minC (c := ((min L 40 : Nat) : Int)) rfl rfl (by split <;> omega)) fun ac16 hf16 => ?_)
  refine seq_one (op_val (v := .slice p (min L 40) cap) hf16 rfl rfl rfl rfl rfl rfl (r_sliceH (h := (min L 40)) sl_23 rfl rfl (by omega)) fun ac17 hf17 => ?_)
  refine seq_one (op_val (v := .int .i64 (((min L 40) : Nat) : Int)) hf17 rfl rfl rfl rfl rfl rfl (r_len sl_23 rfl) fun ac18 hf18 => ?_)
  refine seq_one (op_val (v := .int .i64 0) hf18 rfl rfl rfl rfl rfl rfl (r_move rfl) fun ac19 hf19 => ?_)
  refine seq_end ?_
  clear ac12 hf12 ac13 hf13 ac14 hf14 ac15 hf15 ac16 hf16 ac17 hf17 ac18 hf18
  refine then_normal ?_
  refine wp_block ?_
  refine code_loop (α := Nat × Int × Int × Int × Int) (fun (x : Nat × Int × Int × Int × Int) => match x with | (i, d0, d1, d2, j) => [(0, .agg #[.int .u32 x0, .int .u32 x1, .int .u32 x2]), (1, .slice p L cap), (2, .pointer (some ⟨b1, 0, none⟩)), (4, .pointer none), (5, .bool false), (6, .pointer (some ⟨b2, 0, none⟩)), (7, .int .i64 0), (10, .tuple #[.pointer (some ⟨b2, 0, none⟩), .int .i64 0]), (11, .agg #[.int .u32 x0, .int .u32 x1, .int .u32 x2]), (12, .agg #[.int .i64 w0, .int .i64 w1, .int .i64 w2]), (13, .tuple #[.pointer (some ⟨b2, 0, none⟩), .int .i64 0]), (14, .pointer (some ⟨b2, 0, none⟩)), (15, .int .i64 0), (16, .slice p L cap), (17, .slice p L cap), (18, .int .i64 (L : Int)), (19, .int .i64 ((min L 40 : Nat) : Int)), (20, .slice p (min L 40) cap), (21, .int .i64 (((min L 40) : Nat) : Int)), (22, .int .i64 (i : Int))]) (fun (x : Nat × Int × Int × Int × Int) => match x with | (i, d0, d1, d2, j) => fun wL => Inv w [(b1, #[.int .u32 x0, .int .u32 x1, .int .u32 x2], 47), (b2, #[.int .i64 w0, .int .i64 w1, .int .i64 w2, .int .i64 d0, .int .i64 d1, .int .i64 d2, .int .i64 j], 58)] wL ∧ (i ≤ min L 40 ∧ Ok w0 w1 w2 ⟨d0, d1, d2, j⟩)) (fun (x : Nat × Int × Int × Int × Int) => match x with | (i, d0, d1, d2, j) => min L 40 - i) (0, w0, w1, w2, 0) (hf19.cons 0 rfl (hf19.cons 1 rfl (hf19.cons 2 rfl (hf19.cons 4 rfl (hf19.cons 5 rfl (hf19.cons 6 rfl (hf19.cons 7 rfl (hf19.cons 10 rfl (hf19.cons 11 rfl (hf19.cons 12 rfl (hf19.cons 13 rfl (hf19.cons 14 rfl (hf19.cons 15 rfl (hf19.cons 16 rfl (hf19.cons 17 rfl (hf19.cons 18 rfl (hf19.cons 19 rfl (hf19.cons 20 rfl (hf19.cons 21 rfl (hf19.cons 22 rfl hf19.nil)))))))))))))))))))) ⟨hI5, ⟨Nat.zero_le _, init_ok hd.v⟩⟩ ?_
  intro ⟨i, d0, d1, d2, j⟩ ac20 wd4 hf20 hL1
  obtain ⟨hI6, hx1⟩ := hL1
  dsimp only at hf20 hI6 hx1
  clear ac19 wd3 hf19 hI5
  refine code_seq ?_
  refine seq_start (l := [0]) rfl ?_
  refine seq_one (op_val (v := .bool (decide ((i : Int) < (((min L 40) : Nat) : Int)))) hf20 rfl rfl rfl rfl rfl rfl (r_lss rfl rfl) fun ac21 hf21 => ?_)
  refine seq_end ?_
  clear ac20 hf20
  refine then_normal ?_
  refine code_seq ?_
  refine code_if hf21 rfl (fun c23_1 => ?_) (fun c23_1 => ?_)
  · have hf22 := hf21.know 23 (u := .bool true) rfl (congrArg Value.bool c23_1)
    refine wp_skip ?_
    refine then_normal ?_
    refine code_seq ?_
    refine wp_block ?_
    refine code_seq ?_
    refine seq_start (l := [0, 1, 2, 3]) rfl ?_
    obtain ⟨kd3, u3, v3, z3, m3, hri3, hm3⟩ := op_row (i := i) ho (by have := of_decide_eq_true c23_1; omega)
    refine seq_one (op_val (v := .pointer (slAt p (i * 5))) hf22 rfl rfl rfl rfl rfl rfl (r_indexAddrR (i := i) (sz := 5) sl_23 rfl rfl rfl (by have := of_decide_eq_true c23_1; omega) rfl ⟨_, ((hr.old hI6 (fresh_keys (ks := [b1, b2]) rfl (fk_cons hb1 (fk_cons hb2 fk_nil)))) _ _ hri3).choose_spec.1⟩) fun ac22 hf23 => ?_)
    refine seq_one (op_val (v := .agg #[.int .u8 kd3, .bool u3, .bool v3, .bool z3, .int .i64 m3]) hf23 rfl rfl rfl rfl rfl rfl (r_loadRow ag_35 sz_35 rfl (hr.old hI6 (fresh_keys (ks := [b1, b2]) rfl (fk_cons hb1 (fk_cons hb2 fk_nil)))) hri3 rfl) fun ac23 hf24 => ?_)
    refine seq_one (op_alloc hf24 rfl rfl rfl ze_35 hI6 fun ac24 b4 wd5 hb4 hI7 hf25 => ?_)
    have hI8 : Inv w [(b1, #[.int .u32 x0, .int .u32 x1, .int .u32 x2], 47), (b2, #[.int .i64 w0, .int .i64 w1, .int .i64 w2, .int .i64 d0, .int .i64 d1, .int .i64 d2, .int .i64 j], 58), (b4, #[.int .u8 0, .bool false, .bool false, .bool false, .int .i64 0], 35)] wd5 := hI7
    refine seq_one (op_storeW (cells := #[.int .u8 kd3, .bool u3, .bool v3, .bool z3, .int .i64 m3]) 2 hf25 rfl rfl rfl rfl rfl sz_35 rfl rfl hI8 rfl rfl fun wd6 hI9 => ?_)
    have hI10 : Inv w [(b1, #[.int .u32 x0, .int .u32 x1, .int .u32 x2], 47), (b2, #[.int .i64 w0, .int .i64 w1, .int .i64 w2, .int .i64 d0, .int .i64 d1, .int .i64 d2, .int .i64 j], 58), (b4, #[.int .u8 kd3, .bool u3, .bool v3, .bool z3, .int .i64 m3], 35)] wd6 := hI9
    refine seq_end ?_
    clear hf21 ac21 hf22 ac22 hf23 ac23 wd4 hI6 hf24 hI7 wd5 hI8 hI9
    refine then_normal ?_
    refine code_seq ?_
    refine seq_start (l := [0, 1]) rfl ?_
    refine seq_one (op_val (v := .pointer (some ⟨b4, 0, none⟩)) hf25 rfl rfl rfl rfl rfl rfl (r_fieldAddr fi_35_0 rfl rfl) fun ac25 hf26 => ?_)
    refine seq_one (op_val (v := .int .u8 kd3) hf26 rfl rfl rfl rfl rfl rfl (r_load ag_5 rfl (hI10.at 2 rfl) rfl) fun ac26 hf27 => ?_)
    refine seq_end ?_
    clear ac24 hf25 ac25 hf26
    refine then_normal ?_
    refine wp_block ?_
    refine code_seq ?_
    refine seq_start (l := [0, 1]) rfl ?_
    refine seq_one (op_val (v := .bool (kd3 == 1)) hf27 rfl rfl rfl rfl rfl rfl (r_eql rfl rfl) fun ac27 hf28 => ?_)
    refine seq_one (op_val (v := .bool (kd3 == 1)) hf28 rfl rfl rfl rfl rfl rfl (r_assign rfl) fun ac28 hf29 => ?_)
    refine seq_end ?_
    clear ac26 hf27 ac27 hf28
    refine then_normal ?_
    refine code_if hf29 rfl (fun c28_2 => ?_) (fun c28_2 => ?_)
    · have hf30 := hf29.know 28 (u := .bool true) rfl (congrArg Value.bool c28_2)
      refine seq_start (l := [0, 1, 2, 3]) rfl ?_
      refine seq_one (op_val (v := .pointer (some ⟨b2, 0, none⟩)) hf30 rfl rfl rfl rfl rfl rfl (r_move rfl) fun ac29 hf31 => ?_)
      refine seq_one (op_val (v := .pointer (some ⟨b4, 1, none⟩)) hf31 rfl rfl rfl rfl rfl rfl (r_fieldAddr fi_35_1 rfl rfl) fun ac30 hf32 => ?_)
      refine seq_one (op_val (v := .agg #[.bool u3, .bool v3, .bool z3]) hf32 rfl rfl rfl rfl rfl rfl (r_loadP (sz := 3) ag_33 sz_33 rfl (hI10.at 2 rfl) (leb rfl) (by kernel_rfl)) fun ac31 hf33 => ?_)
      refine seq_one (op_call (R := fun v w' => v = (.tuple #[.int .i64 (pickN u3 v3 z3 w0 w1 w2 ⟨d0, d1, d2, j⟩), .bool (u3 || v3 || z3)]) ∧ Inv wd6 [(b2, #[.int .i64 w0, .int .i64 w1, .int .i64 w2, .int .i64 (((pickS u3 v3 z3 w0 w1 w2 ⟨d0, d1, d2, j⟩ : St)).c0), .int .i64 (((pickS u3 v3 z3 w0 w1 w2 ⟨d0, d1, d2, j⟩ : St)).c1), .int .i64 (((pickS u3 v3 z3 w0 w1 w2 ⟨d0, d1, d2, j⟩ : St)).c2), .int .i64 (((pickS u3 v3 z3 w0 w1 w2 ⟨d0, d1, d2, j⟩ : St)).now)], 58)] w') hf33 rfl rfl rfl rfl ca_12 ((pick_walk w0 w1 w2 d0 d1 d2 j u3 v3 z3 hd.v.ne hd.v hx1.2 b2 _ (Has.cons (hI10.at 1 rfl) Has.nil)).mono fun _ _ h => ⟨_, h.1, rfl, h.2⟩) fun ac32 v wd7 hR hf34 => ?_)
      obtain ⟨rfl, hR⟩ := hR
      obtain ⟨a_5, b_5, c_5, d_5, he5⟩ : ∃ a b c d, (pickS u3 v3 z3 w0 w1 w2 ⟨d0, d1, d2, j⟩ : St) = ⟨a, b, c, d⟩ := ⟨_, _, _, _, rfl⟩
      rw [he5] at hR
      dsimp only at hR
      have ho5 : Ok w0 w1 w2 ⟨a_5, b_5, c_5, d_5⟩ := by rw [← he5]; exact (pickS_ok hd.v hx1.2)
      have hI11 : Inv w [(b1, #[.int .u32 x0, .int .u32 x1, .int .u32 x2], 47), (b2, #[.int .i64 w0, .int .i64 w1, .int .i64 w2, .int .i64 a_5, .int .i64 b_5, .int .i64 c_5, .int .i64 d_5], 58), (b4, #[.int .u8 kd3, .bool u3, .bool v3, .bool z3, .int .i64 m3], 35)] _ := Inv.callS (A := [(b1, #[.int .u32 x0, .int .u32 x1, .int .u32 x2], 47)]) (S := [(b2, #[.int .i64 w0, .int .i64 w1, .int .i64 w2, .int .i64 d0, .int .i64 d1, .int .i64 d2, .int .i64 j], 58)]) (S' := [(b2, #[.int .i64 w0, .int .i64 w1, .int .i64 w2, .int .i64 a_5, .int .i64 b_5, .int .i64 c_5, .int .i64 d_5], 58)]) (L := [(b4, #[.int .u8 kd3, .bool u3, .bool v3, .bool z3, .int .i64 m3], 35)]) (N := []) hI10 hR rfl (fun _ h => by cases h)
      refine seq_end ?_
      clear hf29 ac28 hf30 ac29 hf31 ac30 hf32 ac31 wd6 hf33 hI10 hR
      refine block_normal ?_
      refine block_normal ?_
      refine then_normal ?_
      refine seq_start (l := [0, 1]) rfl ?_
      refine seq_one (op_val (v := .int .i64 ((i + 1 : Nat) : Int)) hf34 rfl rfl rfl rfl rfl rfl (r_add (c := ((i + 1 : Nat) : Int)) rfl rfl (wrap_i64 (by omega) (by have := hx1.1; omega))) fun ac33 hf35 => ?_)
      refine seq_one (op_val (v := .int .i64 ((i + 1 : Nat) : Int)) hf35 rfl rfl rfl rfl rfl rfl (r_move rfl) fun ac34 hf36 => ?_)
      refine seq_end ?_
      clear ac32 hf34 ac33 hf35
      refine then_normal ?_
      exact ⟨(i + 1, a_5, b_5, c_5, d_5), (hf36.cons 0 rfl (hf36.cons 1 rfl (hf36.cons 2 rfl (hf36.cons 4 rfl (hf36.cons 5 rfl (hf36.cons 6 rfl (hf36.cons 7 rfl (hf36.cons 10 rfl (hf36.cons 11 rfl (hf36.cons 12 rfl (hf36.cons 13 rfl (hf36.cons 14 rfl (hf36.cons 15 rfl (hf36.cons 16 rfl (hf36.cons 17 rfl (hf36.cons 18 rfl (hf36.cons 19 rfl (hf36.cons 20 rfl (hf36.cons 21 rfl (hf36.cons 22 rfl hf36.nil)))))))))))))))))))), ⟨(Inv.drop (A := [(b1, #[.int .u32 x0, .int .u32 x1, .int .u32 x2], 47), (b2, #[.int .i64 w0, .int .i64 w1, .int .i64 w2, .int .i64 a_5, .int .i64 b_5, .int .i64 c_5, .int .i64 d_5], 58)]) (B := [(b4, #[.int .u8 kd3, .bool u3, .bool v3, .bool z3, .int .i64 m3], 35)]) hI11 (fresh_keys (ks := [b4]) rfl (fk_cons hb4 fk_nil))), ⟨by have := of_decide_eq_true c23_1; omega, ho5⟩⟩, (by have := of_decide_eq_true c23_1; show min L 40 - (i + 1) < min L 40 - i; omega)⟩
    · have hf37 := hf29.know 28 (u := .bool false) rfl (congrArg Value.bool c28_2)
      refine code_seq ?_
      refine seq_start (l := [0, 1]) rfl ?_
      refine seq_one (op_val (v := .bool (kd3 == 2)) hf37 rfl rfl rfl rfl rfl rfl (r_eql rfl rfl) fun ac35 hf38 => ?_)
      refine seq_one (op_val (v := .bool (kd3 == 2)) hf38 rfl rfl rfl rfl rfl rfl (r_assign rfl) fun ac36 hf39 => ?_)
      refine seq_end ?_
      clear hf29 ac28 hf37 ac35 hf38
      refine then_normal ?_
      refine code_if hf39 rfl (fun c34_3 => ?_) (fun c34_3 => ?_)
      · have hf40 := hf39.know 34 (u := .bool true) rfl (congrArg Value.bool c34_3)
        refine seq_start (l := [0, 1, 2, 3]) rfl ?_
        refine seq_one (op_val (v := .pointer (some ⟨b2, 0, none⟩)) hf40 rfl rfl rfl rfl rfl rfl (r_move rfl) fun ac37 hf41 => ?_)
        refine seq_one (op_val (v := .pointer (some ⟨b4, 4, none⟩)) hf41 rfl rfl rfl rfl rfl rfl (r_fieldAddr fi_35_2 rfl rfl) fun ac38 hf42 => ?_)
        refine seq_one (op_val (v := .int .i64 m3) hf42 rfl rfl rfl rfl rfl rfl (r_load ag_3 rfl (hI10.at 2 rfl) rfl) fun ac39 hf43 => ?_)
        refine seq_one (op_call (R := fun v w' => v = (.int .i64 (spE m3 ⟨d0, d1, d2, j⟩)) ∧ Inv wd6 [(b2, #[.int .i64 w0, .int .i64 w1, .int .i64 w2, .int .i64 (((spS m3 ⟨d0, d1, d2, j⟩ : St)).c0), .int .i64 (((spS m3 ⟨d0, d1, d2, j⟩ : St)).c1), .int .i64 (((spS m3 ⟨d0, d1, d2, j⟩ : St)).c2), .int .i64 (((spS m3 ⟨d0, d1, d2, j⟩ : St)).now)], 58)] w') hf43 rfl rfl rfl rfl ca_14 ((spend_walk w0 w1 w2 d0 d1 d2 j m3 hd.v.ne hd.v hx1.2 b2 _ (Has.cons (hI10.at 1 rfl) Has.nil)).mono fun _ _ h => ⟨_, h.1, rfl, h.2⟩) fun ac40 v wd8 hR hf44 => ?_)
        obtain ⟨rfl, hR⟩ := hR
        obtain ⟨a_5, b_5, c_5, d_5, he5⟩ : ∃ a b c d, (spS m3 ⟨d0, d1, d2, j⟩ : St) = ⟨a, b, c, d⟩ := ⟨_, _, _, _, rfl⟩
        rw [he5] at hR
        dsimp only at hR
        have ho5 : Ok w0 w1 w2 ⟨a_5, b_5, c_5, d_5⟩ := by rw [← he5]; exact (spS_ok hx1.2)
        have hI12 : Inv w [(b1, #[.int .u32 x0, .int .u32 x1, .int .u32 x2], 47), (b2, #[.int .i64 w0, .int .i64 w1, .int .i64 w2, .int .i64 a_5, .int .i64 b_5, .int .i64 c_5, .int .i64 d_5], 58), (b4, #[.int .u8 kd3, .bool u3, .bool v3, .bool z3, .int .i64 m3], 35)] _ := Inv.callS (A := [(b1, #[.int .u32 x0, .int .u32 x1, .int .u32 x2], 47)]) (S := [(b2, #[.int .i64 w0, .int .i64 w1, .int .i64 w2, .int .i64 d0, .int .i64 d1, .int .i64 d2, .int .i64 j], 58)]) (S' := [(b2, #[.int .i64 w0, .int .i64 w1, .int .i64 w2, .int .i64 a_5, .int .i64 b_5, .int .i64 c_5, .int .i64 d_5], 58)]) (L := [(b4, #[.int .u8 kd3, .bool u3, .bool v3, .bool z3, .int .i64 m3], 35)]) (N := []) hI10 hR rfl (fun _ h => by cases h)
        refine seq_end ?_
        clear hf39 ac36 hf40 ac37 hf41 ac38 hf42 ac39 wd6 hf43 hI10 hR
        refine block_normal ?_
        refine block_normal ?_
        refine then_normal ?_
        refine seq_start (l := [0, 1]) rfl ?_
        refine seq_one (op_val (v := .int .i64 ((i + 1 : Nat) : Int)) hf44 rfl rfl rfl rfl rfl rfl (r_add (c := ((i + 1 : Nat) : Int)) rfl rfl (wrap_i64 (by omega) (by have := hx1.1; omega))) fun ac41 hf45 => ?_)
        refine seq_one (op_val (v := .int .i64 ((i + 1 : Nat) : Int)) hf45 rfl rfl rfl rfl rfl rfl (r_move rfl) fun ac42 hf46 => ?_)
        refine seq_end ?_
        clear ac40 hf44 ac41 hf45
        refine then_normal ?_
        exact ⟨(i + 1, a_5, b_5, c_5, d_5), (hf46.cons 0 rfl (hf46.cons 1 rfl (hf46.cons 2 rfl (hf46.cons 4 rfl (hf46.cons 5 rfl (hf46.cons 6 rfl (hf46.cons 7 rfl (hf46.cons 10 rfl (hf46.cons 11 rfl (hf46.cons 12 rfl (hf46.cons 13 rfl (hf46.cons 14 rfl (hf46.cons 15 rfl (hf46.cons 16 rfl (hf46.cons 17 rfl (hf46.cons 18 rfl (hf46.cons 19 rfl (hf46.cons 20 rfl (hf46.cons 21 rfl (hf46.cons 22 rfl hf46.nil)))))))))))))))))))), ⟨(Inv.drop (A := [(b1, #[.int .u32 x0, .int .u32 x1, .int .u32 x2], 47), (b2, #[.int .i64 w0, .int .i64 w1, .int .i64 w2, .int .i64 a_5, .int .i64 b_5, .int .i64 c_5, .int .i64 d_5], 58)]) (B := [(b4, #[.int .u8 kd3, .bool u3, .bool v3, .bool z3, .int .i64 m3], 35)]) hI12 (fresh_keys (ks := [b4]) rfl (fk_cons hb4 fk_nil))), ⟨by have := of_decide_eq_true c23_1; omega, ho5⟩⟩, (by have := of_decide_eq_true c23_1; show min L 40 - (i + 1) < min L 40 - i; omega)⟩
      · have hf47 := hf39.know 34 (u := .bool false) rfl (congrArg Value.bool c34_3)
        refine wp_skip ?_
        refine block_normal ?_
        refine block_normal ?_
        refine then_normal ?_
        refine seq_start (l := [0, 1]) rfl ?_
        refine seq_one (op_val (v := .int .i64 ((i + 1 : Nat) : Int)) hf47 rfl rfl rfl rfl rfl rfl (r_add (c := ((i + 1 : Nat) : Int)) rfl rfl (wrap_i64 (by omega) (by have := hx1.1; omega))) fun ac43 hf48 => ?_)
        refine seq_one (op_val (v := .int .i64 ((i + 1 : Nat) : Int)) hf48 rfl rfl rfl rfl rfl rfl (r_move rfl) fun ac44 hf49 => ?_)
        refine seq_end ?_
        clear hf39 ac36 hf47 ac43 hf48
        refine then_normal ?_
        exact ⟨(i + 1, d0, d1, d2, j), (hf49.cons 0 rfl (hf49.cons 1 rfl (hf49.cons 2 rfl (hf49.cons 4 rfl (hf49.cons 5 rfl (hf49.cons 6 rfl (hf49.cons 7 rfl (hf49.cons 10 rfl (hf49.cons 11 rfl (hf49.cons 12 rfl (hf49.cons 13 rfl (hf49.cons 14 rfl (hf49.cons 15 rfl (hf49.cons 16 rfl (hf49.cons 17 rfl (hf49.cons 18 rfl (hf49.cons 19 rfl (hf49.cons 20 rfl (hf49.cons 21 rfl (hf49.cons 22 rfl hf49.nil)))))))))))))))))))), ⟨(Inv.drop (A := [(b1, #[.int .u32 x0, .int .u32 x1, .int .u32 x2], 47), (b2, #[.int .i64 w0, .int .i64 w1, .int .i64 w2, .int .i64 d0, .int .i64 d1, .int .i64 d2, .int .i64 j], 58)]) (B := [(b4, #[.int .u8 kd3, .bool u3, .bool v3, .bool z3, .int .i64 m3], 35)]) hI10 (fresh_keys (ks := [b4]) rfl (fk_cons hb4 fk_nil))), ⟨by have := of_decide_eq_true c23_1; omega, hx1.2⟩⟩, (by have := of_decide_eq_true c23_1; show min L 40 - (i + 1) < min L 40 - i; omega)⟩
  · have hf50 := hf21.know 23 (u := .bool false) rfl (congrArg Value.bool c23_1)
    refine wp_exit ?_
    refine then_exit ?_
    refine then_exit ?_
    refine block_here ?_
    refine then_normal ?_
    refine code_seq ?_
    refine seq_start (l := [0, 1, 2, 3, 4]) rfl ?_
    refine seq_one (op_val (v := .pointer (some ⟨b2, 0, none⟩)) hf50 rfl rfl rfl rfl rfl rfl (r_move rfl) fun ac45 hf51 => ?_)
    refine seq_one (op_val (v := .int .i64 0) hf51 rfl rfl rfl rfl rfl rfl (r_move rfl) fun ac46 hf52 => ?_)
    refine seq_one (op_val (v := .bool true) hf52 rfl rfl rfl rfl rfl rfl (r_eqlC rfl rfl (by decide)) fun ac47 hf53 => ?_)
    refine seq_one (op_val (v := .pointer (some ⟨b2, 0, none⟩)) hf53 rfl rfl rfl rfl rfl rfl (r_assign rfl) fun ac48 hf54 => ?_)
    refine seq_one (op_val (v := .bool true) hf54 rfl rfl rfl rfl rfl rfl (r_assign rfl) fun ac49 hf55 => ?_)
    refine seq_end ?_
    clear hf21 ac21 hf50 ac45 hf51 ac46 hf52 ac47 hf53 ac48 hf54
    refine then_normal ?_
    refine wp_ret ?_
    exact post2 rfl hf55 rfl rfl ⟨b2, ⟨d0, d1, d2, j⟩, hb2, hx1.2, rfl, Inv.keep (A := []) (N := [(b1, #[.int .u32 x0, .int .u32 x1, .int .u32 x2], 47)]) (T := [(b2, #[.int .i64 w0, .int .i64 w1, .int .i64 w2, .int .i64 d0, .int .i64 d1, .int .i64 d2, .int .i64 j], 58)]) hI6 (fresh_keys (ks := [b1]) rfl (fk_cons hb1 fk_nil))⟩
end Go.Proofs.Ytkfilmdnpocinaa
