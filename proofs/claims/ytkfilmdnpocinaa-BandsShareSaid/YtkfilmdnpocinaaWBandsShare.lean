/-
  The walk of BandsShare.
-/
import Derived.Test.YtkfilmdnpocinaaPlayed
import Derived.Test.YtkfilmdnpocinaaState4
namespace Go.Proofs.Ytkfilmdnpocinaa
set_option linter.unusedVariables false
set_option linter.unusedSimpArgs false
set_option maxRecDepth 100000
open Go.RowKit
set_option maxHeartbeats 8000000 in
theorem bandsShare_walk (x0 x1 x2 w0 w1 w2 : Int) (hd : Wd x0 x1 x2 w0 w1 w2) (fr ma : Int) (hfr : 0 ≤ fr ∧ fr ≤ 255) (hma : 0 ≤ ma ∧ ma ≤ 255) {p : Option Addr} {L cap : Nat} {rows : List (List Value)} (hl : rows.length = L) (hc : L ≤ cap) (ho : ∀ row ∈ rows, Oks opKinds row) (w : World) (hr : Rows_ w p 5 rows) {q : Option Addr} {caq : Nat} {ys : List Int} (hy : InK .u16 ys) (hq : Rd w .u16 q ys) : Calls Try.prog 4 [.agg #[.int .u32 x0, .int .u32 x1, .int .u32 x2], .slice p L cap, .slice q ys.length caq, .int .u8 fr, .int .u8 ma].toArray w fun e w' => e = .returned (.bool true) ∧ Inv w [] w' := by
  have hI1 := Inv.start w
  refine enter (n := 150) Try.func4 rfl rfl rfl ?_
  intro ac1 hf1
  refine code_seq ?_
  refine seq_start (l := [0, 1]) rfl ?_
  refine seq_one (op_box hf1 rfl rfl rfl rfl hI1 fun ac2 b1 wd1 hb1 hI2 hf2 => ?_)
  have hI3 : Inv w [(b1, #[.int .u32 x0, .int .u32 x1, .int .u32 x2], 47)] wd1 := hI2
  refine seq_one (op_val (v := .bool false) hf2 rfl rfl rfl rfl rfl rfl (r_assign rfl) fun ac3 hf3 => ?_)
  refine seq_end ?_
  clear ac1 hI1 hf1 hI2 ac2 hf2
  refine then_normal ?_
  refine code_seq ?_
  refine seq_start (l := [0, 1, 2, 3, 4, 5, 6, 7]) rfl ?_
  refine seq_one (op_val (v := .agg #[.int .u32 x0, .int .u32 x1, .int .u32 x2]) hf3 rfl rfl rfl rfl rfl rfl (r_loadW ag_47 sz_47 rfl (hI3.at 0 rfl) rfl) fun ac4 hf4 => ?_)
  refine seq_one (op_val (v := .slice p L cap) hf4 rfl rfl rfl rfl rfl rfl (r_move rfl) fun ac5 hf5 => ?_)
  refine seq_one (op_call (R := fun v w' => ∃ b, ∃ s : St, wd1.heap.size ≤ b ∧ Ok w0 w1 w2 s ∧ v = .tuple #[.pointer (some ⟨b, 0, none⟩), .bool true] ∧ Inv wd1 [(b, #[.int .i64 w0, .int .i64 w1, .int .i64 w2, .int .i64 s.c0, .int .i64 s.c1, .int .i64 s.c2, .int .i64 s.now], 58)] w') hf5 rfl rfl rfl rfl ca_18 ((played_walk x0 x1 x2 w0 w1 w2 hd hl hc ho _ (hr.old hI3 (fresh_keys (ks := [b1]) rfl (fk_cons hb1 fk_nil)))).mono fun e w' ⟨b, s, h1, h2, h3, h4⟩ => ⟨_, h3, b, s, h1, h2, rfl, h4⟩) fun ac6 v wd2 hR hf6 => ?_)
  obtain ⟨b2, ⟨a_2, b_2, c_2, d_2⟩, hqb2, ho2, rfl, hwb2⟩ := hR
  dsimp only at hwb2
  have hb2 := Nat.le_trans hI3.size hqb2
  have hI4 : Inv w [(b1, #[.int .u32 x0, .int .u32 x1, .int .u32 x2], 47), (b2, #[.int .i64 w0, .int .i64 w1, .int .i64 w2, .int .i64 a_2, .int .i64 b_2, .int .i64 c_2, .int .i64 d_2], 58)] _ := hI3.callN hwb2 (fun x hx => by simp only [List.mem_singleton] at hx; subst hx; exact hqb2)
  refine seq_one (op_val (v := .tuple #[.pointer (some ⟨b2, 0, none⟩), .bool true]) hf6 rfl rfl rfl rfl rfl rfl (r_move rfl) fun ac7 hf7 => ?_)
  refine seq_one (op_val (v := .pointer (some ⟨b2, 0, none⟩)) hf7 rfl rfl rfl rfl rfl rfl (r_extract rfl rfl) fun ac8 hf8 => ?_)
  refine seq_one (op_val (v := .bool true) hf8 rfl rfl rfl rfl rfl rfl (r_extract rfl rfl) fun ac9 hf9 => ?_)
  refine seq_one (op_val (v := .pointer (some ⟨b2, 0, none⟩)) hf9 rfl rfl rfl rfl rfl rfl (r_assign rfl) fun ac10 hf10 => ?_)
  refine seq_one (op_val (v := .bool true) hf10 rfl rfl rfl rfl rfl rfl (r_assign rfl) fun ac11 hf11 => ?_)
  refine seq_end ?_
  clear ac3 hf3 ac4 hf4 ac5 wd1 hf5 hI3 hwb2 hqb2 ac6 hf6 ac7 hf7 ac8 hf8 ac9 hf9 ac10 hf10
  refine then_normal ?_
  refine code_seq ?_
  refine code_seq ?_
  refine seq_start (l := [0, 1]) rfl ?_
  refine seq_one (op_val (v := .bool true) hf11 rfl rfl rfl rfl rfl rfl (r_move rfl) fun ac12 hf12 => ?_)
  refine seq_one (op_val (v := .bool false) hf12 rfl rfl rfl rfl rfl rfl ((r_not (b := true) rfl).trans rfl) fun ac13 hf13 => ?_)
  refine seq_end ?_
  clear ac11 hf11 ac12 hf12
  refine then_normal ?_
  refine code_if_false hf13 rfl ?_
  refine wp_skip ?_
  refine then_normal ?_
  refine code_seq ?_
  refine seq_start (l := [0, 1, 2, 3]) rfl ?_
  refine seq_one (op_val (v := .agg #[.int .u32 x0, .int .u32 x1, .int .u32 x2]) hf13 rfl rfl rfl rfl rfl rfl (r_loadW ag_47 sz_47 rfl (hI4.at 0 rfl) rfl) fun ac14 hf14 => ?_)
  refine seq_one (op_pure hf14 rfl rfl rfl rfl ca_19 (weighed_pur x0 x1 x2 w0 w1 w2 hd) hI4 fun ac15 wd3 hI5 hf15 => ?_)
  refine seq_one (op_alloc hf15 rfl rfl rfl ze_22 hI5 fun ac16 b3 wd4 hb3 hI6 hf16 => ?_)
  have hI7 : Inv w [(b1, #[.int .u32 x0, .int .u32 x1, .int .u32 x2], 47), (b2, #[.int .i64 w0, .int .i64 w1, .int .i64 w2, .int .i64 a_2, .int .i64 b_2, .int .i64 c_2, .int .i64 d_2], 58), (b3, #[.int .i64 0, .int .i64 0, .int .i64 0], 22)] wd4 := hI6
  refine seq_one (op_storeW (cells := #[.int .i64 w0, .int .i64 w1, .int .i64 w2]) 2 hf16 rfl rfl rfl rfl rfl sz_22 rfl rfl hI7 rfl rfl fun wd5 hI8 => ?_)
  have hI9 : Inv w [(b1, #[.int .u32 x0, .int .u32 x1, .int .u32 x2], 47), (b2, #[.int .i64 w0, .int .i64 w1, .int .i64 w2, .int .i64 a_2, .int .i64 b_2, .int .i64 c_2, .int .i64 d_2], 58), (b3, #[.int .i64 w0, .int .i64 w1, .int .i64 w2], 22)] wd5 := hI8
  refine seq_end ?_
  clear ac13 hf13 ac14 wd2 hI4 hf14 ac15 wd3 hI5 hf15 hI6 wd4 hI7 hI8
  refine then_normal ?_
  refine code_seq ?_
  refine seq_start (l := [0]) rfl ?_
  refine seq_one (op_alloc hf16 rfl rfl rfl ze_22 hI9 fun ac17 b4 wd6 hb4 hI10 hf17 => ?_)
  have hI11 : Inv w [(b1, #[.int .u32 x0, .int .u32 x1, .int .u32 x2], 47), (b2, #[.int .i64 w0, .int .i64 w1, .int .i64 w2, .int .i64 a_2, .int .i64 b_2, .int .i64 c_2, .int .i64 d_2], 58), (b3, #[.int .i64 w0, .int .i64 w1, .int .i64 w2], 22), (b4, #[.int .i64 0, .int .i64 0, .int .i64 0], 22)] wd6 := hI10
  refine seq_end ?_
  clear ac16 wd5 hI9 hf16 hI10
  refine then_normal ?_
  refine code_seq ?_
  refine code_seq ?_
  refine seq_start (l := [0]) rfl ?_
  refine seq_one (op_val (v := .int .i64 0) hf17 rfl rfl rfl rfl rfl rfl (r_move rfl) fun ac18 hf18 => ?_)
  refine seq_end ?_
  clear ac17 hf17
  refine then_normal ?_
  refine wp_block ?_
  refine code_loop (α := Nat × Int × Int × Int × Int × Int × Int × Int) (fun (x : Nat × Int × Int × Int × Int × Int × Int × Int) => match x with | (i, d0, d1, d2, j, p0, p1, p2) => [(0, .agg #[.int .u32 x0, .int .u32 x1, .int .u32 x2]), (1, .slice p L cap), (2, .slice q ys.length caq), (3, .int .u8 fr), (4, .int .u8 ma), (5, .pointer (some ⟨b1, 0, none⟩)), (11, .pointer (some ⟨b2, 0, none⟩)), (12, .bool true), (13, .pointer (some ⟨b3, 0, none⟩)), (14, .pointer (some ⟨b4, 0, none⟩)), (23, .tuple #[.pointer (some ⟨b2, 0, none⟩), .bool true]), (24, .agg #[.int .u32 x0, .int .u32 x1, .int .u32 x2]), (25, .slice p L cap), (26, .tuple #[.pointer (some ⟨b2, 0, none⟩), .bool true]), (27, .pointer (some ⟨b2, 0, none⟩)), (28, .bool true), (29, .bool true), (30, .bool false), (31, .agg #[.int .u32 x0, .int .u32 x1, .int .u32 x2]), (32, .agg #[.int .i64 w0, .int .i64 w1, .int .i64 w2]), (33, .int .i64 (i : Int))]) (fun (x : Nat × Int × Int × Int × Int × Int × Int × Int) => match x with | (i, d0, d1, d2, j, p0, p1, p2) => fun wL => Inv w [(b1, #[.int .u32 x0, .int .u32 x1, .int .u32 x2], 47), (b2, #[.int .i64 w0, .int .i64 w1, .int .i64 w2, .int .i64 d0, .int .i64 d1, .int .i64 d2, .int .i64 j], 58), (b3, #[.int .i64 w0, .int .i64 w1, .int .i64 w2], 22), (b4, #[.int .i64 p0, .int .i64 p1, .int .i64 p2], 22)] wL ∧ (ShI (fr.tmod 100) ma w0 w1 w2 i ⟨d0, d1, d2, j⟩ p0 p1 p2)) (fun (x : Nat × Int × Int × Int × Int × Int × Int × Int) => match x with | (i, d0, d1, d2, j, p0, p1, p2) => 120 - i) (0, a_2, b_2, c_2, d_2, 0, 0, 0) (hf18.cons 0 rfl (hf18.cons 1 rfl (hf18.cons 2 rfl (hf18.cons 3 rfl (hf18.cons 4 rfl (hf18.cons 5 rfl (hf18.cons 11 rfl (hf18.cons 12 rfl (hf18.cons 13 rfl (hf18.cons 14 rfl (hf18.cons 23 rfl (hf18.cons 24 rfl (hf18.cons 25 rfl (hf18.cons 26 rfl (hf18.cons 27 rfl (hf18.cons 28 rfl (hf18.cons 29 rfl (hf18.cons 30 rfl (hf18.cons 31 rfl (hf18.cons 32 rfl (hf18.cons 33 rfl hf18.nil))))))))))))))))))))) ⟨hI11, (ShI.init ho2)⟩ ?_
  intro ⟨i, d0, d1, d2, j, p0, p1, p2⟩ ac19 wd7 hf19 hL1
  obtain ⟨hI12, hx1⟩ := hL1
  dsimp only at hf19 hI12 hx1
  clear ac18 wd6 hf18 hI11
  refine code_seq ?_
  refine seq_start (l := [0]) rfl ?_
  refine seq_one (op_val (v := .bool (decide ((i : Int) < 120))) hf19 rfl rfl rfl rfl rfl rfl (r_lss rfl rfl) fun ac20 hf20 => ?_)
  refine seq_end ?_
  clear ac19 hf19
  refine then_normal ?_
  refine code_seq ?_
  refine code_if hf20 rfl (fun c34_1 => ?_) (fun c34_1 => ?_)
  · have hf21 := hf20.know 34 (u := .bool true) rfl (congrArg Value.bool c34_1)
    refine wp_skip ?_
    refine then_normal ?_
    refine code_seq ?_
    refine wp_block ?_
    refine code_seq ?_
    refine seq_start (l := [0, 1]) rfl ?_
    refine seq_one (op_val (v := .int .i64 (i : Int)) hf21 rfl rfl rfl rfl rfl rfl (r_move rfl) fun ac21 hf22 => ?_)
    refine seq_one (op_val (v := .int .i64 (i : Int)) hf22 rfl rfl rfl rfl rfl rfl (r_assign rfl) fun ac22 hf23 => ?_)
    refine seq_end ?_
    clear hf20 ac20 hf21 ac21 hf22
    refine then_normal ?_
    refine code_seq ?_
    refine seq_start (l := [0, 1, 2, 3, 4, 5, 6, 7]) rfl ?_
    refine seq_one (op_val (v := .pointer (some ⟨b2, 0, none⟩)) hf23 rfl rfl rfl rfl rfl rfl (r_move rfl) fun ac23 hf24 => ?_)
    refine seq_one (op_val (v := .agg #[.bool true, .bool true, .bool true]) hf24 rfl rfl rfl rfl rfl rfl (r_build (v := .agg #[.bool true, .bool true, .bool true]) rfl (fun _ => by kernel_rfl)) fun ac24 hf25 => ?_)
    refine seq_one (op_call (R := fun v w' => v = (.tuple #[.int .i64 (pickN true true true w0 w1 w2 ⟨d0, d1, d2, j⟩), .bool (true || true || true)]) ∧ Inv wd7 [(b2, #[.int .i64 w0, .int .i64 w1, .int .i64 w2, .int .i64 (((pickS true true true w0 w1 w2 ⟨d0, d1, d2, j⟩ : St)).c0), .int .i64 (((pickS true true true w0 w1 w2 ⟨d0, d1, d2, j⟩ : St)).c1), .int .i64 (((pickS true true true w0 w1 w2 ⟨d0, d1, d2, j⟩ : St)).c2), .int .i64 (((pickS true true true w0 w1 w2 ⟨d0, d1, d2, j⟩ : St)).now)], 58)] w') hf25 rfl rfl rfl rfl ca_12 ((pick_walk w0 w1 w2 d0 d1 d2 j true true true hd.v.ne hd.v hx1.ok b2 _ (Has.cons (hI12.at 1 rfl) Has.nil)).mono fun _ _ h => ⟨_, h.1, rfl, h.2⟩) fun ac25 v wd8 hR hf26 => ?_)
    obtain ⟨rfl, hR⟩ := hR
    obtain ⟨a_5, b_5, c_5, d_5, he5⟩ : ∃ a b c d, (pickS true true true w0 w1 w2 ⟨d0, d1, d2, j⟩ : St) = ⟨a, b, c, d⟩ := ⟨_, _, _, _, rfl⟩
    rw [he5] at hR
    dsimp only at hR
    have ho5 : Ok w0 w1 w2 ⟨a_5, b_5, c_5, d_5⟩ := by rw [← he5]; exact (pickS_ok hd.v hx1.ok)
    have hI13 : Inv w [(b1, #[.int .u32 x0, .int .u32 x1, .int .u32 x2], 47), (b2, #[.int .i64 w0, .int .i64 w1, .int .i64 w2, .int .i64 a_5, .int .i64 b_5, .int .i64 c_5, .int .i64 d_5], 58), (b3, #[.int .i64 w0, .int .i64 w1, .int .i64 w2], 22), (b4, #[.int .i64 p0, .int .i64 p1, .int .i64 p2], 22)] _ := Inv.callS (A := [(b1, #[.int .u32 x0, .int .u32 x1, .int .u32 x2], 47)]) (S := [(b2, #[.int .i64 w0, .int .i64 w1, .int .i64 w2, .int .i64 d0, .int .i64 d1, .int .i64 d2, .int .i64 j], 58)]) (S' := [(b2, #[.int .i64 w0, .int .i64 w1, .int .i64 w2, .int .i64 a_5, .int .i64 b_5, .int .i64 c_5, .int .i64 d_5], 58)]) (L := [(b3, #[.int .i64 w0, .int .i64 w1, .int .i64 w2], 22), (b4, #[.int .i64 p0, .int .i64 p1, .int .i64 p2], 22)]) (N := []) hI12 hR rfl (fun _ h => by cases h)
    have hk5 : Picked true true true w0 w1 w2 a_5 b_5 c_5 d_5 := picked hd.v hx1.ok (rfl : (true || true || true) = true) he5
    have hf27 := hf26.know 39 (u := .tuple #[.int .i64 d_5, .bool true]) rfl (pick_val (rfl : (true || true || true) = true) he5)
    refine seq_one (op_val (v := .tuple #[.int .i64 d_5, .bool true]) hf27 rfl rfl rfl rfl rfl rfl (r_move rfl) fun ac26 hf28 => ?_)
    refine seq_one (op_val (v := .int .i64 d_5) hf28 rfl rfl rfl rfl rfl rfl (r_extract rfl rfl) fun ac27 hf29 => ?_)
    refine seq_one (op_val (v := .bool true) hf29 rfl rfl rfl rfl rfl rfl (r_extract rfl rfl) fun ac28 hf30 => ?_)
    refine seq_one (op_val (v := .int .i64 d_5) hf30 rfl rfl rfl rfl rfl rfl (r_assign rfl) fun ac29 hf31 => ?_)
    refine seq_one (op_val (v := .bool true) hf31 rfl rfl rfl rfl rfl rfl (r_assign rfl) fun ac30 hf32 => ?_)
    refine seq_end ?_
    clear ac22 hf23 ac23 hf24 ac24 wd7 hf25 hI12 hR hf26 ac25 hf27 ac26 hf28 ac27 hf29 ac28 hf30 ac29 hf31
    refine then_normal ?_
    refine code_seq ?_
    refine seq_start (l := [0]) rfl ?_
    refine seq_one (op_val (v := .int .i64 1) hf32 rfl rfl rfl rfl rfl rfl (r_assign rfl) fun ac31 hf33 => ?_)
    refine seq_end ?_
    clear ac30 hf32
    refine then_normal ?_
    refine code_seq ?_
    refine code_seq ?_
    refine seq_start (l := [0, 1, 2]) rfl ?_
    refine seq_one (op_val (v := .slice q ys.length caq) hf33 rfl rfl rfl rfl rfl rfl (r_move rfl) fun ac32 hf34 => ?_)
    refine seq_one (op_val (v := .int .i64 (ys.length : Int)) hf34 rfl rfl rfl rfl rfl rfl (r_len sl_48 rfl) fun ac33 hf35 => ?_)
    refine seq_one (op_val (v := .bool (decide ((ys.length : Int) > 0))) hf35 rfl rfl rfl rfl rfl rfl (r_gtr rfl rfl) fun ac34 hf36 => ?_)
    refine seq_end ?_
    clear ac31 hf33 ac32 hf34 ac33 hf35
    refine then_normal ?_
    refine code_joinG 150 ((Int)) (fun (m : Int) => [(0, .agg #[.int .u32 x0, .int .u32 x1, .int .u32 x2]), (1, .slice p L cap), (2, .slice q ys.length caq), (3, .int .u8 fr), (4, .int .u8 ma), (5, .pointer (some ⟨b1, 0, none⟩)), (11, .pointer (some ⟨b2, 0, none⟩)), (12, .bool true), (13, .pointer (some ⟨b3, 0, none⟩)), (14, .pointer (some ⟨b4, 0, none⟩)), (15, .int .i64 (i : Int)), (16, .int .i64 d_5), (17, .bool true), (23, .tuple #[.pointer (some ⟨b2, 0, none⟩), .bool true]), (24, .agg #[.int .u32 x0, .int .u32 x1, .int .u32 x2]), (25, .slice p L cap), (26, .tuple #[.pointer (some ⟨b2, 0, none⟩), .bool true]), (27, .pointer (some ⟨b2, 0, none⟩)), (28, .bool true), (29, .bool true), (30, .bool false), (31, .agg #[.int .u32 x0, .int .u32 x1, .int .u32 x2]), (32, .agg #[.int .i64 w0, .int .i64 w1, .int .i64 w2]), (33, .int .i64 (i : Int)), (34, .bool true), (35, .int .i64 (i : Int)), (36, .tuple #[.int .i64 d_5, .bool true]), (37, .pointer (some ⟨b2, 0, none⟩)), (38, .agg #[.bool true, .bool true, .bool true]), (39, .tuple #[.int .i64 d_5, .bool true]), (40, .int .i64 d_5), (41, .bool true), (42, .slice q ys.length caq), (43, .int .i64 (ys.length : Int)), (18, .int .i64 m)]) (fun (m : Int) => fun w' => Inv w [(b1, #[.int .u32 x0, .int .u32 x1, .int .u32 x2], 47), (b2, #[.int .i64 w0, .int .i64 w1, .int .i64 w2, .int .i64 a_5, .int .i64 b_5, .int .i64 c_5, .int .i64 d_5], 58), (b3, #[.int .i64 w0, .int .i64 w1, .int .i64 w2], 22), (b4, #[.int .i64 p0, .int .i64 p1, .int .i64 p2], 22)] w' ∧ (1 ≤ m ∧ m ≤ 65536)) ?_ ?_
    ·
      refine code_if hf36 rfl (fun c44_2 => ?_) (fun c44_2 => ?_)
      · have hf37 := hf36.know 44 (u := .bool true) rfl (congrArg Value.bool c44_2)
        refine seq_start (l := [0, 1, 2, 3, 4, 5, 6, 7, 8, 9, 10]) rfl ?_
        refine seq_one (op_val (v := .int .i64 1) hf37 rfl rfl rfl rfl rfl rfl (r_move rfl) fun ac35 hf38 => ?_)
        refine seq_one (op_val (v := .slice q ys.length caq) hf38 rfl rfl rfl rfl rfl rfl (r_move rfl) fun ac36 hf39 => ?_)
        refine seq_one (op_val (v := .int .i64 (i : Int)) hf39 rfl rfl rfl rfl rfl rfl (r_move rfl) fun ac37 hf40 => ?_)
        refine seq_one (op_val (v := .slice q ys.length caq) hf40 rfl rfl rfl rfl rfl rfl (r_move rfl) fun ac38 hf41 => ?_)
        refine seq_one (op_val (v := .int .i64 (ys.length : Int)) hf41 rfl rfl rfl rfl rfl rfl (r_len sl_48 rfl) fun ac39 hf42 => ?_)
        have hl0 : 0 < ys.length := by have := of_decide_eq_true c44_2; omega
        have hl1 : (ys.length : Int) ≠ 0 := by omega
        have hl2 := Nat.mod_lt i hl0
        have hl3 := bounds_u16 (hy.getD hl2)
        have hl4 : i < 120 := by have := of_decide_eq_true c34_1; omega
        refine seq_one (op_val (v := .int .i64 ((i % ys.length : Nat) : Int)) hf42 rfl rfl rfl rfl rfl rfl (r_rem (c := ((i % ys.length : Nat) : Int)) rfl rfl (by omega) idx_mod) fun ac40 hf43 => ?_)
        refine seq_one (op_val (v := .pointer (slAt q (i % ys.length))) hf43 rfl rfl rfl rfl rfl rfl (r_indexAddrV (i := (i % ys.length)) sl_48 rfl rfl rfl hl2 (let r := (hq.old hI13 (fresh_keys (ks := [b1, b2, b3, b4]) rfl (fk_cons hb1 (fk_cons hb2 (fk_cons hb3 (fk_cons hb4 fk_nil)))))) (i % ys.length) hl2; ⟨r.choose, r.choose_spec.1⟩)) fun ac41 hf44 => ?_)
        refine seq_one (op_val (v := .int .u16 (ys.getD (i % ys.length) 0)) hf44 rfl rfl rfl rfl rfl rfl (r_loadV ag_52 rfl (hq.old hI13 (fresh_keys (ks := [b1, b2, b3, b4]) rfl (fk_cons hb1 (fk_cons hb2 (fk_cons hb3 (fk_cons hb4 fk_nil)))))) hl2) fun ac42 hf45 => ?_)
        refine seq_one (op_val (v := .int .i64 (ys.getD (i % ys.length) 0)) hf45 rfl rfl rfl rfl rfl rfl (r_conv (c := (ys.getD (i % ys.length) 0)) ui_52 ui_3 rfl (wrap_i64 (by omega) (by omega))) fun ac43 hf46 => ?_)
        refine seq_one (op_val (v := .int .i64 (1 + ys.getD (i % ys.length) 0)) hf46 rfl rfl rfl rfl rfl rfl (r_add (c := (1 + ys.getD (i % ys.length) 0)) rfl rfl (wrap_i64 (by omega) (by omega))) fun ac44 hf47 => ?_)
        refine seq_one (op_val (v := .int .i64 (1 + ys.getD (i % ys.length) 0)) hf47 rfl rfl rfl rfl rfl rfl (r_assign rfl) fun ac45 hf48 => ?_)
        refine seq_end ?_
        clear hf36 ac34 hf37 ac35 hf38 ac36 hf39 ac37 hf40 ac38 hf41 ac39 hf42 ac40 hf43 ac41 hf44 ac42 hf45 ac43 hf46 ac44 hf47
        refine then_normal ?_
        exact ⟨((1 + ys.getD (i % ys.length) 0)), (hf48.cons 0 rfl (hf48.cons 1 rfl (hf48.cons 2 rfl (hf48.cons 3 rfl (hf48.cons 4 rfl (hf48.cons 5 rfl (hf48.cons 11 rfl (hf48.cons 12 rfl (hf48.cons 13 rfl (hf48.cons 14 rfl (hf48.cons 15 rfl (hf48.cons 16 rfl (hf48.cons 17 rfl (hf48.cons 23 rfl (hf48.cons 24 rfl (hf48.cons 25 rfl (hf48.cons 26 rfl (hf48.cons 27 rfl (hf48.cons 28 rfl (hf48.cons 29 rfl (hf48.cons 30 rfl (hf48.cons 31 rfl (hf48.cons 32 rfl (hf48.cons 33 rfl (hf48.cons 34 rfl (hf48.cons 35 rfl (hf48.cons 36 rfl (hf48.cons 37 rfl (hf48.cons 38 rfl (hf48.cons 39 rfl (hf48.cons 40 rfl (hf48.cons 41 rfl (hf48.cons 42 rfl (hf48.cons 43 rfl (hf48.cons 18 rfl hf48.nil))))))))))))))))))))))))))))))))))), ⟨hI13, ⟨by omega, by omega⟩⟩⟩
      · have hf49 := hf36.know 44 (u := .bool false) rfl (congrArg Value.bool c44_2)
        refine wp_skip ?_
        refine then_normal ?_
        clear hf36
        exact ⟨(1), (hf49.cons 0 rfl (hf49.cons 1 rfl (hf49.cons 2 rfl (hf49.cons 3 rfl (hf49.cons 4 rfl (hf49.cons 5 rfl (hf49.cons 11 rfl (hf49.cons 12 rfl (hf49.cons 13 rfl (hf49.cons 14 rfl (hf49.cons 15 rfl (hf49.cons 16 rfl (hf49.cons 17 rfl (hf49.cons 23 rfl (hf49.cons 24 rfl (hf49.cons 25 rfl (hf49.cons 26 rfl (hf49.cons 27 rfl (hf49.cons 28 rfl (hf49.cons 29 rfl (hf49.cons 30 rfl (hf49.cons 31 rfl (hf49.cons 32 rfl (hf49.cons 33 rfl (hf49.cons 34 rfl (hf49.cons 35 rfl (hf49.cons 36 rfl (hf49.cons 37 rfl (hf49.cons 38 rfl (hf49.cons 39 rfl (hf49.cons 40 rfl (hf49.cons 41 rfl (hf49.cons 42 rfl (hf49.cons 43 rfl (hf49.cons 18 rfl hf49.nil))))))))))))))))))))))))))))))))))), ⟨hI13, ⟨by decide, by decide⟩⟩⟩
    ·
      intro m ac46 wd9 hf50 ⟨hI14, hj14⟩
      clear ac34 wd8 hf36 hI13
      have hm := hj14
      refine then_normal ?_
      refine code_seq ?_
      refine code_seq ?_
      refine any_start (fun w => Has [(b3, #[.int .i64 w0, .int .i64 w1, .int .i64 w2], 22)] w) follows (Has.drew (Has.cons (hI14.at 2 rfl) Has.nil)) ?_
      have hS1 : Has [(b3, #[.int .i64 w0, .int .i64 w1, .int .i64 w2], 22)] _ := Has.drew (Has.cons (hI14.at 2 rfl) Has.nil)
      have hI15 := hI14.drew
      refine any_val (i := 0) (v := .bool true) hf50 rfl rfl rfl rfl rfl rfl (fun _ _ _ h => h) (by kernel_rfl) (by kernel_rfl) (by kernel_rfl) (fun wd9 hS1 => (r_move rfl)) hS1 fun ac47 hf51 => ?_
      refine any_val (i := 1) (v := .bool false) hf51 rfl rfl rfl rfl rfl rfl (fun _ _ _ h => h) (by kernel_rfl) (by kernel_rfl) (by kernel_rfl) (fun wd9 hS1 => ((r_not (b := true) rfl).trans rfl)) hS1 fun ac48 hf52 => ?_
      refine any_val (i := 2) (v := .bool false) hf52 rfl rfl rfl rfl rfl rfl (fun _ _ _ h => h) (by kernel_rfl) (by kernel_rfl) (by kernel_rfl) (fun wd9 hS1 => (r_move rfl)) hS1 fun ac49 hf53 => ?_
      refine any_val (i := 3) (v := .int .i64 d_5) hf53 rfl rfl rfl rfl rfl rfl (fun _ _ _ h => h) (by kernel_rfl) (by kernel_rfl) (by kernel_rfl) (fun wd9 hS1 => (r_move rfl)) hS1 fun ac50 hf54 => ?_
      refine any_val (i := 4) (v := .bool (decide (d_5 < 0))) hf54 rfl rfl rfl rfl rfl rfl (fun _ _ _ h => h) (by kernel_rfl) (by kernel_rfl) (by kernel_rfl) (fun wd9 hS1 => (r_lss rfl rfl)) hS1 fun ac51 hf55 => ?_
      refine any_val (i := 5) (v := .bool (decide (d_5 < 0))) hf55 rfl rfl rfl rfl rfl rfl (fun _ _ _ h => h) (by kernel_rfl) (by kernel_rfl) (by kernel_rfl) (fun wd9 hS1 => (r_pickF rfl rfl)) hS1 fun ac52 hf56 => ?_
      refine any_val (i := 6) (v := .bool (decide (d_5 < 0))) hf56 rfl rfl rfl rfl rfl rfl (fun _ _ _ h => h) (by kernel_rfl) (by kernel_rfl) (by kernel_rfl) (fun wd9 hS1 => (r_move rfl)) hS1 fun ac53 hf57 => ?_
      have hf58 := hf57.know 61 (u := .bool false) rfl (congrArg Value.bool (decide_eq_false (by have := hk5.now; omega)))
      refine any_val (i := 7) (v := .int .i64 d_5) hf58 rfl rfl rfl rfl rfl rfl (fun _ _ _ h => h) (by kernel_rfl) (by kernel_rfl) (by kernel_rfl) (fun wd9 hS1 => (r_move rfl)) hS1 fun ac54 hf59 => ?_
      refine any_val (i := 8) (v := .bool (decide (d_5 > 2))) hf59 rfl rfl rfl rfl rfl rfl (fun _ _ _ h => h) (by kernel_rfl) (by kernel_rfl) (by kernel_rfl) (fun wd9 hS1 => (r_gtr rfl rfl)) hS1 fun ac55 hf60 => ?_
      refine any_val (i := 9) (v := .bool (decide (d_5 > 2))) hf60 rfl rfl rfl rfl rfl rfl (fun _ _ _ h => h) (by kernel_rfl) (by kernel_rfl) (by kernel_rfl) (fun wd9 hS1 => (r_pickF rfl rfl)) hS1 fun ac56 hf61 => ?_
      refine any_val (i := 10) (v := .bool (decide (d_5 > 2))) hf61 rfl rfl rfl rfl rfl rfl (fun _ _ _ h => h) (by kernel_rfl) (by kernel_rfl) (by kernel_rfl) (fun wd9 hS1 => (r_move rfl)) hS1 fun ac57 hf62 => ?_
      have hf63 := hf62.know 65 (u := .bool false) rfl (congrArg Value.bool (decide_eq_false (by have := hk5.now; omega)))
      refine any_val (i := 11) (v := .pointer (some ⟨b2, 0, none⟩)) hf63 rfl rfl rfl rfl rfl rfl (fun _ _ _ h => h) (by kernel_rfl) (by kernel_rfl) (by kernel_rfl) (fun wd9 hS1 => (r_move rfl)) hS1 fun ac58 hf64 => ?_
      refine any_val (i := 13) (v := .int .i64 d_5) hf64 rfl rfl rfl rfl rfl rfl (fun _ _ _ h => h) (by kernel_rfl) (by kernel_rfl) (by kernel_rfl) (fun wd9 hS1 => (r_move rfl)) hS1 fun ac59 hf65 => ?_
      refine any_one (i := 12) (by kernel_rfl) ?_
      refine (op_pureW hf65 rfl rfl rfl rfl ca_16 (now_walk w0 w1 w2 a_5 b_5 c_5 d_5 hd.v.ne b2 _ (Has.cons (hI15.at 1 rfl) Has.nil)) hI15 fun ac60 wd10 hI16 hf66 => ⟨?_, ?_⟩)
      · exact (Has.cons (hI16.at 2 rfl) Has.nil)
      have hS2 : Has [(b3, #[.int .i64 w0, .int .i64 w1, .int .i64 w2], 22)] _ := (Has.cons (hI16.at 2 rfl) Has.nil)
      refine any_val (i := 14) (v := .bool (d_5 != d_5)) hf66 rfl rfl rfl rfl rfl rfl (fun _ _ _ h => h) (by kernel_rfl) (by kernel_rfl) (by kernel_rfl) (fun wd10 hS2 => (r_neq rfl rfl)) hS2 fun ac61 hf67 => ?_
      refine any_val (i := 15) (v := .bool (d_5 != d_5)) hf67 rfl rfl rfl rfl rfl rfl (fun _ _ _ h => h) (by kernel_rfl) (by kernel_rfl) (by kernel_rfl) (fun wd10 hS2 => (r_pickF rfl rfl)) hS2 fun ac62 hf68 => ?_
      refine any_val (i := 16) (v := .bool (d_5 != d_5)) hf68 rfl rfl rfl rfl rfl rfl (fun _ _ _ h => h) (by kernel_rfl) (by kernel_rfl) (by kernel_rfl) (fun wd10 hS2 => (r_move rfl)) hS2 fun ac63 hf69 => ?_
      have hf70 := hf69.know 71 (u := .bool false) rfl (congrArg Value.bool (bne_self_eq_false _))
      refine any_val (i := 17) (v := .pointer (some ⟨b2, 0, none⟩)) hf70 rfl rfl rfl rfl rfl rfl (fun _ _ _ h => h) (by kernel_rfl) (by kernel_rfl) (by kernel_rfl) (fun wd10 hS2 => (r_move rfl)) hS2 fun ac64 hf71 => ?_
      refine any_val (i := 19) (v := .int .i64 d_5) hf71 rfl rfl rfl rfl rfl rfl (fun _ _ _ h => h) (by kernel_rfl) (by kernel_rfl) (by kernel_rfl) (fun wd10 hS2 => (r_move rfl)) hS2 fun ac65 hf72 => ?_
      refine any_one (i := 18) (by kernel_rfl) ?_
      refine (op_pureW hf72 rfl rfl rfl rfl ca_17 (credits_walk w0 w1 w2 a_5 b_5 c_5 d_5 hd.v.ne b2 _ (Has.cons (hI16.at 1 rfl) Has.nil)) hI16 fun ac66 wd11 hI17 hf73 => ⟨?_, ?_⟩)
      · exact (Has.cons (hI17.at 2 rfl) Has.nil)
      have hS3 : Has [(b3, #[.int .i64 w0, .int .i64 w1, .int .i64 w2], 22)] _ := (Has.cons (hI17.at 2 rfl) Has.nil)
      refine any_val (i := 20) (v := .int .i64 (sel3 d_5 a_5 b_5 c_5)) hf73 rfl rfl rfl rfl rfl rfl (fun _ _ _ h => h) (by kernel_rfl) (by kernel_rfl) (by kernel_rfl) (fun wd11 hS3 => (r_index (i := d_5.toNat) ar_22 ag_3 rfl rfl (idx3 hk5.now).1 (idx3 hk5.now).2 (by rcases hk5.now with h | h | h <;> rw [h] <;> rfl))) hS3 fun ac67 hf74 => ?_
      refine any_val (i := 21) (v := .bool (decide ((sel3 d_5 a_5 b_5 c_5) < 1))) hf74 rfl rfl rfl rfl rfl rfl (fun _ _ _ h => h) (by kernel_rfl) (by kernel_rfl) (by kernel_rfl) (fun wd11 hS3 => (r_lss rfl rfl)) hS3 fun ac68 hf75 => ?_
      refine any_val (i := 22) (v := .bool (decide ((sel3 d_5 a_5 b_5 c_5) < 1))) hf75 rfl rfl rfl rfl rfl rfl (fun _ _ _ h => h) (by kernel_rfl) (by kernel_rfl) (by kernel_rfl) (fun wd11 hS3 => (r_pickF rfl rfl)) hS3 fun ac69 hf76 => ?_
      refine any_val (i := 23) (v := .bool (decide ((sel3 d_5 a_5 b_5 c_5) < 1))) hf76 rfl rfl rfl rfl rfl rfl (fun _ _ _ h => h) (by kernel_rfl) (by kernel_rfl) (by kernel_rfl) (fun wd11 hS3 => (r_move rfl)) hS3 fun ac70 hf77 => ?_
      have hf78 := hf77.know 78 (u := .bool false) rfl (congrArg Value.bool (decide_eq_false (by have := hk5.pos; omega)))
      refine any_val (i := 24) (v := .pointer (some ⟨b2, 0, none⟩)) hf78 rfl rfl rfl rfl rfl rfl (fun _ _ _ h => h) (by kernel_rfl) (by kernel_rfl) (by kernel_rfl) (fun wd11 hS3 => (r_move rfl)) hS3 fun ac71 hf79 => ?_
      refine any_val (i := 26) (v := .int .i64 d_5) hf79 rfl rfl rfl rfl rfl rfl (fun _ _ _ h => h) (by kernel_rfl) (by kernel_rfl) (by kernel_rfl) (fun wd11 hS3 => (r_move rfl)) hS3 fun ac72 hf80 => ?_
      refine any_val (i := 28) (v := .int .i64 d_5) hf80 rfl rfl rfl rfl rfl rfl (fun _ _ _ h => h) (by kernel_rfl) (by kernel_rfl) (by kernel_rfl) (fun wd11 hS3 => (r_move rfl)) hS3 fun ac73 hf81 => ?_
      refine any_val (i := 29) (v := .pointer (some ⟨b3, 0 + d_5.toNat, none⟩)) hf81 rfl rfl rfl rfl rfl rfl (fun _ _ _ h => h) (by kernel_rfl) (by kernel_rfl) (by kernel_rfl) (fun wd11 hS3 => (r_indexAddr (i := d_5.toNat) ar_22 rfl rfl (idx3 hk5.now).1 (idx3 hk5.now).2 (by rw [Nat.mul_one]))) hS3 fun ac74 hf82 => ?_
      refine any_val (i := 30) (v := .int .i64 (sel3 d_5 w0 w1 w2)) hf82 rfl rfl rfl rfl rfl rfl (fun _ _ _ h => h) (by kernel_rfl) (by kernel_rfl) (by kernel_rfl) (fun wd11 hS3 => (r_load ag_3 rfl (hS3.at 0 rfl) (by rcases hk5.now with h | h | h <;> rw [h] <;> rfl))) hS3 fun ac75 hf83 => ?_
      refine any_one (i := 25) (by kernel_rfl) ?_
      refine (op_pureW hf83 rfl rfl rfl rfl ca_17 (credits_walk w0 w1 w2 a_5 b_5 c_5 d_5 hd.v.ne b2 _ (Has.cons (hI17.at 1 rfl) Has.nil)) hI17 fun ac76 wd12 hI18 hf84 => ⟨?_, ?_⟩)
      · exact (Has.cons (hI18.at 2 rfl) Has.nil)
      have hS4 : Has [(b3, #[.int .i64 w0, .int .i64 w1, .int .i64 w2], 22)] _ := (Has.cons (hI18.at 2 rfl) Has.nil)
      refine any_val (i := 27) (v := .int .i64 (sel3 d_5 a_5 b_5 c_5)) hf84 rfl rfl rfl rfl rfl rfl (fun _ _ _ h => h) (by kernel_rfl) (by kernel_rfl) (by kernel_rfl) (fun wd12 hS4 => (r_index (i := d_5.toNat) ar_22 ag_3 rfl rfl (idx3 hk5.now).1 (idx3 hk5.now).2 (by rcases hk5.now with h | h | h <;> rw [h] <;> rfl))) hS4 fun ac77 hf85 => ?_
      refine any_val (i := 31) (v := .bool (decide ((sel3 d_5 a_5 b_5 c_5) > (sel3 d_5 w0 w1 w2)))) hf85 rfl rfl rfl rfl rfl rfl (fun _ _ _ h => h) (by kernel_rfl) (by kernel_rfl) (by kernel_rfl) (fun wd12 hS4 => (r_gtr rfl rfl)) hS4 fun ac78 hf86 => ?_
      refine any_val (i := 32) (v := .bool (decide ((sel3 d_5 a_5 b_5 c_5) > (sel3 d_5 w0 w1 w2)))) hf86 rfl rfl rfl rfl rfl rfl (fun _ _ _ h => h) (by kernel_rfl) (by kernel_rfl) (by kernel_rfl) (fun wd12 hS4 => (r_pickF rfl rfl)) hS4 fun ac79 hf87 => ?_
      refine any_val (i := 33) (v := .bool (decide ((sel3 d_5 a_5 b_5 c_5) > (sel3 d_5 w0 w1 w2)))) hf87 rfl rfl rfl rfl rfl rfl (fun _ _ _ h => h) (by kernel_rfl) (by kernel_rfl) (by kernel_rfl) (fun wd12 hS4 => (r_move rfl)) hS4 fun ac80 hf88 => ?_
      have hf89 := hf88.know 88 (u := .bool false) rfl (congrArg Value.bool (decide_eq_false (by have := hk5.top; omega)))
      refine any_val (i := 34) (v := .pointer (some ⟨b2, 0, none⟩)) hf89 rfl rfl rfl rfl rfl rfl (fun _ _ _ h => h) (by kernel_rfl) (by kernel_rfl) (by kernel_rfl) (fun wd12 hS4 => (r_move rfl)) hS4 fun ac81 hf90 => ?_
      refine any_val (i := 35) (v := .int .i64 m) hf90 rfl rfl rfl rfl rfl rfl (fun _ _ _ h => h) (by kernel_rfl) (by kernel_rfl) (by kernel_rfl) (fun wd12 hS4 => (r_move rfl)) hS4 fun ac82 hf91 => ?_
      refine any_one (i := 36) (by kernel_rfl) ?_
      refine (op_call (R := fun v w' => v = (.int .i64 (spE m ⟨a_5, b_5, c_5, d_5⟩)) ∧ Inv wd12 [(b2, #[.int .i64 w0, .int .i64 w1, .int .i64 w2, .int .i64 (((spS m ⟨a_5, b_5, c_5, d_5⟩ : St)).c0), .int .i64 (((spS m ⟨a_5, b_5, c_5, d_5⟩ : St)).c1), .int .i64 (((spS m ⟨a_5, b_5, c_5, d_5⟩ : St)).c2), .int .i64 (((spS m ⟨a_5, b_5, c_5, d_5⟩ : St)).now)], 58)] w') hf91 rfl rfl rfl rfl ca_14 ((spend_walk w0 w1 w2 a_5 b_5 c_5 d_5 m hd.v.ne hd.v ho5 b2 _ (Has.cons (hI18.at 1 rfl) Has.nil)).mono fun _ _ h => ⟨_, h.1, rfl, h.2⟩) fun ac83 v wd13 hR hf92 => ?_)
      obtain ⟨rfl, hR⟩ := hR
      obtain ⟨a_6, b_6, c_6, d_6, he6⟩ : ∃ a b c d, (spS m ⟨a_5, b_5, c_5, d_5⟩ : St) = ⟨a, b, c, d⟩ := ⟨_, _, _, _, rfl⟩
      rw [he6] at hR
      dsimp only at hR
      have ho6 : Ok w0 w1 w2 ⟨a_6, b_6, c_6, d_6⟩ := by rw [← he6]; exact (spS_ok ho5)
      have hI19 : Inv w [(b1, #[.int .u32 x0, .int .u32 x1, .int .u32 x2], 47), (b2, #[.int .i64 w0, .int .i64 w1, .int .i64 w2, .int .i64 a_6, .int .i64 b_6, .int .i64 c_6, .int .i64 d_6], 58), (b3, #[.int .i64 w0, .int .i64 w1, .int .i64 w2], 22), (b4, #[.int .i64 p0, .int .i64 p1, .int .i64 p2], 22)] _ := Inv.callS (A := [(b1, #[.int .u32 x0, .int .u32 x1, .int .u32 x2], 47)]) (S := [(b2, #[.int .i64 w0, .int .i64 w1, .int .i64 w2, .int .i64 a_5, .int .i64 b_5, .int .i64 c_5, .int .i64 d_5], 58)]) (S' := [(b2, #[.int .i64 w0, .int .i64 w1, .int .i64 w2, .int .i64 a_6, .int .i64 b_6, .int .i64 c_6, .int .i64 d_6], 58)]) (L := [(b3, #[.int .i64 w0, .int .i64 w1, .int .i64 w2], 22), (b4, #[.int .i64 p0, .int .i64 p1, .int .i64 p2], 22)]) (N := []) hI18 hR rfl (fun _ h => by cases h)
      have hs6 := spent_now hk5 hm.1 hm.2 he6
      refine ⟨?_, ?_⟩
      · exact (Has.cons (hI19.at 2 rfl) Has.nil)
      have hS5 : Has [(b3, #[.int .i64 w0, .int .i64 w1, .int .i64 w2], 22)] _ := (Has.cons (hI19.at 2 rfl) Has.nil)
      refine any_val (i := 37) (v := .bool ((spE m ⟨a_5, b_5, c_5, d_5⟩) != 0)) hf92 rfl rfl rfl rfl rfl rfl (fun _ _ _ h => h) (by kernel_rfl) (by kernel_rfl) (by kernel_rfl) (fun wd13 hS5 => (r_neq rfl rfl)) hS5 fun ac84 hf93 => ?_
      refine any_val (i := 38) (v := .bool ((spE m ⟨a_5, b_5, c_5, d_5⟩) != 0)) hf93 rfl rfl rfl rfl rfl rfl (fun _ _ _ h => h) (by kernel_rfl) (by kernel_rfl) (by kernel_rfl) (fun wd13 hS5 => (r_pickF rfl rfl)) hS5 fun ac85 hf94 => ?_
      refine any_end (by kernel_rfl) ?_
      clear hI14 ac46 hf50 ac47 hf51 ac48 hf52 ac49 hf53 ac50 hf54 ac51 hf55 ac52 hf56 hf57 ac53 hf58 ac54 hf59 ac55 hf60 ac56 hf61 hf62 ac57 hf63 ac58 hf64 ac59 wd9 hI15 hf65 hS1 ac60 hf66 ac61 hf67 ac62 hf68 hf69 ac63 hf70 ac64 hf71 ac65 wd10 hI16 hf72 hS2 ac66 hf73 ac67 hf74 ac68 hf75 ac69 hf76 hf77 ac70 hf78 ac71 hf79 ac72 hf80 ac73 hf81 ac74 hf82 ac75 wd11 hI17 hf83 hS3 ac76 hf84 ac77 hf85 ac78 hf86 ac79 hf87 hf88 ac80 hf89 ac81 hf90 ac82 wd12 hf91 hI18 hR hS4 ac83 hf92 ac84 hf93 hS5
      refine then_normal ?_
      have hf95 := hf94.know 93 (u := .bool false) rfl (congrArg Value.bool (bne_eq_false_iff_eq.2 hs6.1))
      refine code_if_false hf95 rfl ?_
      refine wp_skip ?_
      refine then_normal ?_
      refine code_seq ?_
      refine seq_start (l := [0, 1, 2, 3, 4, 5, 6, 7, 8, 9, 10, 11, 12, 13, 14]) rfl ?_
      refine seq_one (op_val (v := .int .i64 (i : Int)) hf95 rfl rfl rfl rfl rfl rfl (r_move rfl) fun ac86 hf96 => ?_)
      refine seq_one (op_val (v := .int .u8 fr) hf96 rfl rfl rfl rfl rfl rfl (r_move rfl) fun ac87 hf97 => ?_)
      refine seq_one (op_val (v := .int .i64 fr) hf97 rfl rfl rfl rfl rfl rfl (r_conv (c := fr) ui_5 ui_3 rfl (wrap_i64 (by omega) (by omega))) fun ac88 hf98 => ?_)
      refine seq_one (op_val (v := .int .i64 (fr.tmod 100)) hf98 rfl rfl rfl rfl rfl rfl (r_rem (c := (fr.tmod 100)) rfl rfl (by omega) rfl) fun ac89 hf99 => ?_)
      refine seq_one (op_val (v := .bool (decide ((i : Int) ≥ (fr.tmod 100)))) hf99 rfl rfl rfl rfl rfl rfl (r_geq rfl rfl) fun ac90 hf100 => ?_)
      refine seq_one (op_val (v := .bool (decide ((i : Int) ≥ (fr.tmod 100)))) hf100 rfl rfl rfl rfl rfl rfl (r_move rfl) fun ac91 hf101 => ?_)
      rcases Bool.eq_false_or_eq_true (decide ((i : Int) ≥ (fr.tmod 100)) : Bool) with g99_3 | g99_3
      · have hf102 := hf101.know 99 (u := .bool true) rfl (congrArg Value.bool g99_3)
        refine seq_one (op_val (v := .int .i64 (i : Int)) hf102 rfl rfl rfl rfl rfl rfl (r_move rfl) fun ac92 hf103 => ?_)
        refine seq_one (op_val (v := .int .u8 fr) hf103 rfl rfl rfl rfl rfl rfl (r_move rfl) fun ac93 hf104 => ?_)
        refine seq_one (op_val (v := .int .i64 fr) hf104 rfl rfl rfl rfl rfl rfl (r_conv (c := fr) ui_5 ui_3 rfl (wrap_i64 (by omega) (by omega))) fun ac94 hf105 => ?_)
        refine seq_one (op_val (v := .int .i64 (fr.tmod 100)) hf105 rfl rfl rfl rfl rfl rfl (r_rem (c := (fr.tmod 100)) rfl rfl (by omega) rfl) fun ac95 hf106 => ?_)
        refine seq_one (op_val (v := .int .u8 ma) hf106 rfl rfl rfl rfl rfl rfl (r_move rfl) fun ac96 hf107 => ?_)
        refine seq_one (op_val (v := .int .i64 ma) hf107 rfl rfl rfl rfl rfl rfl (r_conv (c := ma) ui_5 ui_3 rfl (wrap_i64 (by omega) (by omega))) fun ac97 hf108 => ?_)
        refine seq_one (op_val (v := .int .i64 (fr.tmod 100 + ma)) hf108 rfl rfl rfl rfl rfl rfl (r_add (c := (fr.tmod 100 + ma)) rfl rfl (by rw [Int.tmod_eq_emod_of_nonneg hfr.1]; exact wrap_i64 (by omega) (by omega))) fun ac98 hf109 => ?_)
        refine seq_one (op_val (v := .bool (decide ((i : Int) < (fr.tmod 100 + ma)))) hf109 rfl rfl rfl rfl rfl rfl (r_lss rfl rfl) fun ac99 hf110 => ?_)
        refine seq_one (op_val (v := .bool (decide ((i : Int) < (fr.tmod 100 + ma)))) hf110 rfl rfl rfl rfl rfl rfl (r_pickT rfl rfl) fun ac100 hf111 => ?_)
        refine seq_end ?_
        clear hf94 ac85 hf95 ac86 hf96 ac87 hf97 ac88 hf98 ac89 hf99 ac90 hf100 hf101 ac91 hf102 ac92 hf103 ac93 hf104 ac94 hf105 ac95 hf106 ac96 hf107 ac97 hf108 ac98 hf109 ac99 hf110
        refine then_normal ?_
        refine code_if hf111 rfl (fun c108_4 => ?_) (fun c108_4 => ?_)
        · have hf112 := hf111.know 108 (u := .bool true) rfl (congrArg Value.bool c108_4)
          refine seq_start (l := [0, 1, 2, 3, 4, 5, 6]) rfl ?_
          refine seq_one (op_val (v := .int .i64 d_5) hf112 rfl rfl rfl rfl rfl rfl (r_move rfl) fun ac101 hf113 => ?_)
          refine seq_one (op_val (v := .pointer (some ⟨b4, 0 + d_5.toNat, none⟩)) hf113 rfl rfl rfl rfl rfl rfl (r_indexAddr (i := d_5.toNat) ar_22 rfl rfl (idx3 hk5.now).1 (idx3 hk5.now).2 (by rw [Nat.mul_one])) fun ac102 hf114 => ?_)
          refine seq_one (op_val (v := .int .i64 (sel3 d_5 p0 p1 p2)) hf114 rfl rfl rfl rfl rfl rfl (r_load ag_3 rfl (hI19.at 3 rfl) (by rcases hk5.now with h | h | h <;> rw [h] <;> rfl)) fun ac103 hf115 => ?_)
          refine seq_one (op_val (v := .int .i64 m) hf115 rfl rfl rfl rfl rfl rfl (r_move rfl) fun ac104 hf116 => ?_)
          refine seq_one (op_val (v := .int .i64 (sel3 d_5 p0 p1 p2 + m)) hf116 rfl rfl rfl rfl rfl rfl (r_add (c := (sel3 d_5 p0 p1 p2 + m)) rfl rfl (by have h1 := sel3_b (n := d_5) (lo := 0) (hi := 7864320) (a := p0) (b := p1) (c := p2) (by have := hx1.b0; have := hx1.le; omega) (by have := hx1.b1; have := hx1.le; omega) (by have := hx1.b2; have := hx1.le; omega); exact wrap_i64 (by omega) (by omega))) fun ac105 hf117 => ?_)
          refine seq_one (op_val (v := .pointer (some ⟨b4, 0 + d_5.toNat, none⟩)) hf117 rfl rfl rfl rfl rfl rfl (r_indexAddr (i := d_5.toNat) ar_22 rfl rfl (idx3 hk5.now).1 (idx3 hk5.now).2 (by rw [Nat.mul_one])) fun ac106 hf118 => ?_)
          refine seq_one (op_store (cs' := #[.int .i64 (upd3 d_5 0 (sel3 d_5 p0 p1 p2 + m) p0), .int .i64 (upd3 d_5 1 (sel3 d_5 p0 p1 p2 + m) p1), .int .i64 (upd3 d_5 2 (sel3 d_5 p0 p1 p2 + m) p2)]) 3 hf118 rfl rfl rfl rfl rfl sz_3 hI19 rfl (by have := (idx3 hk5.now).2; show 0 + d_5.toNat < 3; omega) (by rcases hk5.now with h | h | h <;> rw [h] <;> rfl) fun wd14 hI20 => ?_)
          have hI21 : Inv w [(b1, #[.int .u32 x0, .int .u32 x1, .int .u32 x2], 47), (b2, #[.int .i64 w0, .int .i64 w1, .int .i64 w2, .int .i64 a_6, .int .i64 b_6, .int .i64 c_6, .int .i64 d_6], 58), (b3, #[.int .i64 w0, .int .i64 w1, .int .i64 w2], 22), (b4, #[.int .i64 (upd3 d_5 0 (sel3 d_5 p0 p1 p2 + m) p0), .int .i64 (upd3 d_5 1 (sel3 d_5 p0 p1 p2 + m) p1), .int .i64 (upd3 d_5 2 (sel3 d_5 p0 p1 p2 + m) p2)], 22)] wd14 := hI20
          refine seq_end ?_
          clear hf111 ac100 hf112 ac101 hf113 ac102 hf114 ac103 hf115 ac104 hf116 ac105 hf117 wd13 hI19 hI20
          refine block_normal ?_
          refine then_normal ?_
          refine seq_start (l := [0, 1]) rfl ?_
          refine seq_one (op_val (v := .int .i64 ((i + 1 : Nat) : Int)) hf118 rfl rfl rfl rfl rfl rfl (r_add (c := ((i + 1 : Nat) : Int)) rfl rfl (wrap_i64 (by omega) (by have := hx1.le; omega))) fun ac107 hf119 => ?_)
          refine seq_one (op_val (v := .int .i64 ((i + 1 : Nat) : Int)) hf119 rfl rfl rfl rfl rfl rfl (r_move rfl) fun ac108 hf120 => ?_)
          refine seq_end ?_
          clear ac106 hf118 ac107 hf119
          refine then_normal ?_
          exact ⟨(i + 1, a_6, b_6, c_6, d_6, upd3 d_5 0 (sel3 d_5 p0 p1 p2 + m) p0, upd3 d_5 1 (sel3 d_5 p0 p1 p2 + m) p1, upd3 d_5 2 (sel3 d_5 p0 p1 p2 + m) p2), (hf120.cons 0 rfl (hf120.cons 1 rfl (hf120.cons 2 rfl (hf120.cons 3 rfl (hf120.cons 4 rfl (hf120.cons 5 rfl (hf120.cons 11 rfl (hf120.cons 12 rfl (hf120.cons 13 rfl (hf120.cons 14 rfl (hf120.cons 23 rfl (hf120.cons 24 rfl (hf120.cons 25 rfl (hf120.cons 26 rfl (hf120.cons 27 rfl (hf120.cons 28 rfl (hf120.cons 29 rfl (hf120.cons 30 rfl (hf120.cons 31 rfl (hf120.cons 32 rfl (hf120.cons 33 rfl hf120.nil))))))))))))))))))))), ⟨hI21, (ShI.into (t := ⟨a_5, b_5, c_5, d_5⟩) hd.v hx1 (by have := of_decide_eq_true c34_1; omega) he5 he6 hm.1 hm.2 (of_decide_eq_true g99_3) (of_decide_eq_true c108_4))⟩, (by have := of_decide_eq_true c34_1; show 120 - (i + 1) < 120 - i; omega)⟩
        · have hf121 := hf111.know 108 (u := .bool false) rfl (congrArg Value.bool c108_4)
          refine wp_skip ?_
          refine block_normal ?_
          refine then_normal ?_
          refine seq_start (l := [0, 1]) rfl ?_
          refine seq_one (op_val (v := .int .i64 ((i + 1 : Nat) : Int)) hf121 rfl rfl rfl rfl rfl rfl (r_add (c := ((i + 1 : Nat) : Int)) rfl rfl (wrap_i64 (by omega) (by have := hx1.le; omega))) fun ac109 hf122 => ?_)
          refine seq_one (op_val (v := .int .i64 ((i + 1 : Nat) : Int)) hf122 rfl rfl rfl rfl rfl rfl (r_move rfl) fun ac110 hf123 => ?_)
          refine seq_end ?_
          clear hf111 ac100 hf121 ac109 hf122
          refine then_normal ?_
          exact ⟨(i + 1, a_6, b_6, c_6, d_6, p0, p1, p2), (hf123.cons 0 rfl (hf123.cons 1 rfl (hf123.cons 2 rfl (hf123.cons 3 rfl (hf123.cons 4 rfl (hf123.cons 5 rfl (hf123.cons 11 rfl (hf123.cons 12 rfl (hf123.cons 13 rfl (hf123.cons 14 rfl (hf123.cons 23 rfl (hf123.cons 24 rfl (hf123.cons 25 rfl (hf123.cons 26 rfl (hf123.cons 27 rfl (hf123.cons 28 rfl (hf123.cons 29 rfl (hf123.cons 30 rfl (hf123.cons 31 rfl (hf123.cons 32 rfl (hf123.cons 33 rfl hf123.nil))))))))))))))))))))), ⟨hI19, (hx1.out (by have := of_decide_eq_true c34_1; omega) ho6 (.inr (Int.not_lt.1 (of_decide_eq_false c108_4))))⟩, (by have := of_decide_eq_true c34_1; show 120 - (i + 1) < 120 - i; omega)⟩
      · have hf124 := hf101.know 99 (u := .bool false) rfl (congrArg Value.bool g99_3)
        refine seq_one (op_skip hf124 rfl rfl rfl rfl fun ac111 hf125 => ?_)
        refine seq_one (op_skip hf125 rfl rfl rfl rfl fun ac112 hf126 => ?_)
        refine seq_one (op_skip hf126 rfl rfl rfl rfl fun ac113 hf127 => ?_)
        refine seq_one (op_skip hf127 rfl rfl rfl rfl fun ac114 hf128 => ?_)
        refine seq_one (op_skip hf128 rfl rfl rfl rfl fun ac115 hf129 => ?_)
        refine seq_one (op_skip hf129 rfl rfl rfl rfl fun ac116 hf130 => ?_)
        refine seq_one (op_skip hf130 rfl rfl rfl rfl fun ac117 hf131 => ?_)
        refine seq_one (op_skip hf131 rfl rfl rfl rfl fun ac118 hf132 => ?_)
        refine seq_one (op_val (v := .bool false) hf132 rfl rfl rfl rfl rfl rfl (r_pickF rfl rfl) fun ac119 hf133 => ?_)
        refine seq_end ?_
        clear hf94 ac85 hf95 ac86 hf96 ac87 hf97 ac88 hf98 ac89 hf99 ac90 hf100 hf101 ac91 hf124 ac111 hf125 ac112 hf126 ac113 hf127 ac114 hf128 ac115 hf129 ac116 hf130 ac117 hf131 ac118 hf132
        refine then_normal ?_
        refine code_if_false hf133 rfl ?_
        refine wp_skip ?_
        refine block_normal ?_
        refine then_normal ?_
        refine seq_start (l := [0, 1]) rfl ?_
        refine seq_one (op_val (v := .int .i64 ((i + 1 : Nat) : Int)) hf133 rfl rfl rfl rfl rfl rfl (r_add (c := ((i + 1 : Nat) : Int)) rfl rfl (wrap_i64 (by omega) (by have := hx1.le; omega))) fun ac120 hf134 => ?_)
        refine seq_one (op_val (v := .int .i64 ((i + 1 : Nat) : Int)) hf134 rfl rfl rfl rfl rfl rfl (r_move rfl) fun ac121 hf135 => ?_)
        refine seq_end ?_
        clear ac119 hf133 ac120 hf134
        refine then_normal ?_
        exact ⟨(i + 1, a_6, b_6, c_6, d_6, p0, p1, p2), (hf135.cons 0 rfl (hf135.cons 1 rfl (hf135.cons 2 rfl (hf135.cons 3 rfl (hf135.cons 4 rfl (hf135.cons 5 rfl (hf135.cons 11 rfl (hf135.cons 12 rfl (hf135.cons 13 rfl (hf135.cons 14 rfl (hf135.cons 23 rfl (hf135.cons 24 rfl (hf135.cons 25 rfl (hf135.cons 26 rfl (hf135.cons 27 rfl (hf135.cons 28 rfl (hf135.cons 29 rfl (hf135.cons 30 rfl (hf135.cons 31 rfl (hf135.cons 32 rfl (hf135.cons 33 rfl hf135.nil))))))))))))))))))))), ⟨hI19, (hx1.out (by have := of_decide_eq_true c34_1; omega) ho6 (.inl (Int.not_le.1 (of_decide_eq_false g99_3))))⟩, (by have := of_decide_eq_true c34_1; show 120 - (i + 1) < 120 - i; omega)⟩
  · have hf136 := hf20.know 34 (u := .bool false) rfl (congrArg Value.bool c34_1)
    refine wp_exit ?_
    refine then_exit ?_
    refine then_exit ?_
    refine block_here ?_
    refine then_normal ?_
    refine code_seq ?_
    refine code_seq ?_
    refine seq_start (l := [0, 1]) rfl ?_
    refine seq_one (op_val (v := .agg #[.int .i64 w0, .int .i64 w1, .int .i64 w2]) hf136 rfl rfl rfl rfl rfl rfl (r_loadW ag_22 sz_22 rfl (hI12.at 2 rfl) rfl) fun ac122 hf137 => ?_)
    refine seq_one (op_val (v := .int .i64 0) hf137 rfl rfl rfl rfl rfl rfl (r_move rfl) fun ac123 hf138 => ?_)
    refine seq_end ?_
    clear hf20 ac20 hf136 ac122 hf137
    refine then_normal ?_
    refine wp_block ?_
    have hp0 : 0 ≤ p0 ∧ p0 ≤ 7864320 := by have h1 := hx1.b0; have h2 := hx1.le; omega
    have hp1 : 0 ≤ p1 ∧ p1 ≤ 7864320 := by have h1 := hx1.b1; have h2 := hx1.le; omega
    have hp2 : 0 ≤ p2 ∧ p2 ≤ 7864320 := by have h1 := hx1.b2; have h2 := hx1.le; omega
    refine wp_loop_rounds 4 ?_
    refine rounds_go ?_
    refine code_seq ?_
    refine seq_start (l := [0]) rfl ?_
    refine seq_one (op_val (v := .bool true) hf138 rfl rfl rfl rfl rfl rfl (r_lssC rfl rfl (by decide)) fun ac124 hf139 => ?_)
    refine seq_end ?_
    clear ac123 hf138
    refine then_normal ?_
    refine code_seq ?_
    refine code_if_true hf139 rfl ?_
    refine wp_skip ?_
    refine then_normal ?_
    refine code_seq ?_
    refine wp_block ?_
    refine code_seq ?_
    refine seq_start (l := [0, 1, 2, 3]) rfl ?_
    refine seq_one (op_val (v := .int .i64 0) hf139 rfl rfl rfl rfl rfl rfl (r_move rfl) fun ac125 hf140 => ?_)
    refine seq_one (op_val (v := .int .i64 w0) hf140 rfl rfl rfl rfl rfl rfl (r_index (i := 0) ar_22 ag_3 rfl rfl rfl (by decide) rfl) fun ac126 hf141 => ?_)
    refine seq_one (op_val (v := .int .i64 0) hf141 rfl rfl rfl rfl rfl rfl (r_assign rfl) fun ac127 hf142 => ?_)
    refine seq_one (op_val (v := .int .i64 w0) hf142 rfl rfl rfl rfl rfl rfl (r_assign rfl) fun ac128 hf143 => ?_)
    refine seq_end ?_
    clear ac124 hf139 ac125 hf140 ac126 hf141 ac127 hf142
    refine then_normal ?_
    refine code_seq ?_
    refine seq_start (l := [0, 1]) rfl ?_
    refine seq_one (op_val (v := .agg #[.int .i64 w0, .int .i64 w1, .int .i64 w2]) hf143 rfl rfl rfl rfl rfl rfl (r_loadW ag_22 sz_22 rfl (hI12.at 2 rfl) rfl) fun ac129 hf144 => ?_)
    refine seq_one (op_val (v := .int .i64 0) hf144 rfl rfl rfl rfl rfl rfl (r_move rfl) fun ac130 hf145 => ?_)
    refine seq_end ?_
    clear ac128 hf143 ac129 hf144
    refine then_normal ?_
    refine wp_block ?_
    refine wp_loop_rounds 4 ?_
    refine rounds_go ?_
    refine code_seq ?_
    refine seq_start (l := [0]) rfl ?_
    refine seq_one (op_val (v := .bool true) hf145 rfl rfl rfl rfl rfl rfl (r_lssC rfl rfl (by decide)) fun ac131 hf146 => ?_)
    refine seq_end ?_
    clear ac130 hf145
    refine then_normal ?_
    refine code_seq ?_
    refine code_if_true hf146 rfl ?_
    refine wp_skip ?_
    refine then_normal ?_
    refine code_seq ?_
    refine wp_block ?_
    refine code_seq ?_
    refine seq_start (l := [0, 1, 2, 3]) rfl ?_
    refine seq_one (op_val (v := .int .i64 0) hf146 rfl rfl rfl rfl rfl rfl (r_move rfl) fun ac132 hf147 => ?_)
    refine seq_one (op_val (v := .int .i64 w0) hf147 rfl rfl rfl rfl rfl rfl (r_index (i := 0) ar_22 ag_3 rfl rfl rfl (by decide) rfl) fun ac133 hf148 => ?_)
    refine seq_one (op_val (v := .int .i64 0) hf148 rfl rfl rfl rfl rfl rfl (r_assign rfl) fun ac134 hf149 => ?_)
    refine seq_one (op_val (v := .int .i64 w0) hf149 rfl rfl rfl rfl rfl rfl (r_assign rfl) fun ac135 hf150 => ?_)
    refine seq_end ?_
    clear ac131 hf146 ac132 hf147 ac133 hf148 ac134 hf149
    refine then_normal ?_
    refine code_seq ?_
    refine any_start (fun w => Has [(b4, #[.int .i64 p0, .int .i64 p1, .int .i64 p2], 22)] w) follows (Has.drew (Has.cons (hI12.at 3 rfl) Has.nil)) ?_
    have hS6 : Has [(b4, #[.int .i64 p0, .int .i64 p1, .int .i64 p2], 22)] _ := Has.drew (Has.cons (hI12.at 3 rfl) Has.nil)
    have hI22 := hI12.drew
    refine any_val (i := 0) (v := .int .i64 0) hf150 rfl rfl rfl rfl rfl rfl (fun _ _ _ h => h) (by kernel_rfl) (by kernel_rfl) (by kernel_rfl) (fun wd7 hS6 => (r_move rfl)) hS6 fun ac136 hf151 => ?_
    refine any_val (i := 1) (v := .pointer (some ⟨b4, 0, none⟩)) hf151 rfl rfl rfl rfl rfl rfl (fun _ _ _ h => h) (by kernel_rfl) (by kernel_rfl) (by kernel_rfl) (fun wd7 hS6 => (r_indexAddr (i := 0) ar_22 rfl rfl rfl (by decide) rfl)) hS6 fun ac137 hf152 => ?_
    refine any_val (i := 2) (v := .int .i64 p0) hf152 rfl rfl rfl rfl rfl rfl (fun _ _ _ h => h) (by kernel_rfl) (by kernel_rfl) (by kernel_rfl) (fun wd7 hS6 => (r_load ag_3 rfl (hS6.at 0 rfl) rfl)) hS6 fun ac138 hf153 => ?_
    refine any_val (i := 3) (v := .int .i64 w0) hf153 rfl rfl rfl rfl rfl rfl (fun _ _ _ h => h) (by kernel_rfl) (by kernel_rfl) (by kernel_rfl) (fun wd7 hS6 => (r_move rfl)) hS6 fun ac139 hf154 => ?_
    refine any_val (i := 4) (v := .int .i64 (p0 * w0)) hf154 rfl rfl rfl rfl rfl rfl (fun _ _ _ h => h) (by kernel_rfl) (by kernel_rfl) (by kernel_rfl) (fun wd7 hS6 => (r_mul (c := (p0 * w0)) rfl rfl (mulb_w hp0 hd.v.b0))) hS6 fun ac140 hf155 => ?_
    refine any_val (i := 5) (v := .int .i64 0) hf155 rfl rfl rfl rfl rfl rfl (fun _ _ _ h => h) (by kernel_rfl) (by kernel_rfl) (by kernel_rfl) (fun wd7 hS6 => (r_move rfl)) hS6 fun ac141 hf156 => ?_
    refine any_val (i := 6) (v := .pointer (some ⟨b4, 0, none⟩)) hf156 rfl rfl rfl rfl rfl rfl (fun _ _ _ h => h) (by kernel_rfl) (by kernel_rfl) (by kernel_rfl) (fun wd7 hS6 => (r_indexAddr (i := 0) ar_22 rfl rfl rfl (by decide) rfl)) hS6 fun ac142 hf157 => ?_
    refine any_val (i := 7) (v := .int .i64 p0) hf157 rfl rfl rfl rfl rfl rfl (fun _ _ _ h => h) (by kernel_rfl) (by kernel_rfl) (by kernel_rfl) (fun wd7 hS6 => (r_load ag_3 rfl (hS6.at 0 rfl) rfl)) hS6 fun ac143 hf158 => ?_
    refine any_val (i := 8) (v := .int .i64 w0) hf158 rfl rfl rfl rfl rfl rfl (fun _ _ _ h => h) (by kernel_rfl) (by kernel_rfl) (by kernel_rfl) (fun wd7 hS6 => (r_move rfl)) hS6 fun ac144 hf159 => ?_
    refine any_val (i := 9) (v := .int .i64 (p0 * w0)) hf159 rfl rfl rfl rfl rfl rfl (fun _ _ _ h => h) (by kernel_rfl) (by kernel_rfl) (by kernel_rfl) (fun wd7 hS6 => (r_mul (c := (p0 * w0)) rfl rfl (mulb_w hp0 hd.v.b0))) hS6 fun ac145 hf160 => ?_
    refine any_val (i := 10) (v := .int .i64 ((p0 * w0) - (p0 * w0))) hf160 rfl rfl rfl rfl rfl rfl (fun _ _ _ h => h) (by kernel_rfl) (by kernel_rfl) (by kernel_rfl) (fun wd7 hS6 => (r_sub (c := ((p0 * w0) - (p0 * w0))) rfl rfl (df_w (mulb hp0 hd.v.b0) (mulb hp0 hd.v.b0)))) hS6 fun ac146 hf161 => ?_
    refine any_val (i := 11) (v := .int .i64 w0) hf161 rfl rfl rfl rfl rfl rfl (fun _ _ _ h => h) (by kernel_rfl) (by kernel_rfl) (by kernel_rfl) (fun wd7 hS6 => (r_move rfl)) hS6 fun ac147 hf162 => ?_
    refine any_val (i := 12) (v := .int .i64 (3 * w0)) hf162 rfl rfl rfl rfl rfl rfl (fun _ _ _ h => h) (by kernel_rfl) (by kernel_rfl) (by kernel_rfl) (fun wd7 hS6 => (r_mul (c := (3 * w0)) rfl rfl (wrap_i64 (by have := hd.v.b0; omega) (by have := hd.v.b0; omega)))) hS6 fun ac148 hf163 => ?_
    refine any_val (i := 13) (v := .int .i64 w0) hf163 rfl rfl rfl rfl rfl rfl (fun _ _ _ h => h) (by kernel_rfl) (by kernel_rfl) (by kernel_rfl) (fun wd7 hS6 => (r_move rfl)) hS6 fun ac149 hf164 => ?_
    refine any_val (i := 14) (v := .int .i64 (3 * (w0 * w0))) hf164 rfl rfl rfl rfl rfl rfl (fun _ _ _ h => h) (by kernel_rfl) (by kernel_rfl) (by kernel_rfl) (fun wd7 hS6 => (r_mul (c := (3 * (w0 * w0))) rfl rfl (w3_w hd.v.b0 hd.v.b0))) hS6 fun ac150 hf165 => ?_
    refine any_val (i := 15) (v := .int .i64 w0) hf165 rfl rfl rfl rfl rfl rfl (fun _ _ _ h => h) (by kernel_rfl) (by kernel_rfl) (by kernel_rfl) (fun wd7 hS6 => (r_move rfl)) hS6 fun ac151 hf166 => ?_
    refine any_val (i := 16) (v := .int .i64 w0) hf166 rfl rfl rfl rfl rfl rfl (fun _ _ _ h => h) (by kernel_rfl) (by kernel_rfl) (by kernel_rfl) (fun wd7 hS6 => (r_move rfl)) hS6 fun ac152 hf167 => ?_
    refine any_val (i := 17) (v := .int .i64 (w0 + w0)) hf167 rfl rfl rfl rfl rfl rfl (fun _ _ _ h => h) (by kernel_rfl) (by kernel_rfl) (by kernel_rfl) (fun wd7 hS6 => (r_add (c := (w0 + w0)) rfl rfl (wrap_i64 (by have := hd.v.b0; have := hd.v.b0; omega) (by have := hd.v.b0; have := hd.v.b0; omega)))) hS6 fun ac153 hf168 => ?_
    refine any_val (i := 18) (v := .int .i64 (65536 * (w0 + w0))) hf168 rfl rfl rfl rfl rfl rfl (fun _ _ _ h => h) (by kernel_rfl) (by kernel_rfl) (by kernel_rfl) (fun wd7 hS6 => (r_mul (c := (65536 * (w0 + w0))) rfl rfl (wrap_i64 (by have := hd.v.b0; have := hd.v.b0; omega) (by have := hd.v.b0; have := hd.v.b0; omega)))) hS6 fun ac154 hf169 => ?_
    refine any_val (i := 19) (v := .int .i64 ((3 * (w0 * w0)) + (65536 * (w0 + w0)))) hf169 rfl rfl rfl rfl rfl rfl (fun _ _ _ h => h) (by kernel_rfl) (by kernel_rfl) (by kernel_rfl) (fun wd7 hS6 => (r_add (c := ((3 * (w0 * w0)) + (65536 * (w0 + w0)))) rfl rfl (sm_w hd.v.b0 hd.v.b0))) hS6 fun ac155 hf170 => ?_
    refine any_val (i := 20) (v := .bool (decide (((p0 * w0) - (p0 * w0)) > ((3 * (w0 * w0)) + (65536 * (w0 + w0)))))) hf170 rfl rfl rfl rfl rfl rfl (fun _ _ _ h => h) (by kernel_rfl) (by kernel_rfl) (by kernel_rfl) (fun wd7 hS6 => (r_gtr rfl rfl)) hS6 fun ac156 hf171 => ?_
    refine any_end (by kernel_rfl) ?_
    clear hI12 ac135 hf150 ac136 hf151 ac137 hf152 ac138 hf153 ac139 hf154 ac140 hf155 ac141 hf156 ac142 hf157 ac143 hf158 ac144 hf159 ac145 hf160 ac146 hf161 ac147 hf162 ac148 hf163 ac149 hf164 ac150 hf165 ac151 hf166 ac152 hf167 ac153 hf168 ac154 hf169 ac155 hf170 hS6
    refine then_normal ?_
    have hf172 := hf171.know 146 (u := .bool false) rfl (congrArg Value.bool ((sh_same hd.v.b0)))
    refine code_if_false hf172 rfl ?_
    refine wp_skip ?_
    refine block_normal ?_
    refine then_normal ?_
    refine seq_start (l := [0, 1]) rfl ?_
    refine seq_one (op_val (v := .int .i64 1) hf172 rfl rfl rfl rfl rfl rfl (r_add (c := 1) rfl rfl (by rfl)) fun ac157 hf173 => ?_)
    refine seq_one (op_val (v := .int .i64 1) hf173 rfl rfl rfl rfl rfl rfl (r_move rfl) fun ac158 hf174 => ?_)
    refine seq_end ?_
    clear hf171 ac156 hf172 ac157 hf173
    refine then_normal ?_
    refine rounds_go ?_
    refine code_seq ?_
    refine seq_start (l := [0]) rfl ?_
    refine seq_one (op_val (v := .bool true) hf174 rfl rfl rfl rfl rfl rfl (r_lssC rfl rfl (by decide)) fun ac159 hf175 => ?_)
    refine seq_end ?_
    clear ac158 hf174
    refine then_normal ?_
    refine code_seq ?_
    refine code_if_true hf175 rfl ?_
    refine wp_skip ?_
    refine then_normal ?_
    refine code_seq ?_
    refine wp_block ?_
    refine code_seq ?_
    refine seq_start (l := [0, 1, 2, 3]) rfl ?_
    refine seq_one (op_val (v := .int .i64 1) hf175 rfl rfl rfl rfl rfl rfl (r_move rfl) fun ac160 hf176 => ?_)
    refine seq_one (op_val (v := .int .i64 w1) hf176 rfl rfl rfl rfl rfl rfl (r_index (i := 1) ar_22 ag_3 rfl rfl rfl (by decide) rfl) fun ac161 hf177 => ?_)
    refine seq_one (op_val (v := .int .i64 1) hf177 rfl rfl rfl rfl rfl rfl (r_assign rfl) fun ac162 hf178 => ?_)
    refine seq_one (op_val (v := .int .i64 w1) hf178 rfl rfl rfl rfl rfl rfl (r_assign rfl) fun ac163 hf179 => ?_)
    refine seq_end ?_
    clear ac159 hf175 ac160 hf176 ac161 hf177 ac162 hf178
    refine then_normal ?_
    refine code_seq ?_
    refine any_start (fun w => Has [(b4, #[.int .i64 p0, .int .i64 p1, .int .i64 p2], 22)] w) follows (Has.drew (Has.cons (hI22.at 3 rfl) Has.nil)) ?_
    have hS7 : Has [(b4, #[.int .i64 p0, .int .i64 p1, .int .i64 p2], 22)] _ := Has.drew (Has.cons (hI22.at 3 rfl) Has.nil)
    have hI23 := hI22.drew
    refine any_val (i := 0) (v := .int .i64 0) hf179 rfl rfl rfl rfl rfl rfl (fun _ _ _ h => h) (by kernel_rfl) (by kernel_rfl) (by kernel_rfl) (fun wd7 hS7 => (r_move rfl)) hS7 fun ac164 hf180 => ?_
    refine any_val (i := 1) (v := .pointer (some ⟨b4, 0, none⟩)) hf180 rfl rfl rfl rfl rfl rfl (fun _ _ _ h => h) (by kernel_rfl) (by kernel_rfl) (by kernel_rfl) (fun wd7 hS7 => (r_indexAddr (i := 0) ar_22 rfl rfl rfl (by decide) rfl)) hS7 fun ac165 hf181 => ?_
    refine any_val (i := 2) (v := .int .i64 p0) hf181 rfl rfl rfl rfl rfl rfl (fun _ _ _ h => h) (by kernel_rfl) (by kernel_rfl) (by kernel_rfl) (fun wd7 hS7 => (r_load ag_3 rfl (hS7.at 0 rfl) rfl)) hS7 fun ac166 hf182 => ?_
    refine any_val (i := 3) (v := .int .i64 w1) hf182 rfl rfl rfl rfl rfl rfl (fun _ _ _ h => h) (by kernel_rfl) (by kernel_rfl) (by kernel_rfl) (fun wd7 hS7 => (r_move rfl)) hS7 fun ac167 hf183 => ?_
    refine any_val (i := 4) (v := .int .i64 (p0 * w1)) hf183 rfl rfl rfl rfl rfl rfl (fun _ _ _ h => h) (by kernel_rfl) (by kernel_rfl) (by kernel_rfl) (fun wd7 hS7 => (r_mul (c := (p0 * w1)) rfl rfl (mulb_w hp0 hd.v.b1))) hS7 fun ac168 hf184 => ?_
    refine any_val (i := 5) (v := .int .i64 1) hf184 rfl rfl rfl rfl rfl rfl (fun _ _ _ h => h) (by kernel_rfl) (by kernel_rfl) (by kernel_rfl) (fun wd7 hS7 => (r_move rfl)) hS7 fun ac169 hf185 => ?_
    refine any_val (i := 6) (v := .pointer (some ⟨b4, 1, none⟩)) hf185 rfl rfl rfl rfl rfl rfl (fun _ _ _ h => h) (by kernel_rfl) (by kernel_rfl) (by kernel_rfl) (fun wd7 hS7 => (r_indexAddr (i := 1) ar_22 rfl rfl rfl (by decide) rfl)) hS7 fun ac170 hf186 => ?_
    refine any_val (i := 7) (v := .int .i64 p1) hf186 rfl rfl rfl rfl rfl rfl (fun _ _ _ h => h) (by kernel_rfl) (by kernel_rfl) (by kernel_rfl) (fun wd7 hS7 => (r_load ag_3 rfl (hS7.at 0 rfl) rfl)) hS7 fun ac171 hf187 => ?_
    refine any_val (i := 8) (v := .int .i64 w0) hf187 rfl rfl rfl rfl rfl rfl (fun _ _ _ h => h) (by kernel_rfl) (by kernel_rfl) (by kernel_rfl) (fun wd7 hS7 => (r_move rfl)) hS7 fun ac172 hf188 => ?_
    refine any_val (i := 9) (v := .int .i64 (p1 * w0)) hf188 rfl rfl rfl rfl rfl rfl (fun _ _ _ h => h) (by kernel_rfl) (by kernel_rfl) (by kernel_rfl) (fun wd7 hS7 => (r_mul (c := (p1 * w0)) rfl rfl (mulb_w hp1 hd.v.b0))) hS7 fun ac173 hf189 => ?_
    refine any_val (i := 10) (v := .int .i64 ((p0 * w1) - (p1 * w0))) hf189 rfl rfl rfl rfl rfl rfl (fun _ _ _ h => h) (by kernel_rfl) (by kernel_rfl) (by kernel_rfl) (fun wd7 hS7 => (r_sub (c := ((p0 * w1) - (p1 * w0))) rfl rfl (df_w (mulb hp0 hd.v.b1) (mulb hp1 hd.v.b0)))) hS7 fun ac174 hf190 => ?_
    refine any_val (i := 11) (v := .int .i64 w0) hf190 rfl rfl rfl rfl rfl rfl (fun _ _ _ h => h) (by kernel_rfl) (by kernel_rfl) (by kernel_rfl) (fun wd7 hS7 => (r_move rfl)) hS7 fun ac175 hf191 => ?_
    refine any_val (i := 12) (v := .int .i64 (3 * w0)) hf191 rfl rfl rfl rfl rfl rfl (fun _ _ _ h => h) (by kernel_rfl) (by kernel_rfl) (by kernel_rfl) (fun wd7 hS7 => (r_mul (c := (3 * w0)) rfl rfl (wrap_i64 (by have := hd.v.b0; omega) (by have := hd.v.b0; omega)))) hS7 fun ac176 hf192 => ?_
    refine any_val (i := 13) (v := .int .i64 w1) hf192 rfl rfl rfl rfl rfl rfl (fun _ _ _ h => h) (by kernel_rfl) (by kernel_rfl) (by kernel_rfl) (fun wd7 hS7 => (r_move rfl)) hS7 fun ac177 hf193 => ?_
    refine any_val (i := 14) (v := .int .i64 (3 * (w0 * w1))) hf193 rfl rfl rfl rfl rfl rfl (fun _ _ _ h => h) (by kernel_rfl) (by kernel_rfl) (by kernel_rfl) (fun wd7 hS7 => (r_mul (c := (3 * (w0 * w1))) rfl rfl (w3_w hd.v.b0 hd.v.b1))) hS7 fun ac178 hf194 => ?_
    refine any_val (i := 15) (v := .int .i64 w0) hf194 rfl rfl rfl rfl rfl rfl (fun _ _ _ h => h) (by kernel_rfl) (by kernel_rfl) (by kernel_rfl) (fun wd7 hS7 => (r_move rfl)) hS7 fun ac179 hf195 => ?_
    refine any_val (i := 16) (v := .int .i64 w1) hf195 rfl rfl rfl rfl rfl rfl (fun _ _ _ h => h) (by kernel_rfl) (by kernel_rfl) (by kernel_rfl) (fun wd7 hS7 => (r_move rfl)) hS7 fun ac180 hf196 => ?_
    refine any_val (i := 17) (v := .int .i64 (w0 + w1)) hf196 rfl rfl rfl rfl rfl rfl (fun _ _ _ h => h) (by kernel_rfl) (by kernel_rfl) (by kernel_rfl) (fun wd7 hS7 => (r_add (c := (w0 + w1)) rfl rfl (wrap_i64 (by have := hd.v.b0; have := hd.v.b1; omega) (by have := hd.v.b0; have := hd.v.b1; omega)))) hS7 fun ac181 hf197 => ?_
    refine any_val (i := 18) (v := .int .i64 (65536 * (w0 + w1))) hf197 rfl rfl rfl rfl rfl rfl (fun _ _ _ h => h) (by kernel_rfl) (by kernel_rfl) (by kernel_rfl) (fun wd7 hS7 => (r_mul (c := (65536 * (w0 + w1))) rfl rfl (wrap_i64 (by have := hd.v.b0; have := hd.v.b1; omega) (by have := hd.v.b0; have := hd.v.b1; omega)))) hS7 fun ac182 hf198 => ?_
    refine any_val (i := 19) (v := .int .i64 ((3 * (w0 * w1)) + (65536 * (w0 + w1)))) hf198 rfl rfl rfl rfl rfl rfl (fun _ _ _ h => h) (by kernel_rfl) (by kernel_rfl) (by kernel_rfl) (fun wd7 hS7 => (r_add (c := ((3 * (w0 * w1)) + (65536 * (w0 + w1)))) rfl rfl (sm_w hd.v.b0 hd.v.b1))) hS7 fun ac183 hf199 => ?_
    refine any_val (i := 20) (v := .bool (decide (((p0 * w1) - (p1 * w0)) > ((3 * (w0 * w1)) + (65536 * (w0 + w1)))))) hf199 rfl rfl rfl rfl rfl rfl (fun _ _ _ h => h) (by kernel_rfl) (by kernel_rfl) (by kernel_rfl) (fun wd7 hS7 => (r_gtr rfl rfl)) hS7 fun ac184 hf200 => ?_
    refine any_end (by kernel_rfl) ?_
    clear hI22 ac163 hf179 ac164 hf180 ac165 hf181 ac166 hf182 ac167 hf183 ac168 hf184 ac169 hf185 ac170 hf186 ac171 hf187 ac172 hf188 ac173 hf189 ac174 hf190 ac175 hf191 ac176 hf192 ac177 hf193 ac178 hf194 ac179 hf195 ac180 hf196 ac181 hf197 ac182 hf198 ac183 hf199 hS7
    refine then_normal ?_
    have hf201 := hf200.know 146 (u := .bool false) rfl (congrArg Value.bool ((hx1.sh.c01 hd.v)))
    refine code_if_false hf201 rfl ?_
    refine wp_skip ?_
    refine block_normal ?_
    refine then_normal ?_
    refine seq_start (l := [0, 1]) rfl ?_
    refine seq_one (op_val (v := .int .i64 2) hf201 rfl rfl rfl rfl rfl rfl (r_add (c := 2) rfl rfl (by rfl)) fun ac185 hf202 => ?_)
    refine seq_one (op_val (v := .int .i64 2) hf202 rfl rfl rfl rfl rfl rfl (r_move rfl) fun ac186 hf203 => ?_)
    refine seq_end ?_
    clear hf200 ac184 hf201 ac185 hf202
    refine then_normal ?_
    refine rounds_go ?_
    refine code_seq ?_
    refine seq_start (l := [0]) rfl ?_
    refine seq_one (op_val (v := .bool true) hf203 rfl rfl rfl rfl rfl rfl (r_lssC rfl rfl (by decide)) fun ac187 hf204 => ?_)
    refine seq_end ?_
    clear ac186 hf203
    refine then_normal ?_
    refine code_seq ?_
    refine code_if_true hf204 rfl ?_
    refine wp_skip ?_
    refine then_normal ?_
    refine code_seq ?_
    refine wp_block ?_
    refine code_seq ?_
    refine seq_start (l := [0, 1, 2, 3]) rfl ?_
    refine seq_one (op_val (v := .int .i64 2) hf204 rfl rfl rfl rfl rfl rfl (r_move rfl) fun ac188 hf205 => ?_)
    refine seq_one (op_val (v := .int .i64 w2) hf205 rfl rfl rfl rfl rfl rfl (r_index (i := 2) ar_22 ag_3 rfl rfl rfl (by decide) rfl) fun ac189 hf206 => ?_)
    refine seq_one (op_val (v := .int .i64 2) hf206 rfl rfl rfl rfl rfl rfl (r_assign rfl) fun ac190 hf207 => ?_)
    refine seq_one (op_val (v := .int .i64 w2) hf207 rfl rfl rfl rfl rfl rfl (r_assign rfl) fun ac191 hf208 => ?_)
    refine seq_end ?_
    clear ac187 hf204 ac188 hf205 ac189 hf206 ac190 hf207
    refine then_normal ?_
    refine code_seq ?_
    refine any_start (fun w => Has [(b4, #[.int .i64 p0, .int .i64 p1, .int .i64 p2], 22)] w) follows (Has.drew (Has.cons (hI23.at 3 rfl) Has.nil)) ?_
    have hS8 : Has [(b4, #[.int .i64 p0, .int .i64 p1, .int .i64 p2], 22)] _ := Has.drew (Has.cons (hI23.at 3 rfl) Has.nil)
    have hI24 := hI23.drew
    refine any_val (i := 0) (v := .int .i64 0) hf208 rfl rfl rfl rfl rfl rfl (fun _ _ _ h => h) (by kernel_rfl) (by kernel_rfl) (by kernel_rfl) (fun wd7 hS8 => (r_move rfl)) hS8 fun ac192 hf209 => ?_
    refine any_val (i := 1) (v := .pointer (some ⟨b4, 0, none⟩)) hf209 rfl rfl rfl rfl rfl rfl (fun _ _ _ h => h) (by kernel_rfl) (by kernel_rfl) (by kernel_rfl) (fun wd7 hS8 => (r_indexAddr (i := 0) ar_22 rfl rfl rfl (by decide) rfl)) hS8 fun ac193 hf210 => ?_
    refine any_val (i := 2) (v := .int .i64 p0) hf210 rfl rfl rfl rfl rfl rfl (fun _ _ _ h => h) (by kernel_rfl) (by kernel_rfl) (by kernel_rfl) (fun wd7 hS8 => (r_load ag_3 rfl (hS8.at 0 rfl) rfl)) hS8 fun ac194 hf211 => ?_
    refine any_val (i := 3) (v := .int .i64 w2) hf211 rfl rfl rfl rfl rfl rfl (fun _ _ _ h => h) (by kernel_rfl) (by kernel_rfl) (by kernel_rfl) (fun wd7 hS8 => (r_move rfl)) hS8 fun ac195 hf212 => ?_
    refine any_val (i := 4) (v := .int .i64 (p0 * w2)) hf212 rfl rfl rfl rfl rfl rfl (fun _ _ _ h => h) (by kernel_rfl) (by kernel_rfl) (by kernel_rfl) (fun wd7 hS8 => (r_mul (c := (p0 * w2)) rfl rfl (mulb_w hp0 hd.v.b2))) hS8 fun ac196 hf213 => ?_
    refine any_val (i := 5) (v := .int .i64 2) hf213 rfl rfl rfl rfl rfl rfl (fun _ _ _ h => h) (by kernel_rfl) (by kernel_rfl) (by kernel_rfl) (fun wd7 hS8 => (r_move rfl)) hS8 fun ac197 hf214 => ?_
    refine any_val (i := 6) (v := .pointer (some ⟨b4, 2, none⟩)) hf214 rfl rfl rfl rfl rfl rfl (fun _ _ _ h => h) (by kernel_rfl) (by kernel_rfl) (by kernel_rfl) (fun wd7 hS8 => (r_indexAddr (i := 2) ar_22 rfl rfl rfl (by decide) rfl)) hS8 fun ac198 hf215 => ?_
    refine any_val (i := 7) (v := .int .i64 p2) hf215 rfl rfl rfl rfl rfl rfl (fun _ _ _ h => h) (by kernel_rfl) (by kernel_rfl) (by kernel_rfl) (fun wd7 hS8 => (r_load ag_3 rfl (hS8.at 0 rfl) rfl)) hS8 fun ac199 hf216 => ?_
    refine any_val (i := 8) (v := .int .i64 w0) hf216 rfl rfl rfl rfl rfl rfl (fun _ _ _ h => h) (by kernel_rfl) (by kernel_rfl) (by kernel_rfl) (fun wd7 hS8 => (r_move rfl)) hS8 fun ac200 hf217 => ?_
    refine any_val (i := 9) (v := .int .i64 (p2 * w0)) hf217 rfl rfl rfl rfl rfl rfl (fun _ _ _ h => h) (by kernel_rfl) (by kernel_rfl) (by kernel_rfl) (fun wd7 hS8 => (r_mul (c := (p2 * w0)) rfl rfl (mulb_w hp2 hd.v.b0))) hS8 fun ac201 hf218 => ?_
    refine any_val (i := 10) (v := .int .i64 ((p0 * w2) - (p2 * w0))) hf218 rfl rfl rfl rfl rfl rfl (fun _ _ _ h => h) (by kernel_rfl) (by kernel_rfl) (by kernel_rfl) (fun wd7 hS8 => (r_sub (c := ((p0 * w2) - (p2 * w0))) rfl rfl (df_w (mulb hp0 hd.v.b2) (mulb hp2 hd.v.b0)))) hS8 fun ac202 hf219 => ?_
    refine any_val (i := 11) (v := .int .i64 w0) hf219 rfl rfl rfl rfl rfl rfl (fun _ _ _ h => h) (by kernel_rfl) (by kernel_rfl) (by kernel_rfl) (fun wd7 hS8 => (r_move rfl)) hS8 fun ac203 hf220 => ?_
    refine any_val (i := 12) (v := .int .i64 (3 * w0)) hf220 rfl rfl rfl rfl rfl rfl (fun _ _ _ h => h) (by kernel_rfl) (by kernel_rfl) (by kernel_rfl) (fun wd7 hS8 => (r_mul (c := (3 * w0)) rfl rfl (wrap_i64 (by have := hd.v.b0; omega) (by have := hd.v.b0; omega)))) hS8 fun ac204 hf221 => ?_
    refine any_val (i := 13) (v := .int .i64 w2) hf221 rfl rfl rfl rfl rfl rfl (fun _ _ _ h => h) (by kernel_rfl) (by kernel_rfl) (by kernel_rfl) (fun wd7 hS8 => (r_move rfl)) hS8 fun ac205 hf222 => ?_
    refine any_val (i := 14) (v := .int .i64 (3 * (w0 * w2))) hf222 rfl rfl rfl rfl rfl rfl (fun _ _ _ h => h) (by kernel_rfl) (by kernel_rfl) (by kernel_rfl) (fun wd7 hS8 => (r_mul (c := (3 * (w0 * w2))) rfl rfl (w3_w hd.v.b0 hd.v.b2))) hS8 fun ac206 hf223 => ?_
    refine any_val (i := 15) (v := .int .i64 w0) hf223 rfl rfl rfl rfl rfl rfl (fun _ _ _ h => h) (by kernel_rfl) (by kernel_rfl) (by kernel_rfl) (fun wd7 hS8 => (r_move rfl)) hS8 fun ac207 hf224 => ?_
    refine any_val (i := 16) (v := .int .i64 w2) hf224 rfl rfl rfl rfl rfl rfl (fun _ _ _ h => h) (by kernel_rfl) (by kernel_rfl) (by kernel_rfl) (fun wd7 hS8 => (r_move rfl)) hS8 fun ac208 hf225 => ?_
    refine any_val (i := 17) (v := .int .i64 (w0 + w2)) hf225 rfl rfl rfl rfl rfl rfl (fun _ _ _ h => h) (by kernel_rfl) (by kernel_rfl) (by kernel_rfl) (fun wd7 hS8 => (r_add (c := (w0 + w2)) rfl rfl (wrap_i64 (by have := hd.v.b0; have := hd.v.b2; omega) (by have := hd.v.b0; have := hd.v.b2; omega)))) hS8 fun ac209 hf226 => ?_
    refine any_val (i := 18) (v := .int .i64 (65536 * (w0 + w2))) hf226 rfl rfl rfl rfl rfl rfl (fun _ _ _ h => h) (by kernel_rfl) (by kernel_rfl) (by kernel_rfl) (fun wd7 hS8 => (r_mul (c := (65536 * (w0 + w2))) rfl rfl (wrap_i64 (by have := hd.v.b0; have := hd.v.b2; omega) (by have := hd.v.b0; have := hd.v.b2; omega)))) hS8 fun ac210 hf227 => ?_
    refine any_val (i := 19) (v := .int .i64 ((3 * (w0 * w2)) + (65536 * (w0 + w2)))) hf227 rfl rfl rfl rfl rfl rfl (fun _ _ _ h => h) (by kernel_rfl) (by kernel_rfl) (by kernel_rfl) (fun wd7 hS8 => (r_add (c := ((3 * (w0 * w2)) + (65536 * (w0 + w2)))) rfl rfl (sm_w hd.v.b0 hd.v.b2))) hS8 fun ac211 hf228 => ?_
    refine any_val (i := 20) (v := .bool (decide (((p0 * w2) - (p2 * w0)) > ((3 * (w0 * w2)) + (65536 * (w0 + w2)))))) hf228 rfl rfl rfl rfl rfl rfl (fun _ _ _ h => h) (by kernel_rfl) (by kernel_rfl) (by kernel_rfl) (fun wd7 hS8 => (r_gtr rfl rfl)) hS8 fun ac212 hf229 => ?_
    refine any_end (by kernel_rfl) ?_
    clear hI23 ac191 hf208 ac192 hf209 ac193 hf210 ac194 hf211 ac195 hf212 ac196 hf213 ac197 hf214 ac198 hf215 ac199 hf216 ac200 hf217 ac201 hf218 ac202 hf219 ac203 hf220 ac204 hf221 ac205 hf222 ac206 hf223 ac207 hf224 ac208 hf225 ac209 hf226 ac210 hf227 ac211 hf228 hS8
    refine then_normal ?_
    have hf230 := hf229.know 146 (u := .bool false) rfl (congrArg Value.bool ((hx1.sh.c02 hd.v)))
    refine code_if_false hf230 rfl ?_
    refine wp_skip ?_
    refine block_normal ?_
    refine then_normal ?_
    refine seq_start (l := [0, 1]) rfl ?_
    refine seq_one (op_val (v := .int .i64 3) hf230 rfl rfl rfl rfl rfl rfl (r_add (c := 3) rfl rfl (by rfl)) fun ac213 hf231 => ?_)
    refine seq_one (op_val (v := .int .i64 3) hf231 rfl rfl rfl rfl rfl rfl (r_move rfl) fun ac214 hf232 => ?_)
    refine seq_end ?_
    clear hf229 ac212 hf230 ac213 hf231
    refine then_normal ?_
    refine rounds_go ?_
    refine code_seq ?_
    refine seq_start (l := [0]) rfl ?_
    refine seq_one (op_val (v := .bool false) hf232 rfl rfl rfl rfl rfl rfl (r_lssC rfl rfl (by decide)) fun ac215 hf233 => ?_)
    refine seq_end ?_
    clear ac214 hf232
    refine then_normal ?_
    refine code_seq ?_
    refine code_if_false hf233 rfl ?_
    refine wp_exit ?_
    refine then_exit ?_
    refine then_exit ?_
    refine block_here ?_
    refine block_normal ?_
    refine then_normal ?_
    refine seq_start (l := [0, 1]) rfl ?_
    refine seq_one (op_val (v := .int .i64 1) hf233 rfl rfl rfl rfl rfl rfl (r_add (c := 1) rfl rfl (by rfl)) fun ac216 hf234 => ?_)
    refine seq_one (op_val (v := .int .i64 1) hf234 rfl rfl rfl rfl rfl rfl (r_move rfl) fun ac217 hf235 => ?_)
    refine seq_end ?_
    clear ac215 hf233 ac216 hf234
    refine then_normal ?_
    refine rounds_go ?_
    refine code_seq ?_
    refine seq_start (l := [0]) rfl ?_
    refine seq_one (op_val (v := .bool true) hf235 rfl rfl rfl rfl rfl rfl (r_lssC rfl rfl (by decide)) fun ac218 hf236 => ?_)
    refine seq_end ?_
    clear ac217 hf235
    refine then_normal ?_
    refine code_seq ?_
    refine code_if_true hf236 rfl ?_
    refine wp_skip ?_
    refine then_normal ?_
    refine code_seq ?_
    refine wp_block ?_
    refine code_seq ?_
    refine seq_start (l := [0, 1, 2, 3]) rfl ?_
    refine seq_one (op_val (v := .int .i64 1) hf236 rfl rfl rfl rfl rfl rfl (r_move rfl) fun ac219 hf237 => ?_)
    refine seq_one (op_val (v := .int .i64 w1) hf237 rfl rfl rfl rfl rfl rfl (r_index (i := 1) ar_22 ag_3 rfl rfl rfl (by decide) rfl) fun ac220 hf238 => ?_)
    refine seq_one (op_val (v := .int .i64 1) hf238 rfl rfl rfl rfl rfl rfl (r_assign rfl) fun ac221 hf239 => ?_)
    refine seq_one (op_val (v := .int .i64 w1) hf239 rfl rfl rfl rfl rfl rfl (r_assign rfl) fun ac222 hf240 => ?_)
    refine seq_end ?_
    clear ac218 hf236 ac219 hf237 ac220 hf238 ac221 hf239
    refine then_normal ?_
    refine code_seq ?_
    refine seq_start (l := [0, 1]) rfl ?_
    refine seq_one (op_val (v := .agg #[.int .i64 w0, .int .i64 w1, .int .i64 w2]) hf240 rfl rfl rfl rfl rfl rfl (r_loadW ag_22 sz_22 rfl (hI24.at 2 rfl) rfl) fun ac223 hf241 => ?_)
    refine seq_one (op_val (v := .int .i64 0) hf241 rfl rfl rfl rfl rfl rfl (r_move rfl) fun ac224 hf242 => ?_)
    refine seq_end ?_
    clear ac222 hf240 ac223 hf241
    refine then_normal ?_
    refine wp_block ?_
    refine wp_loop_rounds 4 ?_
    refine rounds_go ?_
    refine code_seq ?_
    refine seq_start (l := [0]) rfl ?_
    refine seq_one (op_val (v := .bool true) hf242 rfl rfl rfl rfl rfl rfl (r_lssC rfl rfl (by decide)) fun ac225 hf243 => ?_)
    refine seq_end ?_
    clear ac224 hf242
    refine then_normal ?_
    refine code_seq ?_
    refine code_if_true hf243 rfl ?_
    refine wp_skip ?_
    refine then_normal ?_
    refine code_seq ?_
    refine wp_block ?_
    refine code_seq ?_
    refine seq_start (l := [0, 1, 2, 3]) rfl ?_
    refine seq_one (op_val (v := .int .i64 0) hf243 rfl rfl rfl rfl rfl rfl (r_move rfl) fun ac226 hf244 => ?_)
    refine seq_one (op_val (v := .int .i64 w0) hf244 rfl rfl rfl rfl rfl rfl (r_index (i := 0) ar_22 ag_3 rfl rfl rfl (by decide) rfl) fun ac227 hf245 => ?_)
    refine seq_one (op_val (v := .int .i64 0) hf245 rfl rfl rfl rfl rfl rfl (r_assign rfl) fun ac228 hf246 => ?_)
    refine seq_one (op_val (v := .int .i64 w0) hf246 rfl rfl rfl rfl rfl rfl (r_assign rfl) fun ac229 hf247 => ?_)
    refine seq_end ?_
    clear ac225 hf243 ac226 hf244 ac227 hf245 ac228 hf246
    refine then_normal ?_
    refine code_seq ?_
    refine any_start (fun w => Has [(b4, #[.int .i64 p0, .int .i64 p1, .int .i64 p2], 22)] w) follows (Has.drew (Has.cons (hI24.at 3 rfl) Has.nil)) ?_
    have hS9 : Has [(b4, #[.int .i64 p0, .int .i64 p1, .int .i64 p2], 22)] _ := Has.drew (Has.cons (hI24.at 3 rfl) Has.nil)
    have hI25 := hI24.drew
    refine any_val (i := 0) (v := .int .i64 1) hf247 rfl rfl rfl rfl rfl rfl (fun _ _ _ h => h) (by kernel_rfl) (by kernel_rfl) (by kernel_rfl) (fun wd7 hS9 => (r_move rfl)) hS9 fun ac230 hf248 => ?_
    refine any_val (i := 1) (v := .pointer (some ⟨b4, 1, none⟩)) hf248 rfl rfl rfl rfl rfl rfl (fun _ _ _ h => h) (by kernel_rfl) (by kernel_rfl) (by kernel_rfl) (fun wd7 hS9 => (r_indexAddr (i := 1) ar_22 rfl rfl rfl (by decide) rfl)) hS9 fun ac231 hf249 => ?_
    refine any_val (i := 2) (v := .int .i64 p1) hf249 rfl rfl rfl rfl rfl rfl (fun _ _ _ h => h) (by kernel_rfl) (by kernel_rfl) (by kernel_rfl) (fun wd7 hS9 => (r_load ag_3 rfl (hS9.at 0 rfl) rfl)) hS9 fun ac232 hf250 => ?_
    refine any_val (i := 3) (v := .int .i64 w0) hf250 rfl rfl rfl rfl rfl rfl (fun _ _ _ h => h) (by kernel_rfl) (by kernel_rfl) (by kernel_rfl) (fun wd7 hS9 => (r_move rfl)) hS9 fun ac233 hf251 => ?_
    refine any_val (i := 4) (v := .int .i64 (p1 * w0)) hf251 rfl rfl rfl rfl rfl rfl (fun _ _ _ h => h) (by kernel_rfl) (by kernel_rfl) (by kernel_rfl) (fun wd7 hS9 => (r_mul (c := (p1 * w0)) rfl rfl (mulb_w hp1 hd.v.b0))) hS9 fun ac234 hf252 => ?_
    refine any_val (i := 5) (v := .int .i64 0) hf252 rfl rfl rfl rfl rfl rfl (fun _ _ _ h => h) (by kernel_rfl) (by kernel_rfl) (by kernel_rfl) (fun wd7 hS9 => (r_move rfl)) hS9 fun ac235 hf253 => ?_
    refine any_val (i := 6) (v := .pointer (some ⟨b4, 0, none⟩)) hf253 rfl rfl rfl rfl rfl rfl (fun _ _ _ h => h) (by kernel_rfl) (by kernel_rfl) (by kernel_rfl) (fun wd7 hS9 => (r_indexAddr (i := 0) ar_22 rfl rfl rfl (by decide) rfl)) hS9 fun ac236 hf254 => ?_
    refine any_val (i := 7) (v := .int .i64 p0) hf254 rfl rfl rfl rfl rfl rfl (fun _ _ _ h => h) (by kernel_rfl) (by kernel_rfl) (by kernel_rfl) (fun wd7 hS9 => (r_load ag_3 rfl (hS9.at 0 rfl) rfl)) hS9 fun ac237 hf255 => ?_
    refine any_val (i := 8) (v := .int .i64 w1) hf255 rfl rfl rfl rfl rfl rfl (fun _ _ _ h => h) (by kernel_rfl) (by kernel_rfl) (by kernel_rfl) (fun wd7 hS9 => (r_move rfl)) hS9 fun ac238 hf256 => ?_
    refine any_val (i := 9) (v := .int .i64 (p0 * w1)) hf256 rfl rfl rfl rfl rfl rfl (fun _ _ _ h => h) (by kernel_rfl) (by kernel_rfl) (by kernel_rfl) (fun wd7 hS9 => (r_mul (c := (p0 * w1)) rfl rfl (mulb_w hp0 hd.v.b1))) hS9 fun ac239 hf257 => ?_
    refine any_val (i := 10) (v := .int .i64 ((p1 * w0) - (p0 * w1))) hf257 rfl rfl rfl rfl rfl rfl (fun _ _ _ h => h) (by kernel_rfl) (by kernel_rfl) (by kernel_rfl) (fun wd7 hS9 => (r_sub (c := ((p1 * w0) - (p0 * w1))) rfl rfl (df_w (mulb hp1 hd.v.b0) (mulb hp0 hd.v.b1)))) hS9 fun ac240 hf258 => ?_
    refine any_val (i := 11) (v := .int .i64 w1) hf258 rfl rfl rfl rfl rfl rfl (fun _ _ _ h => h) (by kernel_rfl) (by kernel_rfl) (by kernel_rfl) (fun wd7 hS9 => (r_move rfl)) hS9 fun ac241 hf259 => ?_
    refine any_val (i := 12) (v := .int .i64 (3 * w1)) hf259 rfl rfl rfl rfl rfl rfl (fun _ _ _ h => h) (by kernel_rfl) (by kernel_rfl) (by kernel_rfl) (fun wd7 hS9 => (r_mul (c := (3 * w1)) rfl rfl (wrap_i64 (by have := hd.v.b1; omega) (by have := hd.v.b1; omega)))) hS9 fun ac242 hf260 => ?_
    refine any_val (i := 13) (v := .int .i64 w0) hf260 rfl rfl rfl rfl rfl rfl (fun _ _ _ h => h) (by kernel_rfl) (by kernel_rfl) (by kernel_rfl) (fun wd7 hS9 => (r_move rfl)) hS9 fun ac243 hf261 => ?_
    refine any_val (i := 14) (v := .int .i64 (3 * (w1 * w0))) hf261 rfl rfl rfl rfl rfl rfl (fun _ _ _ h => h) (by kernel_rfl) (by kernel_rfl) (by kernel_rfl) (fun wd7 hS9 => (r_mul (c := (3 * (w1 * w0))) rfl rfl (w3_w hd.v.b1 hd.v.b0))) hS9 fun ac244 hf262 => ?_
    refine any_val (i := 15) (v := .int .i64 w1) hf262 rfl rfl rfl rfl rfl rfl (fun _ _ _ h => h) (by kernel_rfl) (by kernel_rfl) (by kernel_rfl) (fun wd7 hS9 => (r_move rfl)) hS9 fun ac245 hf263 => ?_
    refine any_val (i := 16) (v := .int .i64 w0) hf263 rfl rfl rfl rfl rfl rfl (fun _ _ _ h => h) (by kernel_rfl) (by kernel_rfl) (by kernel_rfl) (fun wd7 hS9 => (r_move rfl)) hS9 fun ac246 hf264 => ?_
    refine any_val (i := 17) (v := .int .i64 (w1 + w0)) hf264 rfl rfl rfl rfl rfl rfl (fun _ _ _ h => h) (by kernel_rfl) (by kernel_rfl) (by kernel_rfl) (fun wd7 hS9 => (r_add (c := (w1 + w0)) rfl rfl (wrap_i64 (by have := hd.v.b1; have := hd.v.b0; omega) (by have := hd.v.b1; have := hd.v.b0; omega)))) hS9 fun ac247 hf265 => ?_
    refine any_val (i := 18) (v := .int .i64 (65536 * (w1 + w0))) hf265 rfl rfl rfl rfl rfl rfl (fun _ _ _ h => h) (by kernel_rfl) (by kernel_rfl) (by kernel_rfl) (fun wd7 hS9 => (r_mul (c := (65536 * (w1 + w0))) rfl rfl (wrap_i64 (by have := hd.v.b1; have := hd.v.b0; omega) (by have := hd.v.b1; have := hd.v.b0; omega)))) hS9 fun ac248 hf266 => ?_
    refine any_val (i := 19) (v := .int .i64 ((3 * (w1 * w0)) + (65536 * (w1 + w0)))) hf266 rfl rfl rfl rfl rfl rfl (fun _ _ _ h => h) (by kernel_rfl) (by kernel_rfl) (by kernel_rfl) (fun wd7 hS9 => (r_add (c := ((3 * (w1 * w0)) + (65536 * (w1 + w0)))) rfl rfl (sm_w hd.v.b1 hd.v.b0))) hS9 fun ac249 hf267 => ?_
    refine any_val (i := 20) (v := .bool (decide (((p1 * w0) - (p0 * w1)) > ((3 * (w1 * w0)) + (65536 * (w1 + w0)))))) hf267 rfl rfl rfl rfl rfl rfl (fun _ _ _ h => h) (by kernel_rfl) (by kernel_rfl) (by kernel_rfl) (fun wd7 hS9 => (r_gtr rfl rfl)) hS9 fun ac250 hf268 => ?_
    refine any_end (by kernel_rfl) ?_
    clear hI24 ac229 hf247 ac230 hf248 ac231 hf249 ac232 hf250 ac233 hf251 ac234 hf252 ac235 hf253 ac236 hf254 ac237 hf255 ac238 hf256 ac239 hf257 ac240 hf258 ac241 hf259 ac242 hf260 ac243 hf261 ac244 hf262 ac245 hf263 ac246 hf264 ac247 hf265 ac248 hf266 ac249 hf267 hS9
    refine then_normal ?_
    have hf269 := hf268.know 146 (u := .bool false) rfl (congrArg Value.bool ((hx1.sh.c10 hd.v)))
    refine code_if_false hf269 rfl ?_
    refine wp_skip ?_
    refine block_normal ?_
    refine then_normal ?_
    refine seq_start (l := [0, 1]) rfl ?_
    refine seq_one (op_val (v := .int .i64 1) hf269 rfl rfl rfl rfl rfl rfl (r_add (c := 1) rfl rfl (by rfl)) fun ac251 hf270 => ?_)
    refine seq_one (op_val (v := .int .i64 1) hf270 rfl rfl rfl rfl rfl rfl (r_move rfl) fun ac252 hf271 => ?_)
    refine seq_end ?_
    clear hf268 ac250 hf269 ac251 hf270
    refine then_normal ?_
    refine rounds_go ?_
    refine code_seq ?_
    refine seq_start (l := [0]) rfl ?_
    refine seq_one (op_val (v := .bool true) hf271 rfl rfl rfl rfl rfl rfl (r_lssC rfl rfl (by decide)) fun ac253 hf272 => ?_)
    refine seq_end ?_
    clear ac252 hf271
    refine then_normal ?_
    refine code_seq ?_
    refine code_if_true hf272 rfl ?_
    refine wp_skip ?_
    refine then_normal ?_
    refine code_seq ?_
    refine wp_block ?_
    refine code_seq ?_
    refine seq_start (l := [0, 1, 2, 3]) rfl ?_
    refine seq_one (op_val (v := .int .i64 1) hf272 rfl rfl rfl rfl rfl rfl (r_move rfl) fun ac254 hf273 => ?_)
    refine seq_one (op_val (v := .int .i64 w1) hf273 rfl rfl rfl rfl rfl rfl (r_index (i := 1) ar_22 ag_3 rfl rfl rfl (by decide) rfl) fun ac255 hf274 => ?_)
    refine seq_one (op_val (v := .int .i64 1) hf274 rfl rfl rfl rfl rfl rfl (r_assign rfl) fun ac256 hf275 => ?_)
    refine seq_one (op_val (v := .int .i64 w1) hf275 rfl rfl rfl rfl rfl rfl (r_assign rfl) fun ac257 hf276 => ?_)
    refine seq_end ?_
    clear ac253 hf272 ac254 hf273 ac255 hf274 ac256 hf275
    refine then_normal ?_
    refine code_seq ?_
    refine any_start (fun w => Has [(b4, #[.int .i64 p0, .int .i64 p1, .int .i64 p2], 22)] w) follows (Has.drew (Has.cons (hI25.at 3 rfl) Has.nil)) ?_
    have hS10 : Has [(b4, #[.int .i64 p0, .int .i64 p1, .int .i64 p2], 22)] _ := Has.drew (Has.cons (hI25.at 3 rfl) Has.nil)
    have hI26 := hI25.drew
    refine any_val (i := 0) (v := .int .i64 1) hf276 rfl rfl rfl rfl rfl rfl (fun _ _ _ h => h) (by kernel_rfl) (by kernel_rfl) (by kernel_rfl) (fun wd7 hS10 => (r_move rfl)) hS10 fun ac258 hf277 => ?_
    refine any_val (i := 1) (v := .pointer (some ⟨b4, 1, none⟩)) hf277 rfl rfl rfl rfl rfl rfl (fun _ _ _ h => h) (by kernel_rfl) (by kernel_rfl) (by kernel_rfl) (fun wd7 hS10 => (r_indexAddr (i := 1) ar_22 rfl rfl rfl (by decide) rfl)) hS10 fun ac259 hf278 => ?_
    refine any_val (i := 2) (v := .int .i64 p1) hf278 rfl rfl rfl rfl rfl rfl (fun _ _ _ h => h) (by kernel_rfl) (by kernel_rfl) (by kernel_rfl) (fun wd7 hS10 => (r_load ag_3 rfl (hS10.at 0 rfl) rfl)) hS10 fun ac260 hf279 => ?_
    refine any_val (i := 3) (v := .int .i64 w1) hf279 rfl rfl rfl rfl rfl rfl (fun _ _ _ h => h) (by kernel_rfl) (by kernel_rfl) (by kernel_rfl) (fun wd7 hS10 => (r_move rfl)) hS10 fun ac261 hf280 => ?_
    refine any_val (i := 4) (v := .int .i64 (p1 * w1)) hf280 rfl rfl rfl rfl rfl rfl (fun _ _ _ h => h) (by kernel_rfl) (by kernel_rfl) (by kernel_rfl) (fun wd7 hS10 => (r_mul (c := (p1 * w1)) rfl rfl (mulb_w hp1 hd.v.b1))) hS10 fun ac262 hf281 => ?_
    refine any_val (i := 5) (v := .int .i64 1) hf281 rfl rfl rfl rfl rfl rfl (fun _ _ _ h => h) (by kernel_rfl) (by kernel_rfl) (by kernel_rfl) (fun wd7 hS10 => (r_move rfl)) hS10 fun ac263 hf282 => ?_
    refine any_val (i := 6) (v := .pointer (some ⟨b4, 1, none⟩)) hf282 rfl rfl rfl rfl rfl rfl (fun _ _ _ h => h) (by kernel_rfl) (by kernel_rfl) (by kernel_rfl) (fun wd7 hS10 => (r_indexAddr (i := 1) ar_22 rfl rfl rfl (by decide) rfl)) hS10 fun ac264 hf283 => ?_
    refine any_val (i := 7) (v := .int .i64 p1) hf283 rfl rfl rfl rfl rfl rfl (fun _ _ _ h => h) (by kernel_rfl) (by kernel_rfl) (by kernel_rfl) (fun wd7 hS10 => (r_load ag_3 rfl (hS10.at 0 rfl) rfl)) hS10 fun ac265 hf284 => ?_
    refine any_val (i := 8) (v := .int .i64 w1) hf284 rfl rfl rfl rfl rfl rfl (fun _ _ _ h => h) (by kernel_rfl) (by kernel_rfl) (by kernel_rfl) (fun wd7 hS10 => (r_move rfl)) hS10 fun ac266 hf285 => ?_
    refine any_val (i := 9) (v := .int .i64 (p1 * w1)) hf285 rfl rfl rfl rfl rfl rfl (fun _ _ _ h => h) (by kernel_rfl) (by kernel_rfl) (by kernel_rfl) (fun wd7 hS10 => (r_mul (c := (p1 * w1)) rfl rfl (mulb_w hp1 hd.v.b1))) hS10 fun ac267 hf286 => ?_
    refine any_val (i := 10) (v := .int .i64 ((p1 * w1) - (p1 * w1))) hf286 rfl rfl rfl rfl rfl rfl (fun _ _ _ h => h) (by kernel_rfl) (by kernel_rfl) (by kernel_rfl) (fun wd7 hS10 => (r_sub (c := ((p1 * w1) - (p1 * w1))) rfl rfl (df_w (mulb hp1 hd.v.b1) (mulb hp1 hd.v.b1)))) hS10 fun ac268 hf287 => ?_
    refine any_val (i := 11) (v := .int .i64 w1) hf287 rfl rfl rfl rfl rfl rfl (fun _ _ _ h => h) (by kernel_rfl) (by kernel_rfl) (by kernel_rfl) (fun wd7 hS10 => (r_move rfl)) hS10 fun ac269 hf288 => ?_
    refine any_val (i := 12) (v := .int .i64 (3 * w1)) hf288 rfl rfl rfl rfl rfl rfl (fun _ _ _ h => h) (by kernel_rfl) (by kernel_rfl) (by kernel_rfl) (fun wd7 hS10 => (r_mul (c := (3 * w1)) rfl rfl (wrap_i64 (by have := hd.v.b1; omega) (by have := hd.v.b1; omega)))) hS10 fun ac270 hf289 => ?_
    refine any_val (i := 13) (v := .int .i64 w1) hf289 rfl rfl rfl rfl rfl rfl (fun _ _ _ h => h) (by kernel_rfl) (by kernel_rfl) (by kernel_rfl) (fun wd7 hS10 => (r_move rfl)) hS10 fun ac271 hf290 => ?_
    refine any_val (i := 14) (v := .int .i64 (3 * (w1 * w1))) hf290 rfl rfl rfl rfl rfl rfl (fun _ _ _ h => h) (by kernel_rfl) (by kernel_rfl) (by kernel_rfl) (fun wd7 hS10 => (r_mul (c := (3 * (w1 * w1))) rfl rfl (w3_w hd.v.b1 hd.v.b1))) hS10 fun ac272 hf291 => ?_
    refine any_val (i := 15) (v := .int .i64 w1) hf291 rfl rfl rfl rfl rfl rfl (fun _ _ _ h => h) (by kernel_rfl) (by kernel_rfl) (by kernel_rfl) (fun wd7 hS10 => (r_move rfl)) hS10 fun ac273 hf292 => ?_
    refine any_val (i := 16) (v := .int .i64 w1) hf292 rfl rfl rfl rfl rfl rfl (fun _ _ _ h => h) (by kernel_rfl) (by kernel_rfl) (by kernel_rfl) (fun wd7 hS10 => (r_move rfl)) hS10 fun ac274 hf293 => ?_
    refine any_val (i := 17) (v := .int .i64 (w1 + w1)) hf293 rfl rfl rfl rfl rfl rfl (fun _ _ _ h => h) (by kernel_rfl) (by kernel_rfl) (by kernel_rfl) (fun wd7 hS10 => (r_add (c := (w1 + w1)) rfl rfl (wrap_i64 (by have := hd.v.b1; have := hd.v.b1; omega) (by have := hd.v.b1; have := hd.v.b1; omega)))) hS10 fun ac275 hf294 => ?_
    refine any_val (i := 18) (v := .int .i64 (65536 * (w1 + w1))) hf294 rfl rfl rfl rfl rfl rfl (fun _ _ _ h => h) (by kernel_rfl) (by kernel_rfl) (by kernel_rfl) (fun wd7 hS10 => (r_mul (c := (65536 * (w1 + w1))) rfl rfl (wrap_i64 (by have := hd.v.b1; have := hd.v.b1; omega) (by have := hd.v.b1; have := hd.v.b1; omega)))) hS10 fun ac276 hf295 => ?_
    refine any_val (i := 19) (v := .int .i64 ((3 * (w1 * w1)) + (65536 * (w1 + w1)))) hf295 rfl rfl rfl rfl rfl rfl (fun _ _ _ h => h) (by kernel_rfl) (by kernel_rfl) (by kernel_rfl) (fun wd7 hS10 => (r_add (c := ((3 * (w1 * w1)) + (65536 * (w1 + w1)))) rfl rfl (sm_w hd.v.b1 hd.v.b1))) hS10 fun ac277 hf296 => ?_
    refine any_val (i := 20) (v := .bool (decide (((p1 * w1) - (p1 * w1)) > ((3 * (w1 * w1)) + (65536 * (w1 + w1)))))) hf296 rfl rfl rfl rfl rfl rfl (fun _ _ _ h => h) (by kernel_rfl) (by kernel_rfl) (by kernel_rfl) (fun wd7 hS10 => (r_gtr rfl rfl)) hS10 fun ac278 hf297 => ?_
    refine any_end (by kernel_rfl) ?_
    clear hI25 ac257 hf276 ac258 hf277 ac259 hf278 ac260 hf279 ac261 hf280 ac262 hf281 ac263 hf282 ac264 hf283 ac265 hf284 ac266 hf285 ac267 hf286 ac268 hf287 ac269 hf288 ac270 hf289 ac271 hf290 ac272 hf291 ac273 hf292 ac274 hf293 ac275 hf294 ac276 hf295 ac277 hf296 hS10
    refine then_normal ?_
    have hf298 := hf297.know 146 (u := .bool false) rfl (congrArg Value.bool ((sh_same hd.v.b1)))
    refine code_if_false hf298 rfl ?_
    refine wp_skip ?_
    refine block_normal ?_
    refine then_normal ?_
    refine seq_start (l := [0, 1]) rfl ?_
    refine seq_one (op_val (v := .int .i64 2) hf298 rfl rfl rfl rfl rfl rfl (r_add (c := 2) rfl rfl (by rfl)) fun ac279 hf299 => ?_)
    refine seq_one (op_val (v := .int .i64 2) hf299 rfl rfl rfl rfl rfl rfl (r_move rfl) fun ac280 hf300 => ?_)
    refine seq_end ?_
    clear hf297 ac278 hf298 ac279 hf299
    refine then_normal ?_
    refine rounds_go ?_
    refine code_seq ?_
    refine seq_start (l := [0]) rfl ?_
    refine seq_one (op_val (v := .bool true) hf300 rfl rfl rfl rfl rfl rfl (r_lssC rfl rfl (by decide)) fun ac281 hf301 => ?_)
    refine seq_end ?_
    clear ac280 hf300
    refine then_normal ?_
    refine code_seq ?_
    refine code_if_true hf301 rfl ?_
    refine wp_skip ?_
    refine then_normal ?_
    refine code_seq ?_
    refine wp_block ?_
    refine code_seq ?_
    refine seq_start (l := [0, 1, 2, 3]) rfl ?_
    refine seq_one (op_val (v := .int .i64 2) hf301 rfl rfl rfl rfl rfl rfl (r_move rfl) fun ac282 hf302 => ?_)
    refine seq_one (op_val (v := .int .i64 w2) hf302 rfl rfl rfl rfl rfl rfl (r_index (i := 2) ar_22 ag_3 rfl rfl rfl (by decide) rfl) fun ac283 hf303 => ?_)
    refine seq_one (op_val (v := .int .i64 2) hf303 rfl rfl rfl rfl rfl rfl (r_assign rfl) fun ac284 hf304 => ?_)
    refine seq_one (op_val (v := .int .i64 w2) hf304 rfl rfl rfl rfl rfl rfl (r_assign rfl) fun ac285 hf305 => ?_)
    refine seq_end ?_
    clear ac281 hf301 ac282 hf302 ac283 hf303 ac284 hf304
    refine then_normal ?_
    refine code_seq ?_
    refine any_start (fun w => Has [(b4, #[.int .i64 p0, .int .i64 p1, .int .i64 p2], 22)] w) follows (Has.drew (Has.cons (hI26.at 3 rfl) Has.nil)) ?_
    have hS11 : Has [(b4, #[.int .i64 p0, .int .i64 p1, .int .i64 p2], 22)] _ := Has.drew (Has.cons (hI26.at 3 rfl) Has.nil)
    have hI27 := hI26.drew
    refine any_val (i := 0) (v := .int .i64 1) hf305 rfl rfl rfl rfl rfl rfl (fun _ _ _ h => h) (by kernel_rfl) (by kernel_rfl) (by kernel_rfl) (fun wd7 hS11 => (r_move rfl)) hS11 fun ac286 hf306 => ?_
    refine any_val (i := 1) (v := .pointer (some ⟨b4, 1, none⟩)) hf306 rfl rfl rfl rfl rfl rfl (fun _ _ _ h => h) (by kernel_rfl) (by kernel_rfl) (by kernel_rfl) (fun wd7 hS11 => (r_indexAddr (i := 1) ar_22 rfl rfl rfl (by decide) rfl)) hS11 fun ac287 hf307 => ?_
    refine any_val (i := 2) (v := .int .i64 p1) hf307 rfl rfl rfl rfl rfl rfl (fun _ _ _ h => h) (by kernel_rfl) (by kernel_rfl) (by kernel_rfl) (fun wd7 hS11 => (r_load ag_3 rfl (hS11.at 0 rfl) rfl)) hS11 fun ac288 hf308 => ?_
    refine any_val (i := 3) (v := .int .i64 w2) hf308 rfl rfl rfl rfl rfl rfl (fun _ _ _ h => h) (by kernel_rfl) (by kernel_rfl) (by kernel_rfl) (fun wd7 hS11 => (r_move rfl)) hS11 fun ac289 hf309 => ?_
    refine any_val (i := 4) (v := .int .i64 (p1 * w2)) hf309 rfl rfl rfl rfl rfl rfl (fun _ _ _ h => h) (by kernel_rfl) (by kernel_rfl) (by kernel_rfl) (fun wd7 hS11 => (r_mul (c := (p1 * w2)) rfl rfl (mulb_w hp1 hd.v.b2))) hS11 fun ac290 hf310 => ?_
    refine any_val (i := 5) (v := .int .i64 2) hf310 rfl rfl rfl rfl rfl rfl (fun _ _ _ h => h) (by kernel_rfl) (by kernel_rfl) (by kernel_rfl) (fun wd7 hS11 => (r_move rfl)) hS11 fun ac291 hf311 => ?_
    refine any_val (i := 6) (v := .pointer (some ⟨b4, 2, none⟩)) hf311 rfl rfl rfl rfl rfl rfl (fun _ _ _ h => h) (by kernel_rfl) (by kernel_rfl) (by kernel_rfl) (fun wd7 hS11 => (r_indexAddr (i := 2) ar_22 rfl rfl rfl (by decide) rfl)) hS11 fun ac292 hf312 => ?_
    refine any_val (i := 7) (v := .int .i64 p2) hf312 rfl rfl rfl rfl rfl rfl (fun _ _ _ h => h) (by kernel_rfl) (by kernel_rfl) (by kernel_rfl) (fun wd7 hS11 => (r_load ag_3 rfl (hS11.at 0 rfl) rfl)) hS11 fun ac293 hf313 => ?_
    refine any_val (i := 8) (v := .int .i64 w1) hf313 rfl rfl rfl rfl rfl rfl (fun _ _ _ h => h) (by kernel_rfl) (by kernel_rfl) (by kernel_rfl) (fun wd7 hS11 => (r_move rfl)) hS11 fun ac294 hf314 => ?_
    refine any_val (i := 9) (v := .int .i64 (p2 * w1)) hf314 rfl rfl rfl rfl rfl rfl (fun _ _ _ h => h) (by kernel_rfl) (by kernel_rfl) (by kernel_rfl) (fun wd7 hS11 => (r_mul (c := (p2 * w1)) rfl rfl (mulb_w hp2 hd.v.b1))) hS11 fun ac295 hf315 => ?_
    refine any_val (i := 10) (v := .int .i64 ((p1 * w2) - (p2 * w1))) hf315 rfl rfl rfl rfl rfl rfl (fun _ _ _ h => h) (by kernel_rfl) (by kernel_rfl) (by kernel_rfl) (fun wd7 hS11 => (r_sub (c := ((p1 * w2) - (p2 * w1))) rfl rfl (df_w (mulb hp1 hd.v.b2) (mulb hp2 hd.v.b1)))) hS11 fun ac296 hf316 => ?_
    refine any_val (i := 11) (v := .int .i64 w1) hf316 rfl rfl rfl rfl rfl rfl (fun _ _ _ h => h) (by kernel_rfl) (by kernel_rfl) (by kernel_rfl) (fun wd7 hS11 => (r_move rfl)) hS11 fun ac297 hf317 => ?_
    refine any_val (i := 12) (v := .int .i64 (3 * w1)) hf317 rfl rfl rfl rfl rfl rfl (fun _ _ _ h => h) (by kernel_rfl) (by kernel_rfl) (by kernel_rfl) (fun wd7 hS11 => (r_mul (c := (3 * w1)) rfl rfl (wrap_i64 (by have := hd.v.b1; omega) (by have := hd.v.b1; omega)))) hS11 fun ac298 hf318 => ?_
    refine any_val (i := 13) (v := .int .i64 w2) hf318 rfl rfl rfl rfl rfl rfl (fun _ _ _ h => h) (by kernel_rfl) (by kernel_rfl) (by kernel_rfl) (fun wd7 hS11 => (r_move rfl)) hS11 fun ac299 hf319 => ?_
    refine any_val (i := 14) (v := .int .i64 (3 * (w1 * w2))) hf319 rfl rfl rfl rfl rfl rfl (fun _ _ _ h => h) (by kernel_rfl) (by kernel_rfl) (by kernel_rfl) (fun wd7 hS11 => (r_mul (c := (3 * (w1 * w2))) rfl rfl (w3_w hd.v.b1 hd.v.b2))) hS11 fun ac300 hf320 => ?_
    refine any_val (i := 15) (v := .int .i64 w1) hf320 rfl rfl rfl rfl rfl rfl (fun _ _ _ h => h) (by kernel_rfl) (by kernel_rfl) (by kernel_rfl) (fun wd7 hS11 => (r_move rfl)) hS11 fun ac301 hf321 => ?_
    refine any_val (i := 16) (v := .int .i64 w2) hf321 rfl rfl rfl rfl rfl rfl (fun _ _ _ h => h) (by kernel_rfl) (by kernel_rfl) (by kernel_rfl) (fun wd7 hS11 => (r_move rfl)) hS11 fun ac302 hf322 => ?_
    refine any_val (i := 17) (v := .int .i64 (w1 + w2)) hf322 rfl rfl rfl rfl rfl rfl (fun _ _ _ h => h) (by kernel_rfl) (by kernel_rfl) (by kernel_rfl) (fun wd7 hS11 => (r_add (c := (w1 + w2)) rfl rfl (wrap_i64 (by have := hd.v.b1; have := hd.v.b2; omega) (by have := hd.v.b1; have := hd.v.b2; omega)))) hS11 fun ac303 hf323 => ?_
    refine any_val (i := 18) (v := .int .i64 (65536 * (w1 + w2))) hf323 rfl rfl rfl rfl rfl rfl (fun _ _ _ h => h) (by kernel_rfl) (by kernel_rfl) (by kernel_rfl) (fun wd7 hS11 => (r_mul (c := (65536 * (w1 + w2))) rfl rfl (wrap_i64 (by have := hd.v.b1; have := hd.v.b2; omega) (by have := hd.v.b1; have := hd.v.b2; omega)))) hS11 fun ac304 hf324 => ?_
    refine any_val (i := 19) (v := .int .i64 ((3 * (w1 * w2)) + (65536 * (w1 + w2)))) hf324 rfl rfl rfl rfl rfl rfl (fun _ _ _ h => h) (by kernel_rfl) (by kernel_rfl) (by kernel_rfl) (fun wd7 hS11 => (r_add (c := ((3 * (w1 * w2)) + (65536 * (w1 + w2)))) rfl rfl (sm_w hd.v.b1 hd.v.b2))) hS11 fun ac305 hf325 => ?_
    refine any_val (i := 20) (v := .bool (decide (((p1 * w2) - (p2 * w1)) > ((3 * (w1 * w2)) + (65536 * (w1 + w2)))))) hf325 rfl rfl rfl rfl rfl rfl (fun _ _ _ h => h) (by kernel_rfl) (by kernel_rfl) (by kernel_rfl) (fun wd7 hS11 => (r_gtr rfl rfl)) hS11 fun ac306 hf326 => ?_
    refine any_end (by kernel_rfl) ?_
    clear hI26 ac285 hf305 ac286 hf306 ac287 hf307 ac288 hf308 ac289 hf309 ac290 hf310 ac291 hf311 ac292 hf312 ac293 hf313 ac294 hf314 ac295 hf315 ac296 hf316 ac297 hf317 ac298 hf318 ac299 hf319 ac300 hf320 ac301 hf321 ac302 hf322 ac303 hf323 ac304 hf324 ac305 hf325 hS11
    refine then_normal ?_
    have hf327 := hf326.know 146 (u := .bool false) rfl (congrArg Value.bool ((hx1.sh.c12 hd.v)))
    refine code_if_false hf327 rfl ?_
    refine wp_skip ?_
    refine block_normal ?_
    refine then_normal ?_
    refine seq_start (l := [0, 1]) rfl ?_
    refine seq_one (op_val (v := .int .i64 3) hf327 rfl rfl rfl rfl rfl rfl (r_add (c := 3) rfl rfl (by rfl)) fun ac307 hf328 => ?_)
    refine seq_one (op_val (v := .int .i64 3) hf328 rfl rfl rfl rfl rfl rfl (r_move rfl) fun ac308 hf329 => ?_)
    refine seq_end ?_
    clear hf326 ac306 hf327 ac307 hf328
    refine then_normal ?_
    refine rounds_go ?_
    refine code_seq ?_
    refine seq_start (l := [0]) rfl ?_
    refine seq_one (op_val (v := .bool false) hf329 rfl rfl rfl rfl rfl rfl (r_lssC rfl rfl (by decide)) fun ac309 hf330 => ?_)
    refine seq_end ?_
    clear ac308 hf329
    refine then_normal ?_
    refine code_seq ?_
    refine code_if_false hf330 rfl ?_
    refine wp_exit ?_
    refine then_exit ?_
    refine then_exit ?_
    refine block_here ?_
    refine block_normal ?_
    refine then_normal ?_
    refine seq_start (l := [0, 1]) rfl ?_
    refine seq_one (op_val (v := .int .i64 2) hf330 rfl rfl rfl rfl rfl rfl (r_add (c := 2) rfl rfl (by rfl)) fun ac310 hf331 => ?_)
    refine seq_one (op_val (v := .int .i64 2) hf331 rfl rfl rfl rfl rfl rfl (r_move rfl) fun ac311 hf332 => ?_)
    refine seq_end ?_
    clear ac309 hf330 ac310 hf331
    refine then_normal ?_
    refine rounds_go ?_
    refine code_seq ?_
    refine seq_start (l := [0]) rfl ?_
    refine seq_one (op_val (v := .bool true) hf332 rfl rfl rfl rfl rfl rfl (r_lssC rfl rfl (by decide)) fun ac312 hf333 => ?_)
    refine seq_end ?_
    clear ac311 hf332
    refine then_normal ?_
    refine code_seq ?_
    refine code_if_true hf333 rfl ?_
    refine wp_skip ?_
    refine then_normal ?_
    refine code_seq ?_
    refine wp_block ?_
    refine code_seq ?_
    refine seq_start (l := [0, 1, 2, 3]) rfl ?_
    refine seq_one (op_val (v := .int .i64 2) hf333 rfl rfl rfl rfl rfl rfl (r_move rfl) fun ac313 hf334 => ?_)
    refine seq_one (op_val (v := .int .i64 w2) hf334 rfl rfl rfl rfl rfl rfl (r_index (i := 2) ar_22 ag_3 rfl rfl rfl (by decide) rfl) fun ac314 hf335 => ?_)
    refine seq_one (op_val (v := .int .i64 2) hf335 rfl rfl rfl rfl rfl rfl (r_assign rfl) fun ac315 hf336 => ?_)
    refine seq_one (op_val (v := .int .i64 w2) hf336 rfl rfl rfl rfl rfl rfl (r_assign rfl) fun ac316 hf337 => ?_)
    refine seq_end ?_
    clear ac312 hf333 ac313 hf334 ac314 hf335 ac315 hf336
    refine then_normal ?_
    refine code_seq ?_
    refine seq_start (l := [0, 1]) rfl ?_
    refine seq_one (op_val (v := .agg #[.int .i64 w0, .int .i64 w1, .int .i64 w2]) hf337 rfl rfl rfl rfl rfl rfl (r_loadW ag_22 sz_22 rfl (hI27.at 2 rfl) rfl) fun ac317 hf338 => ?_)
    refine seq_one (op_val (v := .int .i64 0) hf338 rfl rfl rfl rfl rfl rfl (r_move rfl) fun ac318 hf339 => ?_)
    refine seq_end ?_
    clear ac316 hf337 ac317 hf338
    refine then_normal ?_
    refine wp_block ?_
    refine wp_loop_rounds 4 ?_
    refine rounds_go ?_
    refine code_seq ?_
    refine seq_start (l := [0]) rfl ?_
    refine seq_one (op_val (v := .bool true) hf339 rfl rfl rfl rfl rfl rfl (r_lssC rfl rfl (by decide)) fun ac319 hf340 => ?_)
    refine seq_end ?_
    clear ac318 hf339
    refine then_normal ?_
    refine code_seq ?_
    refine code_if_true hf340 rfl ?_
    refine wp_skip ?_
    refine then_normal ?_
    refine code_seq ?_
    refine wp_block ?_
    refine code_seq ?_
    refine seq_start (l := [0, 1, 2, 3]) rfl ?_
    refine seq_one (op_val (v := .int .i64 0) hf340 rfl rfl rfl rfl rfl rfl (r_move rfl) fun ac320 hf341 => ?_)
    refine seq_one (op_val (v := .int .i64 w0) hf341 rfl rfl rfl rfl rfl rfl (r_index (i := 0) ar_22 ag_3 rfl rfl rfl (by decide) rfl) fun ac321 hf342 => ?_)
    refine seq_one (op_val (v := .int .i64 0) hf342 rfl rfl rfl rfl rfl rfl (r_assign rfl) fun ac322 hf343 => ?_)
    refine seq_one (op_val (v := .int .i64 w0) hf343 rfl rfl rfl rfl rfl rfl (r_assign rfl) fun ac323 hf344 => ?_)
    refine seq_end ?_
    clear ac319 hf340 ac320 hf341 ac321 hf342 ac322 hf343
    refine then_normal ?_
    refine code_seq ?_
    refine any_start (fun w => Has [(b4, #[.int .i64 p0, .int .i64 p1, .int .i64 p2], 22)] w) follows (Has.drew (Has.cons (hI27.at 3 rfl) Has.nil)) ?_
    have hS12 : Has [(b4, #[.int .i64 p0, .int .i64 p1, .int .i64 p2], 22)] _ := Has.drew (Has.cons (hI27.at 3 rfl) Has.nil)
    have hI28 := hI27.drew
    refine any_val (i := 0) (v := .int .i64 2) hf344 rfl rfl rfl rfl rfl rfl (fun _ _ _ h => h) (by kernel_rfl) (by kernel_rfl) (by kernel_rfl) (fun wd7 hS12 => (r_move rfl)) hS12 fun ac324 hf345 => ?_
    refine any_val (i := 1) (v := .pointer (some ⟨b4, 2, none⟩)) hf345 rfl rfl rfl rfl rfl rfl (fun _ _ _ h => h) (by kernel_rfl) (by kernel_rfl) (by kernel_rfl) (fun wd7 hS12 => (r_indexAddr (i := 2) ar_22 rfl rfl rfl (by decide) rfl)) hS12 fun ac325 hf346 => ?_
    refine any_val (i := 2) (v := .int .i64 p2) hf346 rfl rfl rfl rfl rfl rfl (fun _ _ _ h => h) (by kernel_rfl) (by kernel_rfl) (by kernel_rfl) (fun wd7 hS12 => (r_load ag_3 rfl (hS12.at 0 rfl) rfl)) hS12 fun ac326 hf347 => ?_
    refine any_val (i := 3) (v := .int .i64 w0) hf347 rfl rfl rfl rfl rfl rfl (fun _ _ _ h => h) (by kernel_rfl) (by kernel_rfl) (by kernel_rfl) (fun wd7 hS12 => (r_move rfl)) hS12 fun ac327 hf348 => ?_
    refine any_val (i := 4) (v := .int .i64 (p2 * w0)) hf348 rfl rfl rfl rfl rfl rfl (fun _ _ _ h => h) (by kernel_rfl) (by kernel_rfl) (by kernel_rfl) (fun wd7 hS12 => (r_mul (c := (p2 * w0)) rfl rfl (mulb_w hp2 hd.v.b0))) hS12 fun ac328 hf349 => ?_
    refine any_val (i := 5) (v := .int .i64 0) hf349 rfl rfl rfl rfl rfl rfl (fun _ _ _ h => h) (by kernel_rfl) (by kernel_rfl) (by kernel_rfl) (fun wd7 hS12 => (r_move rfl)) hS12 fun ac329 hf350 => ?_
    refine any_val (i := 6) (v := .pointer (some ⟨b4, 0, none⟩)) hf350 rfl rfl rfl rfl rfl rfl (fun _ _ _ h => h) (by kernel_rfl) (by kernel_rfl) (by kernel_rfl) (fun wd7 hS12 => (r_indexAddr (i := 0) ar_22 rfl rfl rfl (by decide) rfl)) hS12 fun ac330 hf351 => ?_
    refine any_val (i := 7) (v := .int .i64 p0) hf351 rfl rfl rfl rfl rfl rfl (fun _ _ _ h => h) (by kernel_rfl) (by kernel_rfl) (by kernel_rfl) (fun wd7 hS12 => (r_load ag_3 rfl (hS12.at 0 rfl) rfl)) hS12 fun ac331 hf352 => ?_
    refine any_val (i := 8) (v := .int .i64 w2) hf352 rfl rfl rfl rfl rfl rfl (fun _ _ _ h => h) (by kernel_rfl) (by kernel_rfl) (by kernel_rfl) (fun wd7 hS12 => (r_move rfl)) hS12 fun ac332 hf353 => ?_
    refine any_val (i := 9) (v := .int .i64 (p0 * w2)) hf353 rfl rfl rfl rfl rfl rfl (fun _ _ _ h => h) (by kernel_rfl) (by kernel_rfl) (by kernel_rfl) (fun wd7 hS12 => (r_mul (c := (p0 * w2)) rfl rfl (mulb_w hp0 hd.v.b2))) hS12 fun ac333 hf354 => ?_
    refine any_val (i := 10) (v := .int .i64 ((p2 * w0) - (p0 * w2))) hf354 rfl rfl rfl rfl rfl rfl (fun _ _ _ h => h) (by kernel_rfl) (by kernel_rfl) (by kernel_rfl) (fun wd7 hS12 => (r_sub (c := ((p2 * w0) - (p0 * w2))) rfl rfl (df_w (mulb hp2 hd.v.b0) (mulb hp0 hd.v.b2)))) hS12 fun ac334 hf355 => ?_
    refine any_val (i := 11) (v := .int .i64 w2) hf355 rfl rfl rfl rfl rfl rfl (fun _ _ _ h => h) (by kernel_rfl) (by kernel_rfl) (by kernel_rfl) (fun wd7 hS12 => (r_move rfl)) hS12 fun ac335 hf356 => ?_
    refine any_val (i := 12) (v := .int .i64 (3 * w2)) hf356 rfl rfl rfl rfl rfl rfl (fun _ _ _ h => h) (by kernel_rfl) (by kernel_rfl) (by kernel_rfl) (fun wd7 hS12 => (r_mul (c := (3 * w2)) rfl rfl (wrap_i64 (by have := hd.v.b2; omega) (by have := hd.v.b2; omega)))) hS12 fun ac336 hf357 => ?_
    refine any_val (i := 13) (v := .int .i64 w0) hf357 rfl rfl rfl rfl rfl rfl (fun _ _ _ h => h) (by kernel_rfl) (by kernel_rfl) (by kernel_rfl) (fun wd7 hS12 => (r_move rfl)) hS12 fun ac337 hf358 => ?_
    refine any_val (i := 14) (v := .int .i64 (3 * (w2 * w0))) hf358 rfl rfl rfl rfl rfl rfl (fun _ _ _ h => h) (by kernel_rfl) (by kernel_rfl) (by kernel_rfl) (fun wd7 hS12 => (r_mul (c := (3 * (w2 * w0))) rfl rfl (w3_w hd.v.b2 hd.v.b0))) hS12 fun ac338 hf359 => ?_
    refine any_val (i := 15) (v := .int .i64 w2) hf359 rfl rfl rfl rfl rfl rfl (fun _ _ _ h => h) (by kernel_rfl) (by kernel_rfl) (by kernel_rfl) (fun wd7 hS12 => (r_move rfl)) hS12 fun ac339 hf360 => ?_
    refine any_val (i := 16) (v := .int .i64 w0) hf360 rfl rfl rfl rfl rfl rfl (fun _ _ _ h => h) (by kernel_rfl) (by kernel_rfl) (by kernel_rfl) (fun wd7 hS12 => (r_move rfl)) hS12 fun ac340 hf361 => ?_
    refine any_val (i := 17) (v := .int .i64 (w2 + w0)) hf361 rfl rfl rfl rfl rfl rfl (fun _ _ _ h => h) (by kernel_rfl) (by kernel_rfl) (by kernel_rfl) (fun wd7 hS12 => (r_add (c := (w2 + w0)) rfl rfl (wrap_i64 (by have := hd.v.b2; have := hd.v.b0; omega) (by have := hd.v.b2; have := hd.v.b0; omega)))) hS12 fun ac341 hf362 => ?_
    refine any_val (i := 18) (v := .int .i64 (65536 * (w2 + w0))) hf362 rfl rfl rfl rfl rfl rfl (fun _ _ _ h => h) (by kernel_rfl) (by kernel_rfl) (by kernel_rfl) (fun wd7 hS12 => (r_mul (c := (65536 * (w2 + w0))) rfl rfl (wrap_i64 (by have := hd.v.b2; have := hd.v.b0; omega) (by have := hd.v.b2; have := hd.v.b0; omega)))) hS12 fun ac342 hf363 => ?_
    refine any_val (i := 19) (v := .int .i64 ((3 * (w2 * w0)) + (65536 * (w2 + w0)))) hf363 rfl rfl rfl rfl rfl rfl (fun _ _ _ h => h) (by kernel_rfl) (by kernel_rfl) (by kernel_rfl) (fun wd7 hS12 => (r_add (c := ((3 * (w2 * w0)) + (65536 * (w2 + w0)))) rfl rfl (sm_w hd.v.b2 hd.v.b0))) hS12 fun ac343 hf364 => ?_
    refine any_val (i := 20) (v := .bool (decide (((p2 * w0) - (p0 * w2)) > ((3 * (w2 * w0)) + (65536 * (w2 + w0)))))) hf364 rfl rfl rfl rfl rfl rfl (fun _ _ _ h => h) (by kernel_rfl) (by kernel_rfl) (by kernel_rfl) (fun wd7 hS12 => (r_gtr rfl rfl)) hS12 fun ac344 hf365 => ?_
    refine any_end (by kernel_rfl) ?_
    clear hI27 ac323 hf344 ac324 hf345 ac325 hf346 ac326 hf347 ac327 hf348 ac328 hf349 ac329 hf350 ac330 hf351 ac331 hf352 ac332 hf353 ac333 hf354 ac334 hf355 ac335 hf356 ac336 hf357 ac337 hf358 ac338 hf359 ac339 hf360 ac340 hf361 ac341 hf362 ac342 hf363 ac343 hf364 hS12
    refine then_normal ?_
    have hf366 := hf365.know 146 (u := .bool false) rfl (congrArg Value.bool ((hx1.sh.c20 hd.v)))
    refine code_if_false hf366 rfl ?_
    refine wp_skip ?_
    refine block_normal ?_
    refine then_normal ?_
    refine seq_start (l := [0, 1]) rfl ?_
    refine seq_one (op_val (v := .int .i64 1) hf366 rfl rfl rfl rfl rfl rfl (r_add (c := 1) rfl rfl (by rfl)) fun ac345 hf367 => ?_)
    refine seq_one (op_val (v := .int .i64 1) hf367 rfl rfl rfl rfl rfl rfl (r_move rfl) fun ac346 hf368 => ?_)
    refine seq_end ?_
    clear hf365 ac344 hf366 ac345 hf367
    refine then_normal ?_
    refine rounds_go ?_
    refine code_seq ?_
    refine seq_start (l := [0]) rfl ?_
    refine seq_one (op_val (v := .bool true) hf368 rfl rfl rfl rfl rfl rfl (r_lssC rfl rfl (by decide)) fun ac347 hf369 => ?_)
    refine seq_end ?_
    clear ac346 hf368
    refine then_normal ?_
    refine code_seq ?_
    refine code_if_true hf369 rfl ?_
    refine wp_skip ?_
    refine then_normal ?_
    refine code_seq ?_
    refine wp_block ?_
    refine code_seq ?_
    refine seq_start (l := [0, 1, 2, 3]) rfl ?_
    refine seq_one (op_val (v := .int .i64 1) hf369 rfl rfl rfl rfl rfl rfl (r_move rfl) fun ac348 hf370 => ?_)
    refine seq_one (op_val (v := .int .i64 w1) hf370 rfl rfl rfl rfl rfl rfl (r_index (i := 1) ar_22 ag_3 rfl rfl rfl (by decide) rfl) fun ac349 hf371 => ?_)
    refine seq_one (op_val (v := .int .i64 1) hf371 rfl rfl rfl rfl rfl rfl (r_assign rfl) fun ac350 hf372 => ?_)
    refine seq_one (op_val (v := .int .i64 w1) hf372 rfl rfl rfl rfl rfl rfl (r_assign rfl) fun ac351 hf373 => ?_)
    refine seq_end ?_
    clear ac347 hf369 ac348 hf370 ac349 hf371 ac350 hf372
    refine then_normal ?_
    refine code_seq ?_
    refine any_start (fun w => Has [(b4, #[.int .i64 p0, .int .i64 p1, .int .i64 p2], 22)] w) follows (Has.drew (Has.cons (hI28.at 3 rfl) Has.nil)) ?_
    have hS13 : Has [(b4, #[.int .i64 p0, .int .i64 p1, .int .i64 p2], 22)] _ := Has.drew (Has.cons (hI28.at 3 rfl) Has.nil)
    have hI29 := hI28.drew
    refine any_val (i := 0) (v := .int .i64 2) hf373 rfl rfl rfl rfl rfl rfl (fun _ _ _ h => h) (by kernel_rfl) (by kernel_rfl) (by kernel_rfl) (fun wd7 hS13 => (r_move rfl)) hS13 fun ac352 hf374 => ?_
    refine any_val (i := 1) (v := .pointer (some ⟨b4, 2, none⟩)) hf374 rfl rfl rfl rfl rfl rfl (fun _ _ _ h => h) (by kernel_rfl) (by kernel_rfl) (by kernel_rfl) (fun wd7 hS13 => (r_indexAddr (i := 2) ar_22 rfl rfl rfl (by decide) rfl)) hS13 fun ac353 hf375 => ?_
    refine any_val (i := 2) (v := .int .i64 p2) hf375 rfl rfl rfl rfl rfl rfl (fun _ _ _ h => h) (by kernel_rfl) (by kernel_rfl) (by kernel_rfl) (fun wd7 hS13 => (r_load ag_3 rfl (hS13.at 0 rfl) rfl)) hS13 fun ac354 hf376 => ?_
    refine any_val (i := 3) (v := .int .i64 w1) hf376 rfl rfl rfl rfl rfl rfl (fun _ _ _ h => h) (by kernel_rfl) (by kernel_rfl) (by kernel_rfl) (fun wd7 hS13 => (r_move rfl)) hS13 fun ac355 hf377 => ?_
    refine any_val (i := 4) (v := .int .i64 (p2 * w1)) hf377 rfl rfl rfl rfl rfl rfl (fun _ _ _ h => h) (by kernel_rfl) (by kernel_rfl) (by kernel_rfl) (fun wd7 hS13 => (r_mul (c := (p2 * w1)) rfl rfl (mulb_w hp2 hd.v.b1))) hS13 fun ac356 hf378 => ?_
    refine any_val (i := 5) (v := .int .i64 1) hf378 rfl rfl rfl rfl rfl rfl (fun _ _ _ h => h) (by kernel_rfl) (by kernel_rfl) (by kernel_rfl) (fun wd7 hS13 => (r_move rfl)) hS13 fun ac357 hf379 => ?_
    refine any_val (i := 6) (v := .pointer (some ⟨b4, 1, none⟩)) hf379 rfl rfl rfl rfl rfl rfl (fun _ _ _ h => h) (by kernel_rfl) (by kernel_rfl) (by kernel_rfl) (fun wd7 hS13 => (r_indexAddr (i := 1) ar_22 rfl rfl rfl (by decide) rfl)) hS13 fun ac358 hf380 => ?_
    refine any_val (i := 7) (v := .int .i64 p1) hf380 rfl rfl rfl rfl rfl rfl (fun _ _ _ h => h) (by kernel_rfl) (by kernel_rfl) (by kernel_rfl) (fun wd7 hS13 => (r_load ag_3 rfl (hS13.at 0 rfl) rfl)) hS13 fun ac359 hf381 => ?_
    refine any_val (i := 8) (v := .int .i64 w2) hf381 rfl rfl rfl rfl rfl rfl (fun _ _ _ h => h) (by kernel_rfl) (by kernel_rfl) (by kernel_rfl) (fun wd7 hS13 => (r_move rfl)) hS13 fun ac360 hf382 => ?_
    refine any_val (i := 9) (v := .int .i64 (p1 * w2)) hf382 rfl rfl rfl rfl rfl rfl (fun _ _ _ h => h) (by kernel_rfl) (by kernel_rfl) (by kernel_rfl) (fun wd7 hS13 => (r_mul (c := (p1 * w2)) rfl rfl (mulb_w hp1 hd.v.b2))) hS13 fun ac361 hf383 => ?_
    refine any_val (i := 10) (v := .int .i64 ((p2 * w1) - (p1 * w2))) hf383 rfl rfl rfl rfl rfl rfl (fun _ _ _ h => h) (by kernel_rfl) (by kernel_rfl) (by kernel_rfl) (fun wd7 hS13 => (r_sub (c := ((p2 * w1) - (p1 * w2))) rfl rfl (df_w (mulb hp2 hd.v.b1) (mulb hp1 hd.v.b2)))) hS13 fun ac362 hf384 => ?_
    refine any_val (i := 11) (v := .int .i64 w2) hf384 rfl rfl rfl rfl rfl rfl (fun _ _ _ h => h) (by kernel_rfl) (by kernel_rfl) (by kernel_rfl) (fun wd7 hS13 => (r_move rfl)) hS13 fun ac363 hf385 => ?_
    refine any_val (i := 12) (v := .int .i64 (3 * w2)) hf385 rfl rfl rfl rfl rfl rfl (fun _ _ _ h => h) (by kernel_rfl) (by kernel_rfl) (by kernel_rfl) (fun wd7 hS13 => (r_mul (c := (3 * w2)) rfl rfl (wrap_i64 (by have := hd.v.b2; omega) (by have := hd.v.b2; omega)))) hS13 fun ac364 hf386 => ?_
    refine any_val (i := 13) (v := .int .i64 w1) hf386 rfl rfl rfl rfl rfl rfl (fun _ _ _ h => h) (by kernel_rfl) (by kernel_rfl) (by kernel_rfl) (fun wd7 hS13 => (r_move rfl)) hS13 fun ac365 hf387 => ?_
    refine any_val (i := 14) (v := .int .i64 (3 * (w2 * w1))) hf387 rfl rfl rfl rfl rfl rfl (fun _ _ _ h => h) (by kernel_rfl) (by kernel_rfl) (by kernel_rfl) (fun wd7 hS13 => (r_mul (c := (3 * (w2 * w1))) rfl rfl (w3_w hd.v.b2 hd.v.b1))) hS13 fun ac366 hf388 => ?_
    refine any_val (i := 15) (v := .int .i64 w2) hf388 rfl rfl rfl rfl rfl rfl (fun _ _ _ h => h) (by kernel_rfl) (by kernel_rfl) (by kernel_rfl) (fun wd7 hS13 => (r_move rfl)) hS13 fun ac367 hf389 => ?_
    refine any_val (i := 16) (v := .int .i64 w1) hf389 rfl rfl rfl rfl rfl rfl (fun _ _ _ h => h) (by kernel_rfl) (by kernel_rfl) (by kernel_rfl) (fun wd7 hS13 => (r_move rfl)) hS13 fun ac368 hf390 => ?_
    refine any_val (i := 17) (v := .int .i64 (w2 + w1)) hf390 rfl rfl rfl rfl rfl rfl (fun _ _ _ h => h) (by kernel_rfl) (by kernel_rfl) (by kernel_rfl) (fun wd7 hS13 => (r_add (c := (w2 + w1)) rfl rfl (wrap_i64 (by have := hd.v.b2; have := hd.v.b1; omega) (by have := hd.v.b2; have := hd.v.b1; omega)))) hS13 fun ac369 hf391 => ?_
    refine any_val (i := 18) (v := .int .i64 (65536 * (w2 + w1))) hf391 rfl rfl rfl rfl rfl rfl (fun _ _ _ h => h) (by kernel_rfl) (by kernel_rfl) (by kernel_rfl) (fun wd7 hS13 => (r_mul (c := (65536 * (w2 + w1))) rfl rfl (wrap_i64 (by have := hd.v.b2; have := hd.v.b1; omega) (by have := hd.v.b2; have := hd.v.b1; omega)))) hS13 fun ac370 hf392 => ?_
    refine any_val (i := 19) (v := .int .i64 ((3 * (w2 * w1)) + (65536 * (w2 + w1)))) hf392 rfl rfl rfl rfl rfl rfl (fun _ _ _ h => h) (by kernel_rfl) (by kernel_rfl) (by kernel_rfl) (fun wd7 hS13 => (r_add (c := ((3 * (w2 * w1)) + (65536 * (w2 + w1)))) rfl rfl (sm_w hd.v.b2 hd.v.b1))) hS13 fun ac371 hf393 => ?_
    refine any_val (i := 20) (v := .bool (decide (((p2 * w1) - (p1 * w2)) > ((3 * (w2 * w1)) + (65536 * (w2 + w1)))))) hf393 rfl rfl rfl rfl rfl rfl (fun _ _ _ h => h) (by kernel_rfl) (by kernel_rfl) (by kernel_rfl) (fun wd7 hS13 => (r_gtr rfl rfl)) hS13 fun ac372 hf394 => ?_
    refine any_end (by kernel_rfl) ?_
    clear hI28 ac351 hf373 ac352 hf374 ac353 hf375 ac354 hf376 ac355 hf377 ac356 hf378 ac357 hf379 ac358 hf380 ac359 hf381 ac360 hf382 ac361 hf383 ac362 hf384 ac363 hf385 ac364 hf386 ac365 hf387 ac366 hf388 ac367 hf389 ac368 hf390 ac369 hf391 ac370 hf392 ac371 hf393 hS13
    refine then_normal ?_
    have hf395 := hf394.know 146 (u := .bool false) rfl (congrArg Value.bool ((hx1.sh.c21 hd.v)))
    refine code_if_false hf395 rfl ?_
    refine wp_skip ?_
    refine block_normal ?_
    refine then_normal ?_
    refine seq_start (l := [0, 1]) rfl ?_
    refine seq_one (op_val (v := .int .i64 2) hf395 rfl rfl rfl rfl rfl rfl (r_add (c := 2) rfl rfl (by rfl)) fun ac373 hf396 => ?_)
    refine seq_one (op_val (v := .int .i64 2) hf396 rfl rfl rfl rfl rfl rfl (r_move rfl) fun ac374 hf397 => ?_)
    refine seq_end ?_
    clear hf394 ac372 hf395 ac373 hf396
    refine then_normal ?_
    refine rounds_go ?_
    refine code_seq ?_
    refine seq_start (l := [0]) rfl ?_
    refine seq_one (op_val (v := .bool true) hf397 rfl rfl rfl rfl rfl rfl (r_lssC rfl rfl (by decide)) fun ac375 hf398 => ?_)
    refine seq_end ?_
    clear ac374 hf397
    refine then_normal ?_
    refine code_seq ?_
    refine code_if_true hf398 rfl ?_
    refine wp_skip ?_
    refine then_normal ?_
    refine code_seq ?_
    refine wp_block ?_
    refine code_seq ?_
    refine seq_start (l := [0, 1, 2, 3]) rfl ?_
    refine seq_one (op_val (v := .int .i64 2) hf398 rfl rfl rfl rfl rfl rfl (r_move rfl) fun ac376 hf399 => ?_)
    refine seq_one (op_val (v := .int .i64 w2) hf399 rfl rfl rfl rfl rfl rfl (r_index (i := 2) ar_22 ag_3 rfl rfl rfl (by decide) rfl) fun ac377 hf400 => ?_)
    refine seq_one (op_val (v := .int .i64 2) hf400 rfl rfl rfl rfl rfl rfl (r_assign rfl) fun ac378 hf401 => ?_)
    refine seq_one (op_val (v := .int .i64 w2) hf401 rfl rfl rfl rfl rfl rfl (r_assign rfl) fun ac379 hf402 => ?_)
    refine seq_end ?_
    clear ac375 hf398 ac376 hf399 ac377 hf400 ac378 hf401
    refine then_normal ?_
    refine code_seq ?_
    refine any_start (fun w => Has [(b4, #[.int .i64 p0, .int .i64 p1, .int .i64 p2], 22)] w) follows (Has.drew (Has.cons (hI29.at 3 rfl) Has.nil)) ?_
    have hS14 : Has [(b4, #[.int .i64 p0, .int .i64 p1, .int .i64 p2], 22)] _ := Has.drew (Has.cons (hI29.at 3 rfl) Has.nil)
    have hI30 := hI29.drew
    refine any_val (i := 0) (v := .int .i64 2) hf402 rfl rfl rfl rfl rfl rfl (fun _ _ _ h => h) (by kernel_rfl) (by kernel_rfl) (by kernel_rfl) (fun wd7 hS14 => (r_move rfl)) hS14 fun ac380 hf403 => ?_
    refine any_val (i := 1) (v := .pointer (some ⟨b4, 2, none⟩)) hf403 rfl rfl rfl rfl rfl rfl (fun _ _ _ h => h) (by kernel_rfl) (by kernel_rfl) (by kernel_rfl) (fun wd7 hS14 => (r_indexAddr (i := 2) ar_22 rfl rfl rfl (by decide) rfl)) hS14 fun ac381 hf404 => ?_
    refine any_val (i := 2) (v := .int .i64 p2) hf404 rfl rfl rfl rfl rfl rfl (fun _ _ _ h => h) (by kernel_rfl) (by kernel_rfl) (by kernel_rfl) (fun wd7 hS14 => (r_load ag_3 rfl (hS14.at 0 rfl) rfl)) hS14 fun ac382 hf405 => ?_
    refine any_val (i := 3) (v := .int .i64 w2) hf405 rfl rfl rfl rfl rfl rfl (fun _ _ _ h => h) (by kernel_rfl) (by kernel_rfl) (by kernel_rfl) (fun wd7 hS14 => (r_move rfl)) hS14 fun ac383 hf406 => ?_
    refine any_val (i := 4) (v := .int .i64 (p2 * w2)) hf406 rfl rfl rfl rfl rfl rfl (fun _ _ _ h => h) (by kernel_rfl) (by kernel_rfl) (by kernel_rfl) (fun wd7 hS14 => (r_mul (c := (p2 * w2)) rfl rfl (mulb_w hp2 hd.v.b2))) hS14 fun ac384 hf407 => ?_
    refine any_val (i := 5) (v := .int .i64 2) hf407 rfl rfl rfl rfl rfl rfl (fun _ _ _ h => h) (by kernel_rfl) (by kernel_rfl) (by kernel_rfl) (fun wd7 hS14 => (r_move rfl)) hS14 fun ac385 hf408 => ?_
    refine any_val (i := 6) (v := .pointer (some ⟨b4, 2, none⟩)) hf408 rfl rfl rfl rfl rfl rfl (fun _ _ _ h => h) (by kernel_rfl) (by kernel_rfl) (by kernel_rfl) (fun wd7 hS14 => (r_indexAddr (i := 2) ar_22 rfl rfl rfl (by decide) rfl)) hS14 fun ac386 hf409 => ?_
    refine any_val (i := 7) (v := .int .i64 p2) hf409 rfl rfl rfl rfl rfl rfl (fun _ _ _ h => h) (by kernel_rfl) (by kernel_rfl) (by kernel_rfl) (fun wd7 hS14 => (r_load ag_3 rfl (hS14.at 0 rfl) rfl)) hS14 fun ac387 hf410 => ?_
    refine any_val (i := 8) (v := .int .i64 w2) hf410 rfl rfl rfl rfl rfl rfl (fun _ _ _ h => h) (by kernel_rfl) (by kernel_rfl) (by kernel_rfl) (fun wd7 hS14 => (r_move rfl)) hS14 fun ac388 hf411 => ?_
    refine any_val (i := 9) (v := .int .i64 (p2 * w2)) hf411 rfl rfl rfl rfl rfl rfl (fun _ _ _ h => h) (by kernel_rfl) (by kernel_rfl) (by kernel_rfl) (fun wd7 hS14 => (r_mul (c := (p2 * w2)) rfl rfl (mulb_w hp2 hd.v.b2))) hS14 fun ac389 hf412 => ?_
    refine any_val (i := 10) (v := .int .i64 ((p2 * w2) - (p2 * w2))) hf412 rfl rfl rfl rfl rfl rfl (fun _ _ _ h => h) (by kernel_rfl) (by kernel_rfl) (by kernel_rfl) (fun wd7 hS14 => (r_sub (c := ((p2 * w2) - (p2 * w2))) rfl rfl (df_w (mulb hp2 hd.v.b2) (mulb hp2 hd.v.b2)))) hS14 fun ac390 hf413 => ?_
    refine any_val (i := 11) (v := .int .i64 w2) hf413 rfl rfl rfl rfl rfl rfl (fun _ _ _ h => h) (by kernel_rfl) (by kernel_rfl) (by kernel_rfl) (fun wd7 hS14 => (r_move rfl)) hS14 fun ac391 hf414 => ?_
    refine any_val (i := 12) (v := .int .i64 (3 * w2)) hf414 rfl rfl rfl rfl rfl rfl (fun _ _ _ h => h) (by kernel_rfl) (by kernel_rfl) (by kernel_rfl) (fun wd7 hS14 => (r_mul (c := (3 * w2)) rfl rfl (wrap_i64 (by have := hd.v.b2; omega) (by have := hd.v.b2; omega)))) hS14 fun ac392 hf415 => ?_
    refine any_val (i := 13) (v := .int .i64 w2) hf415 rfl rfl rfl rfl rfl rfl (fun _ _ _ h => h) (by kernel_rfl) (by kernel_rfl) (by kernel_rfl) (fun wd7 hS14 => (r_move rfl)) hS14 fun ac393 hf416 => ?_
    refine any_val (i := 14) (v := .int .i64 (3 * (w2 * w2))) hf416 rfl rfl rfl rfl rfl rfl (fun _ _ _ h => h) (by kernel_rfl) (by kernel_rfl) (by kernel_rfl) (fun wd7 hS14 => (r_mul (c := (3 * (w2 * w2))) rfl rfl (w3_w hd.v.b2 hd.v.b2))) hS14 fun ac394 hf417 => ?_
    refine any_val (i := 15) (v := .int .i64 w2) hf417 rfl rfl rfl rfl rfl rfl (fun _ _ _ h => h) (by kernel_rfl) (by kernel_rfl) (by kernel_rfl) (fun wd7 hS14 => (r_move rfl)) hS14 fun ac395 hf418 => ?_
    refine any_val (i := 16) (v := .int .i64 w2) hf418 rfl rfl rfl rfl rfl rfl (fun _ _ _ h => h) (by kernel_rfl) (by kernel_rfl) (by kernel_rfl) (fun wd7 hS14 => (r_move rfl)) hS14 fun ac396 hf419 => ?_
    refine any_val (i := 17) (v := .int .i64 (w2 + w2)) hf419 rfl rfl rfl rfl rfl rfl (fun _ _ _ h => h) (by kernel_rfl) (by kernel_rfl) (by kernel_rfl) (fun wd7 hS14 => (r_add (c := (w2 + w2)) rfl rfl (wrap_i64 (by have := hd.v.b2; have := hd.v.b2; omega) (by have := hd.v.b2; have := hd.v.b2; omega)))) hS14 fun ac397 hf420 => ?_
    refine any_val (i := 18) (v := .int .i64 (65536 * (w2 + w2))) hf420 rfl rfl rfl rfl rfl rfl (fun _ _ _ h => h) (by kernel_rfl) (by kernel_rfl) (by kernel_rfl) (fun wd7 hS14 => (r_mul (c := (65536 * (w2 + w2))) rfl rfl (wrap_i64 (by have := hd.v.b2; have := hd.v.b2; omega) (by have := hd.v.b2; have := hd.v.b2; omega)))) hS14 fun ac398 hf421 => ?_
    refine any_val (i := 19) (v := .int .i64 ((3 * (w2 * w2)) + (65536 * (w2 + w2)))) hf421 rfl rfl rfl rfl rfl rfl (fun _ _ _ h => h) (by kernel_rfl) (by kernel_rfl) (by kernel_rfl) (fun wd7 hS14 => (r_add (c := ((3 * (w2 * w2)) + (65536 * (w2 + w2)))) rfl rfl (sm_w hd.v.b2 hd.v.b2))) hS14 fun ac399 hf422 => ?_
    refine any_val (i := 20) (v := .bool (decide (((p2 * w2) - (p2 * w2)) > ((3 * (w2 * w2)) + (65536 * (w2 + w2)))))) hf422 rfl rfl rfl rfl rfl rfl (fun _ _ _ h => h) (by kernel_rfl) (by kernel_rfl) (by kernel_rfl) (fun wd7 hS14 => (r_gtr rfl rfl)) hS14 fun ac400 hf423 => ?_
    refine any_end (by kernel_rfl) ?_
    clear hI29 ac379 hf402 ac380 hf403 ac381 hf404 ac382 hf405 ac383 hf406 ac384 hf407 ac385 hf408 ac386 hf409 ac387 hf410 ac388 hf411 ac389 hf412 ac390 hf413 ac391 hf414 ac392 hf415 ac393 hf416 ac394 hf417 ac395 hf418 ac396 hf419 ac397 hf420 ac398 hf421 ac399 hf422 hS14
    refine then_normal ?_
    have hf424 := hf423.know 146 (u := .bool false) rfl (congrArg Value.bool ((sh_same hd.v.b2)))
    refine code_if_false hf424 rfl ?_
    refine wp_skip ?_
    refine block_normal ?_
    refine then_normal ?_
    refine seq_start (l := [0, 1]) rfl ?_
    refine seq_one (op_val (v := .int .i64 3) hf424 rfl rfl rfl rfl rfl rfl (r_add (c := 3) rfl rfl (by rfl)) fun ac401 hf425 => ?_)
    refine seq_one (op_val (v := .int .i64 3) hf425 rfl rfl rfl rfl rfl rfl (r_move rfl) fun ac402 hf426 => ?_)
    refine seq_end ?_
    clear hf423 ac400 hf424 ac401 hf425
    refine then_normal ?_
    refine rounds_go ?_
    refine code_seq ?_
    refine seq_start (l := [0]) rfl ?_
    refine seq_one (op_val (v := .bool false) hf426 rfl rfl rfl rfl rfl rfl (r_lssC rfl rfl (by decide)) fun ac403 hf427 => ?_)
    refine seq_end ?_
    clear ac402 hf426
    refine then_normal ?_
    refine code_seq ?_
    refine code_if_false hf427 rfl ?_
    refine wp_exit ?_
    refine then_exit ?_
    refine then_exit ?_
    refine block_here ?_
    refine block_normal ?_
    refine then_normal ?_
    refine seq_start (l := [0, 1]) rfl ?_
    refine seq_one (op_val (v := .int .i64 3) hf427 rfl rfl rfl rfl rfl rfl (r_add (c := 3) rfl rfl (by rfl)) fun ac404 hf428 => ?_)
    refine seq_one (op_val (v := .int .i64 3) hf428 rfl rfl rfl rfl rfl rfl (r_move rfl) fun ac405 hf429 => ?_)
    refine seq_end ?_
    clear ac403 hf427 ac404 hf428
    refine then_normal ?_
    refine rounds_go ?_
    refine code_seq ?_
    refine seq_start (l := [0]) rfl ?_
    refine seq_one (op_val (v := .bool false) hf429 rfl rfl rfl rfl rfl rfl (r_lssC rfl rfl (by decide)) fun ac406 hf430 => ?_)
    refine seq_end ?_
    clear ac405 hf429
    refine then_normal ?_
    refine code_seq ?_
    refine code_if_false hf430 rfl ?_
    refine wp_exit ?_
    refine then_exit ?_
    refine then_exit ?_
    refine block_here ?_
    refine then_normal ?_
    refine code_seq ?_
    refine seq_start (l := [0, 1]) rfl ?_
    refine seq_one (op_pure hf430 rfl rfl rfl rfl ca_11 awake_pur hI30 fun ac407 wd15 hI31 hf431 => ?_)
    refine seq_one (op_val (v := .bool true) hf431 rfl rfl rfl rfl rfl rfl (r_assign rfl) fun ac408 hf432 => ?_)
    refine seq_end ?_
    clear ac406 wd7 hI30 hf430 ac407 hf431
    refine then_normal ?_
    refine wp_ret ?_
    refine post1 rfl hf432 rfl ⟨?_, hI31.done (fresh_keys (ks := [b1, b2, b3, b4]) rfl (fk_cons hb1 (fk_cons hb2 (fk_cons hb3 (fk_cons hb4 fk_nil)))))⟩
    rfl
end Go.Proofs.Ytkfilmdnpocinaa
