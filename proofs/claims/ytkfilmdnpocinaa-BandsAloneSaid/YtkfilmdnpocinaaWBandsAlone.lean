/-
  The walk of BandsAlone.
-/
import Derived.Test.YtkfilmdnpocinaaPlayed
import Derived.Test.YtkfilmdnpocinaaState4
namespace Go.Proofs.Ytkfilmdnpocinaa
set_option linter.unusedVariables false
set_option linter.unusedSimpArgs false
set_option maxRecDepth 100000
open Go.RowKit
set_option maxHeartbeats 8000000 in
theorem bandsAlone_walk (x0 x1 x2 w0 w1 w2 : Int) (hd : Wd x0 x1 x2 w0 w1 w2) (wh : Int) (hwh : 0 ≤ wh ∧ wh ≤ 255) {p : Option Addr} {L cap : Nat} {rows : List (List Value)} (hl : rows.length = L) (hc : L ≤ cap) (ho : ∀ row ∈ rows, Oks opKinds row) (w : World) (hr : Rows_ w p 5 rows) {q : Option Addr} {caq : Nat} {ys : List Int} (hy : InK .u16 ys) (hq : Rd w .u16 q ys) : Calls Try.prog 5 [.agg #[.int .u32 x0, .int .u32 x1, .int .u32 x2], .slice p L cap, .int .u8 wh, .slice q ys.length caq].toArray w fun e w' => e = .returned (.bool true) ∧ Inv w [] w' := by
  have hX : T3 (wh.tmod 3) := mod3 hwh.1
  have hY : T3 ((wh.tdiv 3).tmod 3) := mod3 (by rw [Int.tdiv_eq_ediv_of_nonneg hwh.1]; omega)
  have hI1 := Inv.start w
  refine enter (n := 126) Try.func5 rfl rfl rfl ?_
  intro ac1 hf1
  refine code_seq ?_
  refine seq_start (l := [0, 1]) rfl ?_
  refine seq_one (op_box hf1 rfl rfl rfl rfl hI1 fun ac2 b1 wd1 hb1 hI2 hf2 => ?_)
  have hI3 : Inv w [(b1, #[.int .u32 x0, .int .u32 x1, .int .u32 x2], 47)] wd1 := hI2
  refine seq_one (op_val (v := .bool false) hf2 rfl rfl rfl rfl rfl rfl (r_assign rfl) fun ac3 hf3 => ?_)
  refine seq_end ?_
  clear ac1 hI1 hf1 hI2 ac2 hf2
  refine then_normal ?_
  refine code_seq ?_
  refine seq_start (l := [0, 1, 2, 3, 4, 5, 6, 7]) rfl ?_
  refine seq_one (op_val (v := .agg #[.int .u32 x0, .int .u32 x1, .int .u32 x2]) hf3 rfl rfl rfl rfl rfl rfl (r_loadW ag_47 sz_47 rfl (hI3.at 0 rfl) rfl) fun ac4 hf4 => ?_)
  refine seq_one (op_val (v := .slice p L cap) hf4 rfl rfl rfl rfl rfl rfl (r_move rfl) fun ac5 hf5 => ?_)
  refine seq_one (op_call (R := fun v w' => ∃ b, ∃ s : St, wd1.heap.size ≤ b ∧ Ok w0 w1 w2 s ∧ v = .tuple #[.pointer (some ⟨b, 0, none⟩), .bool true] ∧ Inv wd1 [(b, #[.int .i64 w0, .int .i64 w1, .int .i64 w2, .int .i64 s.c0, .int .i64 s.c1, .int .i64 s.c2, .int .i64 s.now], 58)] w') hf5 rfl rfl rfl rfl ca_18 ((played_walk x0 x1 x2 w0 w1 w2 hd hl hc ho _ (hr.old hI3 (fresh_keys (ks := [b1]) rfl (fk_cons hb1 fk_nil)))).mono fun e w' ⟨b, s, h1, h2, h3, h4⟩ => ⟨_, h3, b, s, h1, h2, rfl, h4⟩) fun ac6 v wd2 hR hf6 => ?_)
  obtain ⟨b2, ⟨a_2, b_2, c_2, d_2⟩, hqb2, ho2, rfl, hwb2⟩ := hR
  dsimp only at hwb2
  have hb2 := Nat.le_trans hI3.size hqb2
  have hI4 : Inv w [(b1, #[.int .u32 x0, .int .u32 x1, .int .u32 x2], 47), (b2, #[.int .i64 w0, .int .i64 w1, .int .i64 w2, .int .i64 a_2, .int .i64 b_2, .int .i64 c_2, .int .i64 d_2], 58)] _ := hI3.callN hwb2 (fun x hx => by simp only [List.mem_singleton] at hx; subst hx; exact hqb2)
  refine seq_one (op_val (v := .tuple #[.pointer (some ⟨b2, 0, none⟩), .bool true]) hf6 rfl rfl rfl rfl rfl rfl (r_move rfl) fun ac7 hf7 => ?_)
  refine seq_one (op_val (v := .pointer (some ⟨b2, 0, none⟩)) hf7 rfl rfl rfl rfl rfl rfl (r_extract rfl rfl) fun ac8 hf8 => ?_)
  refine seq_one (op_val (v := .bool true) hf8 rfl rfl rfl rfl rfl rfl (r_extract rfl rfl) fun ac9 hf9 => ?_)
  refine seq_one (op_val (v := .pointer (some ⟨b2, 0, none⟩)) hf9 rfl rfl rfl rfl rfl rfl (r_assign rfl) fun ac10 hf10 => ?_)
  refine seq_one (op_val (v := .bool true) hf10 rfl rfl rfl rfl rfl rfl (r_assign rfl) fun ac11 hf11 => ?_)
  refine seq_end ?_
  clear ac3 hf3 ac4 hf4 ac5 wd1 hf5 hI3 hwb2 hqb2 ac6 hf6 ac7 hf7 ac8 hf8 ac9 hf9 ac10 hf10
  refine then_normal ?_
  refine code_seq ?_
  refine code_seq ?_
  refine seq_start (l := [0, 1]) rfl ?_
  refine seq_one (op_val (v := .bool true) hf11 rfl rfl rfl rfl rfl rfl (r_move rfl) fun ac12 hf12 => ?_)
  refine seq_one (op_val (v := .bool false) hf12 rfl rfl rfl rfl rfl rfl ((r_not (b := true) rfl).trans rfl) fun ac13 hf13 => ?_)
  refine seq_end ?_
  clear ac11 hf11 ac12 hf12
  refine then_normal ?_
  refine code_if_false hf13 rfl ?_
  refine wp_skip ?_
  refine then_normal ?_
  refine code_seq ?_
  refine seq_start (l := [0]) rfl ?_
  refine seq_one (op_alloc hf13 rfl rfl rfl ze_33 hI4 fun ac14 b3 wd3 hb3 hI5 hf14 => ?_)
  have hI6 : Inv w [(b1, #[.int .u32 x0, .int .u32 x1, .int .u32 x2], 47), (b2, #[.int .i64 w0, .int .i64 w1, .int .i64 w2, .int .i64 a_2, .int .i64 b_2, .int .i64 c_2, .int .i64 d_2], 58), (b3, #[.bool false, .bool false, .bool false], 33)] wd3 := hI5
  refine seq_end ?_
  clear ac13 wd2 hI4 hf13 hI5
  refine then_normal ?_
  refine code_seq ?_
  refine seq_start (l := [0, 1, 2, 3, 4, 5, 6, 7, 8, 9, 10]) rfl ?_
  refine seq_one (op_val (v := .int .u8 wh) hf14 rfl rfl rfl rfl rfl rfl (r_move rfl) fun ac15 hf15 => ?_)
  refine seq_one (op_val (v := .int .i64 wh) hf15 rfl rfl rfl rfl rfl rfl (r_conv (c := wh) ui_5 ui_3 rfl (wrap_i64 (by omega) (by omega))) fun ac16 hf16 => ?_)
  refine seq_one (op_val (v := .int .i64 (wh.tmod 3)) hf16 rfl rfl rfl rfl rfl rfl (r_rem (c := (wh.tmod 3)) rfl rfl (by omega) rfl) fun ac17 hf17 => ?_)
  refine seq_one (op_val (v := .int .u8 wh) hf17 rfl rfl rfl rfl rfl rfl (r_move rfl) fun ac18 hf18 => ?_)
  refine seq_one (op_val (v := .int .i64 wh) hf18 rfl rfl rfl rfl rfl rfl (r_conv (c := wh) ui_5 ui_3 rfl (wrap_i64 (by omega) (by omega))) fun ac19 hf19 => ?_)
  refine seq_one (op_val (v := .int .i64 (wh.tdiv 3)) hf19 rfl rfl rfl rfl rfl rfl (r_quo (c := (wh.tdiv 3)) rfl rfl (by omega) (by rw [Int.tdiv_eq_ediv_of_nonneg hwh.1]; exact wrap_i64 (by omega) (by omega))) fun ac20 hf20 => ?_)
  refine seq_one (op_val (v := .int .i64 ((wh.tdiv 3).tmod 3)) hf20 rfl rfl rfl rfl rfl rfl (r_rem (c := ((wh.tdiv 3).tmod 3)) rfl rfl (by omega) rfl) fun ac21 hf21 => ?_)
  refine seq_one (op_val (v := .pointer (some ⟨b3, 0 + (wh.tmod 3).toNat, none⟩)) hf21 rfl rfl rfl rfl rfl rfl (r_indexAddr (i := (wh.tmod 3).toNat) ar_33 rfl rfl (idx3 hX).1 (idx3 hX).2 (by rw [Nat.mul_one])) fun ac22 hf22 => ?_)
  refine seq_one (op_store (cs' := #[.bool (updB (wh.tmod 3) 0 true false), .bool (updB (wh.tmod 3) 1 true false), .bool (updB (wh.tmod 3) 2 true false)]) 2 hf22 rfl rfl rfl rfl rfl sz_4 hI6 rfl (by have := (idx3 hX).2; show 0 + (wh.tmod 3).toNat < 3; omega) (by rcases hX with h | h | h <;> rw [h] <;> rfl) fun wd4 hI7 => ?_)
  have hI8 : Inv w [(b1, #[.int .u32 x0, .int .u32 x1, .int .u32 x2], 47), (b2, #[.int .i64 w0, .int .i64 w1, .int .i64 w2, .int .i64 a_2, .int .i64 b_2, .int .i64 c_2, .int .i64 d_2], 58), (b3, #[.bool (updB (wh.tmod 3) 0 true false), .bool (updB (wh.tmod 3) 1 true false), .bool (updB (wh.tmod 3) 2 true false)], 33)] wd4 := hI7
  refine seq_one (op_val (v := .pointer (some ⟨b3, 0 + ((wh.tdiv 3).tmod 3).toNat, none⟩)) hf22 rfl rfl rfl rfl rfl rfl (r_indexAddr (i := ((wh.tdiv 3).tmod 3).toNat) ar_33 rfl rfl (idx3 hY).1 (idx3 hY).2 (by rw [Nat.mul_one])) fun ac23 hf23 => ?_)
  refine seq_one (op_store (cs' := #[.bool (updB ((wh.tdiv 3).tmod 3) 0 true (updB (wh.tmod 3) 0 true false)), .bool (updB ((wh.tdiv 3).tmod 3) 1 true (updB (wh.tmod 3) 1 true false)), .bool (updB ((wh.tdiv 3).tmod 3) 2 true (updB (wh.tmod 3) 2 true false))]) 2 hf23 rfl rfl rfl rfl rfl sz_4 hI8 rfl (by have := (idx3 hY).2; show 0 + ((wh.tdiv 3).tmod 3).toNat < 3; omega) (by rcases hY with h | h | h <;> rw [h] <;> rfl) fun wd5 hI9 => ?_)
  have hI10 : Inv w [(b1, #[.int .u32 x0, .int .u32 x1, .int .u32 x2], 47), (b2, #[.int .i64 w0, .int .i64 w1, .int .i64 w2, .int .i64 a_2, .int .i64 b_2, .int .i64 c_2, .int .i64 d_2], 58), (b3, #[.bool (updB ((wh.tdiv 3).tmod 3) 0 true (updB (wh.tmod 3) 0 true false)), .bool (updB ((wh.tdiv 3).tmod 3) 1 true (updB (wh.tmod 3) 1 true false)), .bool (updB ((wh.tdiv 3).tmod 3) 2 true (updB (wh.tmod 3) 2 true false))], 33)] wd5 := hI9
  refine seq_end ?_
  clear ac14 hf14 ac15 hf15 ac16 hf16 ac17 hf17 ac18 hf18 ac19 hf19 ac20 hf20 ac21 hf21 wd3 hI6 hI7 ac22 hf22 wd4 hI8 hI9
  refine then_normal ?_
  refine code_seq ?_
  refine seq_start (l := [0, 1, 2, 3, 4, 5, 6, 7, 8]) rfl ?_
  refine seq_one (op_val (v := .int .u8 wh) hf23 rfl rfl rfl rfl rfl rfl (r_move rfl) fun ac24 hf24 => ?_)
  refine seq_one (op_val (v := .int .i64 wh) hf24 rfl rfl rfl rfl rfl rfl (r_conv (c := wh) ui_5 ui_3 rfl (wrap_i64 (by omega) (by omega))) fun ac25 hf25 => ?_)
  refine seq_one (op_val (v := .int .i64 (wh.tmod 3)) hf25 rfl rfl rfl rfl rfl rfl (r_rem (c := (wh.tmod 3)) rfl rfl (by omega) rfl) fun ac26 hf26 => ?_)
  refine seq_one (op_val (v := .int .u8 wh) hf26 rfl rfl rfl rfl rfl rfl (r_move rfl) fun ac27 hf27 => ?_)
  refine seq_one (op_val (v := .int .i64 wh) hf27 rfl rfl rfl rfl rfl rfl (r_conv (c := wh) ui_5 ui_3 rfl (wrap_i64 (by omega) (by omega))) fun ac28 hf28 => ?_)
  refine seq_one (op_val (v := .int .i64 (wh.tdiv 3)) hf28 rfl rfl rfl rfl rfl rfl (r_quo (c := (wh.tdiv 3)) rfl rfl (by omega) (by rw [Int.tdiv_eq_ediv_of_nonneg hwh.1]; exact wrap_i64 (by omega) (by omega))) fun ac29 hf29 => ?_)
  refine seq_one (op_val (v := .int .i64 ((wh.tdiv 3).tmod 3)) hf29 rfl rfl rfl rfl rfl rfl (r_rem (c := ((wh.tdiv 3).tmod 3)) rfl rfl (by omega) rfl) fun ac30 hf30 => ?_)
  refine seq_one (op_val (v := .bool ((wh.tmod 3) == ((wh.tdiv 3).tmod 3))) hf30 rfl rfl rfl rfl rfl rfl (r_eql rfl rfl) fun ac31 hf31 => ?_)
  refine seq_one (op_val (v := .bool ((wh.tmod 3) == ((wh.tdiv 3).tmod 3))) hf31 rfl rfl rfl rfl rfl rfl (r_assign rfl) fun ac32 hf32 => ?_)
  refine seq_end ?_
  clear ac23 hf23 ac24 hf24 ac25 hf25 ac26 hf26 ac27 hf27 ac28 hf28 ac29 hf29 ac30 hf30 ac31 hf31
  refine then_normal ?_
  refine code_seq ?_
  refine code_seq ?_
  refine seq_start (l := [0]) rfl ?_
  refine seq_one (op_val (v := .int .i64 0) hf32 rfl rfl rfl rfl rfl rfl (r_move rfl) fun ac33 hf33 => ?_)
  refine seq_end ?_
  clear ac32 hf32
  refine then_normal ?_
  refine wp_block ?_
  have hT := fun k => has_two (k := k) hX hY
  have ha := any_two' (y := ((wh.tdiv 3).tmod 3)) hX
  generalize (updB ((wh.tdiv 3).tmod 3) 0 true (updB (wh.tmod 3) 0 true false)) = g0 at hI10 hT ha
  generalize (updB ((wh.tdiv 3).tmod 3) 1 true (updB (wh.tmod 3) 1 true false)) = g1 at hI10 hT ha
  generalize (updB ((wh.tdiv 3).tmod 3) 2 true (updB (wh.tmod 3) 2 true false)) = g2 at hI10 hT ha
  refine code_loop (α := Nat × Int × Int × Int × Int) (fun (x : Nat × Int × Int × Int × Int) => match x with | (i, d0, d1, d2, j) => [(0, .agg #[.int .u32 x0, .int .u32 x1, .int .u32 x2]), (1, .slice p L cap), (2, .int .u8 wh), (3, .slice q ys.length caq), (4, .pointer (some ⟨b1, 0, none⟩)), (9, .pointer (some ⟨b2, 0, none⟩)), (10, .bool true), (11, .pointer (some ⟨b3, 0, none⟩)), (12, .bool ((wh.tmod 3) == ((wh.tdiv 3).tmod 3))), (20, .tuple #[.pointer (some ⟨b2, 0, none⟩), .bool true]), (21, .agg #[.int .u32 x0, .int .u32 x1, .int .u32 x2]), (22, .slice p L cap), (23, .tuple #[.pointer (some ⟨b2, 0, none⟩), .bool true]), (24, .pointer (some ⟨b2, 0, none⟩)), (25, .bool true), (26, .bool true), (27, .bool false), (28, .int .u8 wh), (29, .int .i64 wh), (30, .int .i64 (wh.tmod 3)), (31, .int .u8 wh), (32, .int .i64 wh), (33, .int .i64 (wh.tdiv 3)), (34, .int .i64 ((wh.tdiv 3).tmod 3)), (35, .pointer (some ⟨b3, 0 + (wh.tmod 3).toNat, none⟩)), (36, .pointer (some ⟨b3, 0 + ((wh.tdiv 3).tmod 3).toNat, none⟩)), (37, .int .u8 wh), (38, .int .i64 wh), (39, .int .i64 (wh.tmod 3)), (40, .int .u8 wh), (41, .int .i64 wh), (42, .int .i64 (wh.tdiv 3)), (43, .int .i64 ((wh.tdiv 3).tmod 3)), (44, .bool ((wh.tmod 3) == ((wh.tdiv 3).tmod 3))), (45, .int .i64 (i : Int))]) (fun (x : Nat × Int × Int × Int × Int) => match x with | (i, d0, d1, d2, j) => fun wL => Inv w [(b1, #[.int .u32 x0, .int .u32 x1, .int .u32 x2], 47), (b2, #[.int .i64 w0, .int .i64 w1, .int .i64 w2, .int .i64 d0, .int .i64 d1, .int .i64 d2, .int .i64 j], 58), (b3, #[.bool g0, .bool g1, .bool g2], 33)] wL ∧ (i ≤ 40 ∧ Ok w0 w1 w2 ⟨d0, d1, d2, j⟩)) (fun (x : Nat × Int × Int × Int × Int) => match x with | (i, d0, d1, d2, j) => 40 - i) (0, a_2, b_2, c_2, d_2) (hf33.cons 0 rfl (hf33.cons 1 rfl (hf33.cons 2 rfl (hf33.cons 3 rfl (hf33.cons 4 rfl (hf33.cons 9 rfl (hf33.cons 10 rfl (hf33.cons 11 rfl (hf33.cons 12 rfl (hf33.cons 20 rfl (hf33.cons 21 rfl (hf33.cons 22 rfl (hf33.cons 23 rfl (hf33.cons 24 rfl (hf33.cons 25 rfl (hf33.cons 26 rfl (hf33.cons 27 rfl (hf33.cons 28 rfl (hf33.cons 29 rfl (hf33.cons 30 rfl (hf33.cons 31 rfl (hf33.cons 32 rfl (hf33.cons 33 rfl (hf33.cons 34 rfl (hf33.cons 35 rfl (hf33.cons 36 rfl (hf33.cons 37 rfl (hf33.cons 38 rfl (hf33.cons 39 rfl (hf33.cons 40 rfl (hf33.cons 41 rfl (hf33.cons 42 rfl (hf33.cons 43 rfl (hf33.cons 44 rfl (hf33.cons 45 rfl hf33.nil))))))))))))))))))))))))))))))))))) ⟨hI10, ⟨Nat.zero_le _, ho2⟩⟩ ?_
  intro ⟨i, d0, d1, d2, j⟩ ac34 wd6 hf34 hL1
  obtain ⟨hI11, hx1⟩ := hL1
  dsimp only at hf34 hI11 hx1
  clear ac33 wd5 hf33 hI10
  refine code_seq ?_
  refine seq_start (l := [0]) rfl ?_
  refine seq_one (op_val (v := .bool (decide ((i : Int) < 40))) hf34 rfl rfl rfl rfl rfl rfl (r_lss rfl rfl) fun ac35 hf35 => ?_)
  refine seq_end ?_
  clear ac34 hf34
  refine then_normal ?_
  refine code_seq ?_
  refine code_if hf35 rfl (fun c46_1 => ?_) (fun c46_1 => ?_)
  · have hf36 := hf35.know 46 (u := .bool true) rfl (congrArg Value.bool c46_1)
    refine wp_skip ?_
    refine then_normal ?_
    refine code_seq ?_
    refine wp_block ?_
    refine code_seq ?_
    refine seq_start (l := [0, 1]) rfl ?_
    refine seq_one (op_val (v := .int .i64 (i : Int)) hf36 rfl rfl rfl rfl rfl rfl (r_move rfl) fun ac36 hf37 => ?_)
    refine seq_one (op_val (v := .int .i64 (i : Int)) hf37 rfl rfl rfl rfl rfl rfl (r_assign rfl) fun ac37 hf38 => ?_)
    refine seq_end ?_
    clear hf35 ac35 hf36 ac36 hf37
    refine then_normal ?_
    refine code_seq ?_
    refine seq_start (l := [0, 1, 2, 3]) rfl ?_
    refine seq_one (op_val (v := .pointer (some ⟨b2, 0, none⟩)) hf38 rfl rfl rfl rfl rfl rfl (r_move rfl) fun ac38 hf39 => ?_)
    refine seq_one (op_pureW hf39 rfl rfl rfl rfl ca_17 (credits_walk w0 w1 w2 d0 d1 d2 j hd.v.ne b2 _ (Has.cons (hI11.at 1 rfl) Has.nil)) hI11 fun ac39 wd7 hI12 hf40 => ?_)
    refine seq_one (op_alloc hf40 rfl rfl rfl ze_22 hI12 fun ac40 b4 wd8 hb4 hI13 hf41 => ?_)
    have hI14 : Inv w [(b1, #[.int .u32 x0, .int .u32 x1, .int .u32 x2], 47), (b2, #[.int .i64 w0, .int .i64 w1, .int .i64 w2, .int .i64 d0, .int .i64 d1, .int .i64 d2, .int .i64 j], 58), (b3, #[.bool g0, .bool g1, .bool g2], 33), (b4, #[.int .i64 0, .int .i64 0, .int .i64 0], 22)] wd8 := hI13
    refine seq_one (op_storeW (cells := #[.int .i64 d0, .int .i64 d1, .int .i64 d2]) 3 hf41 rfl rfl rfl rfl rfl sz_22 rfl rfl hI14 rfl rfl fun wd9 hI15 => ?_)
    have hI16 : Inv w [(b1, #[.int .u32 x0, .int .u32 x1, .int .u32 x2], 47), (b2, #[.int .i64 w0, .int .i64 w1, .int .i64 w2, .int .i64 d0, .int .i64 d1, .int .i64 d2, .int .i64 j], 58), (b3, #[.bool g0, .bool g1, .bool g2], 33), (b4, #[.int .i64 d0, .int .i64 d1, .int .i64 d2], 22)] wd9 := hI15
    refine seq_end ?_
    clear ac37 hf38 ac38 wd6 hI11 hf39 ac39 wd7 hI12 hf40 hI13 wd8 hI14 hI15
    refine then_normal ?_
    refine code_seq ?_
    refine seq_start (l := [0, 1, 2, 3, 4, 5, 6, 7]) rfl ?_
    refine seq_one (op_val (v := .pointer (some ⟨b2, 0, none⟩)) hf41 rfl rfl rfl rfl rfl rfl (r_move rfl) fun ac41 hf42 => ?_)
    refine seq_one (op_val (v := .agg #[.bool g0, .bool g1, .bool g2]) hf42 rfl rfl rfl rfl rfl rfl (r_loadW ag_33 sz_33 rfl (hI16.at 2 rfl) rfl) fun ac42 hf43 => ?_)
    refine seq_one (op_call (R := fun v w' => v = (.tuple #[.int .i64 (pickN g0 g1 g2 w0 w1 w2 ⟨d0, d1, d2, j⟩), .bool (g0 || g1 || g2)]) ∧ Inv _ [(b2, #[.int .i64 w0, .int .i64 w1, .int .i64 w2, .int .i64 (((pickS g0 g1 g2 w0 w1 w2 ⟨d0, d1, d2, j⟩ : St)).c0), .int .i64 (((pickS g0 g1 g2 w0 w1 w2 ⟨d0, d1, d2, j⟩ : St)).c1), .int .i64 (((pickS g0 g1 g2 w0 w1 w2 ⟨d0, d1, d2, j⟩ : St)).c2), .int .i64 (((pickS g0 g1 g2 w0 w1 w2 ⟨d0, d1, d2, j⟩ : St)).now)], 58)] w') hf43 rfl rfl rfl rfl ca_12 ((pick_walk w0 w1 w2 d0 d1 d2 j g0 g1 g2 hd.v.ne hd.v hx1.2 b2 _ (Has.cons (hI16.at 1 rfl) Has.nil)).mono fun _ _ h => ⟨_, h.1, rfl, h.2⟩) fun ac43 v wd10 hR hf44 => ?_)
    obtain ⟨rfl, hR⟩ := hR
    obtain ⟨a_5, b_5, c_5, d_5, he5⟩ : ∃ a b c d, (pickS g0 g1 g2 w0 w1 w2 ⟨d0, d1, d2, j⟩ : St) = ⟨a, b, c, d⟩ := ⟨_, _, _, _, rfl⟩
    rw [he5] at hR
    dsimp only at hR
    have ho5 : Ok w0 w1 w2 ⟨a_5, b_5, c_5, d_5⟩ := by rw [← he5]; exact (pickS_ok hd.v hx1.2)
    have hI17 : Inv w [(b1, #[.int .u32 x0, .int .u32 x1, .int .u32 x2], 47), (b2, #[.int .i64 w0, .int .i64 w1, .int .i64 w2, .int .i64 a_5, .int .i64 b_5, .int .i64 c_5, .int .i64 d_5], 58), (b3, #[.bool g0, .bool g1, .bool g2], 33), (b4, #[.int .i64 d0, .int .i64 d1, .int .i64 d2], 22)] _ := Inv.callS (A := [(b1, #[.int .u32 x0, .int .u32 x1, .int .u32 x2], 47)]) (S := [(b2, #[.int .i64 w0, .int .i64 w1, .int .i64 w2, .int .i64 d0, .int .i64 d1, .int .i64 d2, .int .i64 j], 58)]) (S' := [(b2, #[.int .i64 w0, .int .i64 w1, .int .i64 w2, .int .i64 a_5, .int .i64 b_5, .int .i64 c_5, .int .i64 d_5], 58)]) (L := [(b3, #[.bool g0, .bool g1, .bool g2], 33), (b4, #[.int .i64 d0, .int .i64 d1, .int .i64 d2], 22)]) (N := []) hI16 hR rfl (fun _ h => by cases h)
    have hk5 : Picked g0 g1 g2 w0 w1 w2 a_5 b_5 c_5 d_5 := picked hd.v hx1.2 ha he5
    have hf45 := hf44.know 53 (u := .tuple #[.int .i64 d_5, .bool true]) rfl (pick_val ha he5)
    have hmo5 := pick_mono (h0 := g0) (h1 := g1) (h2 := g2) hd.v hx1.2
    rw [he5] at hmo5
    refine seq_one (op_val (v := .tuple #[.int .i64 d_5, .bool true]) hf45 rfl rfl rfl rfl rfl rfl (r_move rfl) fun ac44 hf46 => ?_)
    refine seq_one (op_val (v := .int .i64 d_5) hf46 rfl rfl rfl rfl rfl rfl (r_extract rfl rfl) fun ac45 hf47 => ?_)
    refine seq_one (op_val (v := .bool true) hf47 rfl rfl rfl rfl rfl rfl (r_extract rfl rfl) fun ac46 hf48 => ?_)
    refine seq_one (op_val (v := .int .i64 d_5) hf48 rfl rfl rfl rfl rfl rfl (r_assign rfl) fun ac47 hf49 => ?_)
    refine seq_one (op_val (v := .bool true) hf49 rfl rfl rfl rfl rfl rfl (r_assign rfl) fun ac48 hf50 => ?_)
    refine seq_end ?_
    clear ac40 hf41 ac41 hf42 ac42 wd9 hf43 hI16 hR hf44 ac43 hf45 ac44 hf46 ac45 hf47 ac46 hf48 ac47 hf49
    refine then_normal ?_
    refine code_seq ?_
    refine seq_start (l := [0]) rfl ?_
    refine seq_one (op_val (v := .int .i64 1) hf50 rfl rfl rfl rfl rfl rfl (r_assign rfl) fun ac49 hf51 => ?_)
    refine seq_end ?_
    clear ac48 hf50
    refine then_normal ?_
    refine code_seq ?_
    refine code_seq ?_
    refine seq_start (l := [0, 1, 2]) rfl ?_
    refine seq_one (op_val (v := .slice q ys.length caq) hf51 rfl rfl rfl rfl rfl rfl (r_move rfl) fun ac50 hf52 => ?_)
    refine seq_one (op_val (v := .int .i64 (ys.length : Int)) hf52 rfl rfl rfl rfl rfl rfl (r_len sl_48 rfl) fun ac51 hf53 => ?_)
    refine seq_one (op_val (v := .bool (decide ((ys.length : Int) > 0))) hf53 rfl rfl rfl rfl rfl rfl (r_gtr rfl rfl) fun ac52 hf54 => ?_)
    refine seq_end ?_
    clear ac49 hf51 ac50 hf52 ac51 hf53
    refine then_normal ?_
    refine code_joinG 126 ((Int)) (fun (m : Int) => [(0, .agg #[.int .u32 x0, .int .u32 x1, .int .u32 x2]), (1, .slice p L cap), (2, .int .u8 wh), (3, .slice q ys.length caq), (4, .pointer (some ⟨b1, 0, none⟩)), (9, .pointer (some ⟨b2, 0, none⟩)), (10, .bool true), (11, .pointer (some ⟨b3, 0, none⟩)), (12, .bool ((wh.tmod 3) == ((wh.tdiv 3).tmod 3))), (13, .int .i64 (i : Int)), (14, .pointer (some ⟨b4, 0, none⟩)), (15, .int .i64 d_5), (16, .bool true), (20, .tuple #[.pointer (some ⟨b2, 0, none⟩), .bool true]), (21, .agg #[.int .u32 x0, .int .u32 x1, .int .u32 x2]), (22, .slice p L cap), (23, .tuple #[.pointer (some ⟨b2, 0, none⟩), .bool true]), (24, .pointer (some ⟨b2, 0, none⟩)), (25, .bool true), (26, .bool true), (27, .bool false), (28, .int .u8 wh), (29, .int .i64 wh), (30, .int .i64 (wh.tmod 3)), (31, .int .u8 wh), (32, .int .i64 wh), (33, .int .i64 (wh.tdiv 3)), (34, .int .i64 ((wh.tdiv 3).tmod 3)), (35, .pointer (some ⟨b3, 0 + (wh.tmod 3).toNat, none⟩)), (36, .pointer (some ⟨b3, 0 + ((wh.tdiv 3).tmod 3).toNat, none⟩)), (37, .int .u8 wh), (38, .int .i64 wh), (39, .int .i64 (wh.tmod 3)), (40, .int .u8 wh), (41, .int .i64 wh), (42, .int .i64 (wh.tdiv 3)), (43, .int .i64 ((wh.tdiv 3).tmod 3)), (44, .bool ((wh.tmod 3) == ((wh.tdiv 3).tmod 3))), (45, .int .i64 (i : Int)), (46, .bool true), (47, .int .i64 (i : Int)), (48, .pointer (some ⟨b2, 0, none⟩)), (49, .agg #[.int .i64 d0, .int .i64 d1, .int .i64 d2]), (50, .tuple #[.int .i64 d_5, .bool true]), (51, .pointer (some ⟨b2, 0, none⟩)), (52, .agg #[.bool g0, .bool g1, .bool g2]), (53, .tuple #[.int .i64 d_5, .bool true]), (54, .int .i64 d_5), (55, .bool true), (56, .slice q ys.length caq), (57, .int .i64 (ys.length : Int)), (17, .int .i64 m)]) (fun (m : Int) => fun w' => Inv w [(b1, #[.int .u32 x0, .int .u32 x1, .int .u32 x2], 47), (b2, #[.int .i64 w0, .int .i64 w1, .int .i64 w2, .int .i64 a_5, .int .i64 b_5, .int .i64 c_5, .int .i64 d_5], 58), (b3, #[.bool g0, .bool g1, .bool g2], 33), (b4, #[.int .i64 d0, .int .i64 d1, .int .i64 d2], 22)] w' ∧ (1 ≤ m ∧ m ≤ 65536)) ?_ ?_
    ·
      refine code_if hf54 rfl (fun c58_2 => ?_) (fun c58_2 => ?_)
      · have hf55 := hf54.know 58 (u := .bool true) rfl (congrArg Value.bool c58_2)
        refine seq_start (l := [0, 1, 2, 3, 4, 5, 6, 7, 8, 9, 10]) rfl ?_
        refine seq_one (op_val (v := .int .i64 1) hf55 rfl rfl rfl rfl rfl rfl (r_move rfl) fun ac53 hf56 => ?_)
        refine seq_one (op_val (v := .slice q ys.length caq) hf56 rfl rfl rfl rfl rfl rfl (r_move rfl) fun ac54 hf57 => ?_)
        refine seq_one (op_val (v := .int .i64 (i : Int)) hf57 rfl rfl rfl rfl rfl rfl (r_move rfl) fun ac55 hf58 => ?_)
        refine seq_one (op_val (v := .slice q ys.length caq) hf58 rfl rfl rfl rfl rfl rfl (r_move rfl) fun ac56 hf59 => ?_)
        refine seq_one (op_val (v := .int .i64 (ys.length : Int)) hf59 rfl rfl rfl rfl rfl rfl (r_len sl_48 rfl) fun ac57 hf60 => ?_)
        have hl0 : 0 < ys.length := by have := of_decide_eq_true c58_2; omega
        have hl1 : (ys.length : Int) ≠ 0 := by omega
        have hl2 := Nat.mod_lt i hl0
        have hl3 := bounds_u16 (hy.getD hl2)
        have hl4 : i < 40 := by have := of_decide_eq_true c46_1; omega
        refine seq_one (op_val (v := .int .i64 ((i % ys.length : Nat) : Int)) hf60 rfl rfl rfl rfl rfl rfl (r_rem (c := ((i % ys.length : Nat) : Int)) rfl rfl (by omega) idx_mod) fun ac58 hf61 => ?_)
        refine seq_one (op_val (v := .pointer (slAt q (i % ys.length))) hf61 rfl rfl rfl rfl rfl rfl (r_indexAddrV (i := (i % ys.length)) sl_48 rfl rfl rfl hl2 (let r := (hq.old hI17 (fresh_keys (ks := [b1, b2, b3, b4]) rfl (fk_cons hb1 (fk_cons hb2 (fk_cons hb3 (fk_cons hb4 fk_nil)))))) (i % ys.length) hl2; ⟨r.choose, r.choose_spec.1⟩)) fun ac59 hf62 => ?_)
        refine seq_one (op_val (v := .int .u16 (ys.getD (i % ys.length) 0)) hf62 rfl rfl rfl rfl rfl rfl (r_loadV ag_52 rfl (hq.old hI17 (fresh_keys (ks := [b1, b2, b3, b4]) rfl (fk_cons hb1 (fk_cons hb2 (fk_cons hb3 (fk_cons hb4 fk_nil)))))) hl2) fun ac60 hf63 => ?_)
        refine seq_one (op_val (v := .int .i64 (ys.getD (i % ys.length) 0)) hf63 rfl rfl rfl rfl rfl rfl (r_conv (c := (ys.getD (i % ys.length) 0)) ui_52 ui_3 rfl (wrap_i64 (by omega) (by omega))) fun ac61 hf64 => ?_)
        refine seq_one (op_val (v := .int .i64 (1 + ys.getD (i % ys.length) 0)) hf64 rfl rfl rfl rfl rfl rfl (r_add (c := (1 + ys.getD (i % ys.length) 0)) rfl rfl (wrap_i64 (by omega) (by omega))) fun ac62 hf65 => ?_)
        refine seq_one (op_val (v := .int .i64 (1 + ys.getD (i % ys.length) 0)) hf65 rfl rfl rfl rfl rfl rfl (r_assign rfl) fun ac63 hf66 => ?_)
        refine seq_end ?_
        clear hf54 ac52 hf55 ac53 hf56 ac54 hf57 ac55 hf58 ac56 hf59 ac57 hf60 ac58 hf61 ac59 hf62 ac60 hf63 ac61 hf64 ac62 hf65
        refine then_normal ?_
        exact ⟨((1 + ys.getD (i % ys.length) 0)), (hf66.cons 0 rfl (hf66.cons 1 rfl (hf66.cons 2 rfl (hf66.cons 3 rfl (hf66.cons 4 rfl (hf66.cons 9 rfl (hf66.cons 10 rfl (hf66.cons 11 rfl (hf66.cons 12 rfl (hf66.cons 13 rfl (hf66.cons 14 rfl (hf66.cons 15 rfl (hf66.cons 16 rfl (hf66.cons 20 rfl (hf66.cons 21 rfl (hf66.cons 22 rfl (hf66.cons 23 rfl (hf66.cons 24 rfl (hf66.cons 25 rfl (hf66.cons 26 rfl (hf66.cons 27 rfl (hf66.cons 28 rfl (hf66.cons 29 rfl (hf66.cons 30 rfl (hf66.cons 31 rfl (hf66.cons 32 rfl (hf66.cons 33 rfl (hf66.cons 34 rfl (hf66.cons 35 rfl (hf66.cons 36 rfl (hf66.cons 37 rfl (hf66.cons 38 rfl (hf66.cons 39 rfl (hf66.cons 40 rfl (hf66.cons 41 rfl (hf66.cons 42 rfl (hf66.cons 43 rfl (hf66.cons 44 rfl (hf66.cons 45 rfl (hf66.cons 46 rfl (hf66.cons 47 rfl (hf66.cons 48 rfl (hf66.cons 49 rfl (hf66.cons 50 rfl (hf66.cons 51 rfl (hf66.cons 52 rfl (hf66.cons 53 rfl (hf66.cons 54 rfl (hf66.cons 55 rfl (hf66.cons 56 rfl (hf66.cons 57 rfl (hf66.cons 17 rfl hf66.nil)))))))))))))))))))))))))))))))))))))))))))))))))))), ⟨hI17, ⟨by omega, by omega⟩⟩⟩
      · have hf67 := hf54.know 58 (u := .bool false) rfl (congrArg Value.bool c58_2)
        refine wp_skip ?_
        refine then_normal ?_
        clear hf54
        exact ⟨(1), (hf67.cons 0 rfl (hf67.cons 1 rfl (hf67.cons 2 rfl (hf67.cons 3 rfl (hf67.cons 4 rfl (hf67.cons 9 rfl (hf67.cons 10 rfl (hf67.cons 11 rfl (hf67.cons 12 rfl (hf67.cons 13 rfl (hf67.cons 14 rfl (hf67.cons 15 rfl (hf67.cons 16 rfl (hf67.cons 20 rfl (hf67.cons 21 rfl (hf67.cons 22 rfl (hf67.cons 23 rfl (hf67.cons 24 rfl (hf67.cons 25 rfl (hf67.cons 26 rfl (hf67.cons 27 rfl (hf67.cons 28 rfl (hf67.cons 29 rfl (hf67.cons 30 rfl (hf67.cons 31 rfl (hf67.cons 32 rfl (hf67.cons 33 rfl (hf67.cons 34 rfl (hf67.cons 35 rfl (hf67.cons 36 rfl (hf67.cons 37 rfl (hf67.cons 38 rfl (hf67.cons 39 rfl (hf67.cons 40 rfl (hf67.cons 41 rfl (hf67.cons 42 rfl (hf67.cons 43 rfl (hf67.cons 44 rfl (hf67.cons 45 rfl (hf67.cons 46 rfl (hf67.cons 47 rfl (hf67.cons 48 rfl (hf67.cons 49 rfl (hf67.cons 50 rfl (hf67.cons 51 rfl (hf67.cons 52 rfl (hf67.cons 53 rfl (hf67.cons 54 rfl (hf67.cons 55 rfl (hf67.cons 56 rfl (hf67.cons 57 rfl (hf67.cons 17 rfl hf67.nil)))))))))))))))))))))))))))))))))))))))))))))))))))), ⟨hI17, ⟨by decide, by decide⟩⟩⟩
    ·
      intro m ac64 wd11 hf68 ⟨hI18, hj18⟩
      clear ac52 wd10 hf54 hI17
      have hm := hj18
      refine then_normal ?_
      refine code_seq ?_
      refine code_seq ?_
      refine seq_start (l := [0, 1, 2, 3, 4, 5, 6, 7, 8, 9, 10, 11, 12, 13, 14, 15, 16, 17, 18, 19, 20, 21, 22, 23, 24, 25]) rfl ?_
      refine seq_one (op_val (v := .bool true) hf68 rfl rfl rfl rfl rfl rfl (r_move rfl) fun ac65 hf69 => ?_)
      refine seq_one (op_val (v := .bool false) hf69 rfl rfl rfl rfl rfl rfl ((r_not (b := true) rfl).trans rfl) fun ac66 hf70 => ?_)
      refine seq_one (op_val (v := .bool false) hf70 rfl rfl rfl rfl rfl rfl (r_move rfl) fun ac67 hf71 => ?_)
      refine seq_one (op_val (v := .int .i64 d_5) hf71 rfl rfl rfl rfl rfl rfl (r_move rfl) fun ac68 hf72 => ?_)
      refine seq_one (op_val (v := .bool (decide (d_5 < 0))) hf72 rfl rfl rfl rfl rfl rfl (r_lss rfl rfl) fun ac69 hf73 => ?_)
      refine seq_one (op_val (v := .bool (decide (d_5 < 0))) hf73 rfl rfl rfl rfl rfl rfl (r_pickF rfl rfl) fun ac70 hf74 => ?_)
      refine seq_one (op_val (v := .bool (decide (d_5 < 0))) hf74 rfl rfl rfl rfl rfl rfl (r_move rfl) fun ac71 hf75 => ?_)
      have hf76 := hf75.know 75 (u := .bool false) rfl (congrArg Value.bool (decide_eq_false (by have := hk5.now; omega)))
      refine seq_one (op_val (v := .int .i64 d_5) hf76 rfl rfl rfl rfl rfl rfl (r_move rfl) fun ac72 hf77 => ?_)
      refine seq_one (op_val (v := .bool (decide (d_5 > 2))) hf77 rfl rfl rfl rfl rfl rfl (r_gtr rfl rfl) fun ac73 hf78 => ?_)
      refine seq_one (op_val (v := .bool (decide (d_5 > 2))) hf78 rfl rfl rfl rfl rfl rfl (r_pickF rfl rfl) fun ac74 hf79 => ?_)
      refine seq_one (op_val (v := .bool (decide (d_5 > 2))) hf79 rfl rfl rfl rfl rfl rfl (r_move rfl) fun ac75 hf80 => ?_)
      have hf81 := hf80.know 79 (u := .bool false) rfl (congrArg Value.bool (decide_eq_false (by have := hk5.now; omega)))
      refine seq_one (op_val (v := .int .i64 d_5) hf81 rfl rfl rfl rfl rfl rfl (r_move rfl) fun ac76 hf82 => ?_)
      refine seq_one (op_val (v := .pointer (some ⟨b3, 0 + d_5.toNat, none⟩)) hf82 rfl rfl rfl rfl rfl rfl (r_indexAddr (i := d_5.toNat) ar_33 rfl rfl (idx3 hk5.now).1 (idx3 hk5.now).2 (by rw [Nat.mul_one])) fun ac77 hf83 => ?_)
      refine seq_one (op_val (v := .bool (hasN g0 g1 g2 d_5)) hf83 rfl rfl rfl rfl rfl rfl (r_load ag_4 rfl (hI18.at 2 rfl) (by rcases hk5.now with h | h | h <;> rw [h] <;> rfl)) fun ac78 hf84 => ?_)
      refine seq_one (op_val (v := .bool (!(hasN g0 g1 g2 d_5))) hf84 rfl rfl rfl rfl rfl rfl (r_not rfl) fun ac79 hf85 => ?_)
      refine seq_one (op_val (v := .bool (!(hasN g0 g1 g2 d_5))) hf85 rfl rfl rfl rfl rfl rfl (r_pickF rfl rfl) fun ac80 hf86 => ?_)
      refine seq_one (op_val (v := .bool (!(hasN g0 g1 g2 d_5))) hf86 rfl rfl rfl rfl rfl rfl (r_move rfl) fun ac81 hf87 => ?_)
      have hf88 := hf87.know 85 (u := .bool false) rfl (congrArg Value.bool (by rw [hk5.has]; rfl))
      refine seq_one (op_val (v := .bool ((wh.tmod 3) == ((wh.tdiv 3).tmod 3))) hf88 rfl rfl rfl rfl rfl rfl (r_move rfl) fun ac82 hf89 => ?_)
      refine seq_one (op_val (v := .bool ((wh.tmod 3) == ((wh.tdiv 3).tmod 3))) hf89 rfl rfl rfl rfl rfl rfl (r_move rfl) fun ac83 hf90 => ?_)
      rcases Bool.eq_false_or_eq_true ((wh.tmod 3) == ((wh.tdiv 3).tmod 3) : Bool) with g87_3 | g87_3
      · have hf91 := hf90.know 87 (u := .bool true) rfl (congrArg Value.bool g87_3)
        refine seq_one (op_val (v := .int .i64 d_5) hf91 rfl rfl rfl rfl rfl rfl (r_move rfl) fun ac84 hf92 => ?_)
        refine seq_one (op_val (v := .int .u8 wh) hf92 rfl rfl rfl rfl rfl rfl (r_move rfl) fun ac85 hf93 => ?_)
        refine seq_one (op_val (v := .int .i64 wh) hf93 rfl rfl rfl rfl rfl rfl (r_conv (c := wh) ui_5 ui_3 rfl (wrap_i64 (by omega) (by omega))) fun ac86 hf94 => ?_)
        refine seq_one (op_val (v := .int .i64 (wh.tmod 3)) hf94 rfl rfl rfl rfl rfl rfl (r_rem (c := (wh.tmod 3)) rfl rfl (by omega) rfl) fun ac87 hf95 => ?_)
        refine seq_one (op_val (v := .bool (d_5 != (wh.tmod 3))) hf95 rfl rfl rfl rfl rfl rfl (r_neq rfl rfl) fun ac88 hf96 => ?_)
        refine seq_one (op_val (v := .bool (d_5 != (wh.tmod 3))) hf96 rfl rfl rfl rfl rfl rfl (r_pickT rfl rfl) fun ac89 hf97 => ?_)
        refine seq_one (op_val (v := .bool (d_5 != (wh.tmod 3))) hf97 rfl rfl rfl rfl rfl rfl (r_pickF rfl rfl) fun ac90 hf98 => ?_)
        refine seq_end ?_
        clear ac64 hf68 ac65 hf69 ac66 hf70 ac67 hf71 ac68 hf72 ac69 hf73 ac70 hf74 hf75 ac71 hf76 ac72 hf77 ac73 hf78 ac74 hf79 hf80 ac75 hf81 ac76 hf82 ac77 hf83 ac78 hf84 ac79 hf85 ac80 hf86 hf87 ac81 hf88 ac82 hf89 hf90 ac83 hf91 ac84 hf92 ac85 hf93 ac86 hf94 ac87 hf95 ac88 hf96 ac89 hf97
        refine then_normal ?_
        have hf99 := hf98.know 94 (u := .bool false) rfl (congrArg Value.bool (by rcases hT _ hk5.now hk5.has with h | h <;> rw [h] <;> first | exact bne_self_eq_false _ | exact bne_eq_false_iff_eq.2 (beq_iff_eq.1 g87_3).symm))
        refine code_if_false hf99 rfl ?_
        refine wp_skip ?_
        refine then_normal ?_
        refine code_seq ?_
        refine seq_start (l := [0, 1, 2, 3]) rfl ?_
        refine seq_one (op_val (v := .pointer (some ⟨b2, 0, none⟩)) hf99 rfl rfl rfl rfl rfl rfl (r_move rfl) fun ac91 hf100 => ?_)
        refine seq_one (op_pureW hf100 rfl rfl rfl rfl ca_17 (credits_walk w0 w1 w2 a_5 b_5 c_5 d_5 hd.v.ne b2 _ (Has.cons (hI18.at 1 rfl) Has.nil)) hI18 fun ac92 wd12 hI19 hf101 => ?_)
        refine seq_one (op_alloc hf101 rfl rfl rfl ze_22 hI19 fun ac93 b6 wd13 hb6 hI20 hf102 => ?_)
        have hI21 : Inv w [(b1, #[.int .u32 x0, .int .u32 x1, .int .u32 x2], 47), (b2, #[.int .i64 w0, .int .i64 w1, .int .i64 w2, .int .i64 a_5, .int .i64 b_5, .int .i64 c_5, .int .i64 d_5], 58), (b3, #[.bool g0, .bool g1, .bool g2], 33), (b4, #[.int .i64 d0, .int .i64 d1, .int .i64 d2], 22), (b6, #[.int .i64 0, .int .i64 0, .int .i64 0], 22)] wd13 := hI20
        refine seq_one (op_storeW (cells := #[.int .i64 a_5, .int .i64 b_5, .int .i64 c_5]) 4 hf102 rfl rfl rfl rfl rfl sz_22 rfl rfl hI21 rfl rfl fun wd14 hI22 => ?_)
        have hI23 : Inv w [(b1, #[.int .u32 x0, .int .u32 x1, .int .u32 x2], 47), (b2, #[.int .i64 w0, .int .i64 w1, .int .i64 w2, .int .i64 a_5, .int .i64 b_5, .int .i64 c_5, .int .i64 d_5], 58), (b3, #[.bool g0, .bool g1, .bool g2], 33), (b4, #[.int .i64 d0, .int .i64 d1, .int .i64 d2], 22), (b6, #[.int .i64 a_5, .int .i64 b_5, .int .i64 c_5], 22)] wd14 := hI22
        refine seq_end ?_
        clear hf98 ac90 hf99 ac91 wd11 hI18 hf100 ac92 wd12 hI19 hf101 hI20 wd13 hI21 hI22
        refine then_normal ?_
        refine code_seq ?_
        refine code_seq ?_
        refine seq_start (l := [0]) rfl ?_
        refine seq_one (op_val (v := .int .i64 0) hf102 rfl rfl rfl rfl rfl rfl (r_move rfl) fun ac94 hf103 => ?_)
        refine seq_end ?_
        clear ac93 hf102
        refine then_normal ?_
        refine wp_block ?_
        refine wp_loop_rounds 4 ?_
        refine rounds_go ?_
        refine code_seq ?_
        refine seq_start (l := [0]) rfl ?_
        refine seq_one (op_val (v := .bool true) hf103 rfl rfl rfl rfl rfl rfl (r_lssC rfl rfl (by decide)) fun ac95 hf104 => ?_)
        refine seq_end ?_
        clear ac94 hf103
        refine then_normal ?_
        refine code_seq ?_
        refine code_if_true hf104 rfl ?_
        refine wp_skip ?_
        refine then_normal ?_
        refine code_seq ?_
        refine wp_block ?_
        refine code_seq ?_
        refine seq_start (l := [0, 1]) rfl ?_
        refine seq_one (op_val (v := .int .i64 0) hf104 rfl rfl rfl rfl rfl rfl (r_move rfl) fun ac96 hf105 => ?_)
        refine seq_one (op_val (v := .int .i64 0) hf105 rfl rfl rfl rfl rfl rfl (r_assign rfl) fun ac97 hf106 => ?_)
        refine seq_end ?_
        clear ac95 hf104 ac96 hf105
        refine then_normal ?_
        refine code_seq ?_
        refine any_start (fun w => Has [(b4, #[.int .i64 d0, .int .i64 d1, .int .i64 d2], 22), (b6, #[.int .i64 a_5, .int .i64 b_5, .int .i64 c_5], 22)] w) follows (Has.drew (Has.cons (hI23.at 3 rfl) (Has.cons (hI23.at 4 rfl) Has.nil))) ?_
        have hS1 : Has [(b4, #[.int .i64 d0, .int .i64 d1, .int .i64 d2], 22), (b6, #[.int .i64 a_5, .int .i64 b_5, .int .i64 c_5], 22)] _ := Has.drew (Has.cons (hI23.at 3 rfl) (Has.cons (hI23.at 4 rfl) Has.nil))
        have hI24 := hI23.drew
        refine any_val (i := 0) (v := .int .i64 0) hf106 rfl rfl rfl rfl rfl rfl (fun _ _ _ h => h) (by kernel_rfl) (by kernel_rfl) (by kernel_rfl) (fun wd14 hS1 => (r_move rfl)) hS1 fun ac98 hf107 => ?_
        refine any_val (i := 1) (v := .pointer (some ⟨b6, 0, none⟩)) hf107 rfl rfl rfl rfl rfl rfl (fun _ _ _ h => h) (by kernel_rfl) (by kernel_rfl) (by kernel_rfl) (fun wd14 hS1 => (r_indexAddr (i := 0) ar_22 rfl rfl rfl (by decide) rfl)) hS1 fun ac99 hf108 => ?_
        refine any_val (i := 2) (v := .int .i64 a_5) hf108 rfl rfl rfl rfl rfl rfl (fun _ _ _ h => h) (by kernel_rfl) (by kernel_rfl) (by kernel_rfl) (fun wd14 hS1 => (r_load ag_3 rfl (hS1.at 1 rfl) rfl)) hS1 fun ac100 hf109 => ?_
        refine any_val (i := 3) (v := .int .i64 0) hf109 rfl rfl rfl rfl rfl rfl (fun _ _ _ h => h) (by kernel_rfl) (by kernel_rfl) (by kernel_rfl) (fun wd14 hS1 => (r_move rfl)) hS1 fun ac101 hf110 => ?_
        refine any_val (i := 4) (v := .pointer (some ⟨b4, 0, none⟩)) hf110 rfl rfl rfl rfl rfl rfl (fun _ _ _ h => h) (by kernel_rfl) (by kernel_rfl) (by kernel_rfl) (fun wd14 hS1 => (r_indexAddr (i := 0) ar_22 rfl rfl rfl (by decide) rfl)) hS1 fun ac102 hf111 => ?_
        refine any_val (i := 5) (v := .int .i64 d0) hf111 rfl rfl rfl rfl rfl rfl (fun _ _ _ h => h) (by kernel_rfl) (by kernel_rfl) (by kernel_rfl) (fun wd14 hS1 => (r_load ag_3 rfl (hS1.at 0 rfl) rfl)) hS1 fun ac103 hf112 => ?_
        refine any_val (i := 6) (v := .bool (decide (a_5 < d0))) hf112 rfl rfl rfl rfl rfl rfl (fun _ _ _ h => h) (by kernel_rfl) (by kernel_rfl) (by kernel_rfl) (fun wd14 hS1 => (r_lss rfl rfl)) hS1 fun ac104 hf113 => ?_
        refine any_end (by kernel_rfl) ?_
        clear hI23 ac97 hf106 ac98 hf107 ac99 hf108 ac100 hf109 ac101 hf110 ac102 hf111 ac103 hf112 hS1
        refine then_normal ?_
        have hf114 := hf113.know 106 (u := .bool false) rfl (congrArg Value.bool (decide_eq_false (Int.not_lt.2 (hmo5.1))))
        refine code_if_false hf114 rfl ?_
        refine wp_skip ?_
        refine block_normal ?_
        refine then_normal ?_
        refine seq_start (l := [0, 1]) rfl ?_
        refine seq_one (op_val (v := .int .i64 1) hf114 rfl rfl rfl rfl rfl rfl (r_add (c := 1) rfl rfl (by rfl)) fun ac105 hf115 => ?_)
        refine seq_one (op_val (v := .int .i64 1) hf115 rfl rfl rfl rfl rfl rfl (r_move rfl) fun ac106 hf116 => ?_)
        refine seq_end ?_
        clear hf113 ac104 hf114 ac105 hf115
        refine then_normal ?_
        refine rounds_go ?_
        refine code_seq ?_
        refine seq_start (l := [0]) rfl ?_
        refine seq_one (op_val (v := .bool true) hf116 rfl rfl rfl rfl rfl rfl (r_lssC rfl rfl (by decide)) fun ac107 hf117 => ?_)
        refine seq_end ?_
        clear ac106 hf116
        refine then_normal ?_
        refine code_seq ?_
        refine code_if_true hf117 rfl ?_
        refine wp_skip ?_
        refine then_normal ?_
        refine code_seq ?_
        refine wp_block ?_
        refine code_seq ?_
        refine seq_start (l := [0, 1]) rfl ?_
        refine seq_one (op_val (v := .int .i64 1) hf117 rfl rfl rfl rfl rfl rfl (r_move rfl) fun ac108 hf118 => ?_)
        refine seq_one (op_val (v := .int .i64 1) hf118 rfl rfl rfl rfl rfl rfl (r_assign rfl) fun ac109 hf119 => ?_)
        refine seq_end ?_
        clear ac107 hf117 ac108 hf118
        refine then_normal ?_
        refine code_seq ?_
        refine any_start (fun w => Has [(b4, #[.int .i64 d0, .int .i64 d1, .int .i64 d2], 22), (b6, #[.int .i64 a_5, .int .i64 b_5, .int .i64 c_5], 22)] w) follows (Has.drew (Has.cons (hI24.at 3 rfl) (Has.cons (hI24.at 4 rfl) Has.nil))) ?_
        have hS2 : Has [(b4, #[.int .i64 d0, .int .i64 d1, .int .i64 d2], 22), (b6, #[.int .i64 a_5, .int .i64 b_5, .int .i64 c_5], 22)] _ := Has.drew (Has.cons (hI24.at 3 rfl) (Has.cons (hI24.at 4 rfl) Has.nil))
        have hI25 := hI24.drew
        refine any_val (i := 0) (v := .int .i64 1) hf119 rfl rfl rfl rfl rfl rfl (fun _ _ _ h => h) (by kernel_rfl) (by kernel_rfl) (by kernel_rfl) (fun wd14 hS2 => (r_move rfl)) hS2 fun ac110 hf120 => ?_
        refine any_val (i := 1) (v := .pointer (some ⟨b6, 1, none⟩)) hf120 rfl rfl rfl rfl rfl rfl (fun _ _ _ h => h) (by kernel_rfl) (by kernel_rfl) (by kernel_rfl) (fun wd14 hS2 => (r_indexAddr (i := 1) ar_22 rfl rfl rfl (by decide) rfl)) hS2 fun ac111 hf121 => ?_
        refine any_val (i := 2) (v := .int .i64 b_5) hf121 rfl rfl rfl rfl rfl rfl (fun _ _ _ h => h) (by kernel_rfl) (by kernel_rfl) (by kernel_rfl) (fun wd14 hS2 => (r_load ag_3 rfl (hS2.at 1 rfl) rfl)) hS2 fun ac112 hf122 => ?_
        refine any_val (i := 3) (v := .int .i64 1) hf122 rfl rfl rfl rfl rfl rfl (fun _ _ _ h => h) (by kernel_rfl) (by kernel_rfl) (by kernel_rfl) (fun wd14 hS2 => (r_move rfl)) hS2 fun ac113 hf123 => ?_
        refine any_val (i := 4) (v := .pointer (some ⟨b4, 1, none⟩)) hf123 rfl rfl rfl rfl rfl rfl (fun _ _ _ h => h) (by kernel_rfl) (by kernel_rfl) (by kernel_rfl) (fun wd14 hS2 => (r_indexAddr (i := 1) ar_22 rfl rfl rfl (by decide) rfl)) hS2 fun ac114 hf124 => ?_
        refine any_val (i := 5) (v := .int .i64 d1) hf124 rfl rfl rfl rfl rfl rfl (fun _ _ _ h => h) (by kernel_rfl) (by kernel_rfl) (by kernel_rfl) (fun wd14 hS2 => (r_load ag_3 rfl (hS2.at 0 rfl) rfl)) hS2 fun ac115 hf125 => ?_
        refine any_val (i := 6) (v := .bool (decide (b_5 < d1))) hf125 rfl rfl rfl rfl rfl rfl (fun _ _ _ h => h) (by kernel_rfl) (by kernel_rfl) (by kernel_rfl) (fun wd14 hS2 => (r_lss rfl rfl)) hS2 fun ac116 hf126 => ?_
        refine any_end (by kernel_rfl) ?_
        clear hI24 ac109 hf119 ac110 hf120 ac111 hf121 ac112 hf122 ac113 hf123 ac114 hf124 ac115 hf125 hS2
        refine then_normal ?_
        have hf127 := hf126.know 106 (u := .bool false) rfl (congrArg Value.bool (decide_eq_false (Int.not_lt.2 (hmo5.2.1))))
        refine code_if_false hf127 rfl ?_
        refine wp_skip ?_
        refine block_normal ?_
        refine then_normal ?_
        refine seq_start (l := [0, 1]) rfl ?_
        refine seq_one (op_val (v := .int .i64 2) hf127 rfl rfl rfl rfl rfl rfl (r_add (c := 2) rfl rfl (by rfl)) fun ac117 hf128 => ?_)
        refine seq_one (op_val (v := .int .i64 2) hf128 rfl rfl rfl rfl rfl rfl (r_move rfl) fun ac118 hf129 => ?_)
        refine seq_end ?_
        clear hf126 ac116 hf127 ac117 hf128
        refine then_normal ?_
        refine rounds_go ?_
        refine code_seq ?_
        refine seq_start (l := [0]) rfl ?_
        refine seq_one (op_val (v := .bool true) hf129 rfl rfl rfl rfl rfl rfl (r_lssC rfl rfl (by decide)) fun ac119 hf130 => ?_)
        refine seq_end ?_
        clear ac118 hf129
        refine then_normal ?_
        refine code_seq ?_
        refine code_if_true hf130 rfl ?_
        refine wp_skip ?_
        refine then_normal ?_
        refine code_seq ?_
        refine wp_block ?_
        refine code_seq ?_
        refine seq_start (l := [0, 1]) rfl ?_
        refine seq_one (op_val (v := .int .i64 2) hf130 rfl rfl rfl rfl rfl rfl (r_move rfl) fun ac120 hf131 => ?_)
        refine seq_one (op_val (v := .int .i64 2) hf131 rfl rfl rfl rfl rfl rfl (r_assign rfl) fun ac121 hf132 => ?_)
        refine seq_end ?_
        clear ac119 hf130 ac120 hf131
        refine then_normal ?_
        refine code_seq ?_
        refine any_start (fun w => Has [(b4, #[.int .i64 d0, .int .i64 d1, .int .i64 d2], 22), (b6, #[.int .i64 a_5, .int .i64 b_5, .int .i64 c_5], 22)] w) follows (Has.drew (Has.cons (hI25.at 3 rfl) (Has.cons (hI25.at 4 rfl) Has.nil))) ?_
        have hS3 : Has [(b4, #[.int .i64 d0, .int .i64 d1, .int .i64 d2], 22), (b6, #[.int .i64 a_5, .int .i64 b_5, .int .i64 c_5], 22)] _ := Has.drew (Has.cons (hI25.at 3 rfl) (Has.cons (hI25.at 4 rfl) Has.nil))
        have hI26 := hI25.drew
        refine any_val (i := 0) (v := .int .i64 2) hf132 rfl rfl rfl rfl rfl rfl (fun _ _ _ h => h) (by kernel_rfl) (by kernel_rfl) (by kernel_rfl) (fun wd14 hS3 => (r_move rfl)) hS3 fun ac122 hf133 => ?_
        refine any_val (i := 1) (v := .pointer (some ⟨b6, 2, none⟩)) hf133 rfl rfl rfl rfl rfl rfl (fun _ _ _ h => h) (by kernel_rfl) (by kernel_rfl) (by kernel_rfl) (fun wd14 hS3 => (r_indexAddr (i := 2) ar_22 rfl rfl rfl (by decide) rfl)) hS3 fun ac123 hf134 => ?_
        refine any_val (i := 2) (v := .int .i64 c_5) hf134 rfl rfl rfl rfl rfl rfl (fun _ _ _ h => h) (by kernel_rfl) (by kernel_rfl) (by kernel_rfl) (fun wd14 hS3 => (r_load ag_3 rfl (hS3.at 1 rfl) rfl)) hS3 fun ac124 hf135 => ?_
        refine any_val (i := 3) (v := .int .i64 2) hf135 rfl rfl rfl rfl rfl rfl (fun _ _ _ h => h) (by kernel_rfl) (by kernel_rfl) (by kernel_rfl) (fun wd14 hS3 => (r_move rfl)) hS3 fun ac125 hf136 => ?_
        refine any_val (i := 4) (v := .pointer (some ⟨b4, 2, none⟩)) hf136 rfl rfl rfl rfl rfl rfl (fun _ _ _ h => h) (by kernel_rfl) (by kernel_rfl) (by kernel_rfl) (fun wd14 hS3 => (r_indexAddr (i := 2) ar_22 rfl rfl rfl (by decide) rfl)) hS3 fun ac126 hf137 => ?_
        refine any_val (i := 5) (v := .int .i64 d2) hf137 rfl rfl rfl rfl rfl rfl (fun _ _ _ h => h) (by kernel_rfl) (by kernel_rfl) (by kernel_rfl) (fun wd14 hS3 => (r_load ag_3 rfl (hS3.at 0 rfl) rfl)) hS3 fun ac127 hf138 => ?_
        refine any_val (i := 6) (v := .bool (decide (c_5 < d2))) hf138 rfl rfl rfl rfl rfl rfl (fun _ _ _ h => h) (by kernel_rfl) (by kernel_rfl) (by kernel_rfl) (fun wd14 hS3 => (r_lss rfl rfl)) hS3 fun ac128 hf139 => ?_
        refine any_end (by kernel_rfl) ?_
        clear hI25 ac121 hf132 ac122 hf133 ac123 hf134 ac124 hf135 ac125 hf136 ac126 hf137 ac127 hf138 hS3
        refine then_normal ?_
        have hf140 := hf139.know 106 (u := .bool false) rfl (congrArg Value.bool (decide_eq_false (Int.not_lt.2 (hmo5.2.2))))
        refine code_if_false hf140 rfl ?_
        refine wp_skip ?_
        refine block_normal ?_
        refine then_normal ?_
        refine seq_start (l := [0, 1]) rfl ?_
        refine seq_one (op_val (v := .int .i64 3) hf140 rfl rfl rfl rfl rfl rfl (r_add (c := 3) rfl rfl (by rfl)) fun ac129 hf141 => ?_)
        refine seq_one (op_val (v := .int .i64 3) hf141 rfl rfl rfl rfl rfl rfl (r_move rfl) fun ac130 hf142 => ?_)
        refine seq_end ?_
        clear hf139 ac128 hf140 ac129 hf141
        refine then_normal ?_
        refine rounds_go ?_
        refine code_seq ?_
        refine seq_start (l := [0]) rfl ?_
        refine seq_one (op_val (v := .bool false) hf142 rfl rfl rfl rfl rfl rfl (r_lssC rfl rfl (by decide)) fun ac131 hf143 => ?_)
        refine seq_end ?_
        clear ac130 hf142
        refine then_normal ?_
        refine code_seq ?_
        refine code_if_false hf143 rfl ?_
        refine wp_exit ?_
        refine then_exit ?_
        refine then_exit ?_
        refine block_here ?_
        refine then_normal ?_
        refine code_seq ?_
        refine any_start (fun w => Has [(b6, #[.int .i64 a_5, .int .i64 b_5, .int .i64 c_5], 22)] w) follows (Has.drew (Has.cons (hI26.at 4 rfl) Has.nil)) ?_
        have hS4 : Has [(b6, #[.int .i64 a_5, .int .i64 b_5, .int .i64 c_5], 22)] _ := Has.drew (Has.cons (hI26.at 4 rfl) Has.nil)
        have hI27 := hI26.drew
        refine any_val (i := 0) (v := .pointer (some ⟨b2, 0, none⟩)) hf143 rfl rfl rfl rfl rfl rfl (fun _ _ _ h => h) (by kernel_rfl) (by kernel_rfl) (by kernel_rfl) (fun wd14 hS4 => (r_move rfl)) hS4 fun ac132 hf144 => ?_
        refine any_val (i := 1) (v := .int .i64 m) hf144 rfl rfl rfl rfl rfl rfl (fun _ _ _ h => h) (by kernel_rfl) (by kernel_rfl) (by kernel_rfl) (fun wd14 hS4 => (r_move rfl)) hS4 fun ac133 hf145 => ?_
        refine any_one (i := 2) (by kernel_rfl) ?_
        refine (op_call (R := fun v w' => v = (.int .i64 (spE m ⟨a_5, b_5, c_5, d_5⟩)) ∧ Inv _ [(b2, #[.int .i64 w0, .int .i64 w1, .int .i64 w2, .int .i64 (((spS m ⟨a_5, b_5, c_5, d_5⟩ : St)).c0), .int .i64 (((spS m ⟨a_5, b_5, c_5, d_5⟩ : St)).c1), .int .i64 (((spS m ⟨a_5, b_5, c_5, d_5⟩ : St)).c2), .int .i64 (((spS m ⟨a_5, b_5, c_5, d_5⟩ : St)).now)], 58)] w') hf145 rfl rfl rfl rfl ca_14 ((spend_walk w0 w1 w2 a_5 b_5 c_5 d_5 m hd.v.ne hd.v ho5 b2 _ (Has.cons (hI27.at 1 rfl) Has.nil)).mono fun _ _ h => ⟨_, h.1, rfl, h.2⟩) fun ac134 v wd15 hR hf146 => ?_)
        obtain ⟨rfl, hR⟩ := hR
        obtain ⟨a_7, b_7, c_7, d_7, he7⟩ : ∃ a b c d, (spS m ⟨a_5, b_5, c_5, d_5⟩ : St) = ⟨a, b, c, d⟩ := ⟨_, _, _, _, rfl⟩
        rw [he7] at hR
        dsimp only at hR
        have ho7 : Ok w0 w1 w2 ⟨a_7, b_7, c_7, d_7⟩ := by rw [← he7]; exact (spS_ok ho5)
        have hI28 : Inv w [(b1, #[.int .u32 x0, .int .u32 x1, .int .u32 x2], 47), (b2, #[.int .i64 w0, .int .i64 w1, .int .i64 w2, .int .i64 a_7, .int .i64 b_7, .int .i64 c_7, .int .i64 d_7], 58), (b3, #[.bool g0, .bool g1, .bool g2], 33), (b4, #[.int .i64 d0, .int .i64 d1, .int .i64 d2], 22), (b6, #[.int .i64 a_5, .int .i64 b_5, .int .i64 c_5], 22)] _ := Inv.callS (A := [(b1, #[.int .u32 x0, .int .u32 x1, .int .u32 x2], 47)]) (S := [(b2, #[.int .i64 w0, .int .i64 w1, .int .i64 w2, .int .i64 a_5, .int .i64 b_5, .int .i64 c_5, .int .i64 d_5], 58)]) (S' := [(b2, #[.int .i64 w0, .int .i64 w1, .int .i64 w2, .int .i64 a_7, .int .i64 b_7, .int .i64 c_7, .int .i64 d_7], 58)]) (L := [(b3, #[.bool g0, .bool g1, .bool g2], 33), (b4, #[.int .i64 d0, .int .i64 d1, .int .i64 d2], 22), (b6, #[.int .i64 a_5, .int .i64 b_5, .int .i64 c_5], 22)]) (N := []) hI27 hR rfl (fun _ h => by cases h)
        have hs7 := spent_now hk5 hm.1 hm.2 he7
        refine ⟨?_, ?_⟩
        · exact (Has.cons (hI28.at 4 rfl) Has.nil)
        have hS5 : Has [(b6, #[.int .i64 a_5, .int .i64 b_5, .int .i64 c_5], 22)] _ := (Has.cons (hI28.at 4 rfl) Has.nil)
        refine any_val (i := 3) (v := .bool ((spE m ⟨a_5, b_5, c_5, d_5⟩) != 0)) hf146 rfl rfl rfl rfl rfl rfl (fun _ _ _ h => h) (by kernel_rfl) (by kernel_rfl) (by kernel_rfl) (fun wd15 hS5 => (r_neq rfl rfl)) hS5 fun ac135 hf147 => ?_
        refine any_val (i := 4) (v := .bool ((spE m ⟨a_5, b_5, c_5, d_5⟩) != 0)) hf147 rfl rfl rfl rfl rfl rfl (fun _ _ _ h => h) (by kernel_rfl) (by kernel_rfl) (by kernel_rfl) (fun wd15 hS5 => (r_move rfl)) hS5 fun ac136 hf148 => ?_
        have hf149 := hf148.know 112 (u := .bool false) rfl (congrArg Value.bool (bne_eq_false_iff_eq.2 hs7.1))
        refine any_val (i := 5) (v := .pointer (some ⟨b2, 0, none⟩)) hf149 rfl rfl rfl rfl rfl rfl (fun _ _ _ h => h) (by kernel_rfl) (by kernel_rfl) (by kernel_rfl) (fun wd15 hS5 => (r_move rfl)) hS5 fun ac137 hf150 => ?_
        refine any_val (i := 7) (v := .int .i64 d_5) hf150 rfl rfl rfl rfl rfl rfl (fun _ _ _ h => h) (by kernel_rfl) (by kernel_rfl) (by kernel_rfl) (fun wd15 hS5 => (r_move rfl)) hS5 fun ac138 hf151 => ?_
        refine any_val (i := 9) (v := .int .i64 d_5) hf151 rfl rfl rfl rfl rfl rfl (fun _ _ _ h => h) (by kernel_rfl) (by kernel_rfl) (by kernel_rfl) (fun wd15 hS5 => (r_move rfl)) hS5 fun ac139 hf152 => ?_
        refine any_val (i := 10) (v := .pointer (some ⟨b6, 0 + d_5.toNat, none⟩)) hf152 rfl rfl rfl rfl rfl rfl (fun _ _ _ h => h) (by kernel_rfl) (by kernel_rfl) (by kernel_rfl) (fun wd15 hS5 => (r_indexAddr (i := d_5.toNat) ar_22 rfl rfl (idx3 hk5.now).1 (idx3 hk5.now).2 (by rw [Nat.mul_one]))) hS5 fun ac140 hf153 => ?_
        refine any_val (i := 11) (v := .int .i64 (sel3 d_5 a_5 b_5 c_5)) hf153 rfl rfl rfl rfl rfl rfl (fun _ _ _ h => h) (by kernel_rfl) (by kernel_rfl) (by kernel_rfl) (fun wd15 hS5 => (r_load ag_3 rfl (hS5.at 0 rfl) (by rcases hk5.now with h | h | h <;> rw [h] <;> rfl))) hS5 fun ac141 hf154 => ?_
        refine any_val (i := 12) (v := .int .i64 m) hf154 rfl rfl rfl rfl rfl rfl (fun _ _ _ h => h) (by kernel_rfl) (by kernel_rfl) (by kernel_rfl) (fun wd15 hS5 => (r_move rfl)) hS5 fun ac142 hf155 => ?_
        refine any_val (i := 13) (v := .int .i64 (sel3 d_5 a_5 b_5 c_5 - m)) hf155 rfl rfl rfl rfl rfl rfl (fun _ _ _ h => h) (by kernel_rfl) (by kernel_rfl) (by kernel_rfl) (fun wd15 hS5 => (r_sub (c := (sel3 d_5 a_5 b_5 c_5 - m)) rfl rfl (by have h1 := hk5.pos; have h2 := hk5.le; exact wrap_i64 (by omega) (by omega)))) hS5 fun ac143 hf156 => ?_
        refine any_one (i := 6) (by kernel_rfl) ?_
        refine (op_pureW hf156 rfl rfl rfl rfl ca_17 (credits_walk w0 w1 w2 a_7 b_7 c_7 d_7 hd.v.ne b2 _ (Has.cons (hI28.at 1 rfl) Has.nil)) hI28 fun ac144 wd16 hI29 hf157 => ⟨?_, ?_⟩)
        · exact (Has.cons (hI29.at 4 rfl) Has.nil)
        have hS6 : Has [(b6, #[.int .i64 a_5, .int .i64 b_5, .int .i64 c_5], 22)] _ := (Has.cons (hI29.at 4 rfl) Has.nil)
        refine any_val (i := 8) (v := .int .i64 (sel3 d_5 a_7 b_7 c_7)) hf157 rfl rfl rfl rfl rfl rfl (fun _ _ _ h => h) (by kernel_rfl) (by kernel_rfl) (by kernel_rfl) (fun wd16 hS6 => (r_index (i := d_5.toNat) ar_22 ag_3 rfl rfl (idx3 hk5.now).1 (idx3 hk5.now).2 (by rcases hk5.now with h | h | h <;> rw [h] <;> rfl))) hS6 fun ac145 hf158 => ?_
        refine any_val (i := 14) (v := .bool ((sel3 d_5 a_7 b_7 c_7) != (sel3 d_5 a_5 b_5 c_5 - m))) hf158 rfl rfl rfl rfl rfl rfl (fun _ _ _ h => h) (by kernel_rfl) (by kernel_rfl) (by kernel_rfl) (fun wd16 hS6 => (r_neq rfl rfl)) hS6 fun ac146 hf159 => ?_
        refine any_val (i := 15) (v := .bool ((sel3 d_5 a_7 b_7 c_7) != (sel3 d_5 a_5 b_5 c_5 - m))) hf159 rfl rfl rfl rfl rfl rfl (fun _ _ _ h => h) (by kernel_rfl) (by kernel_rfl) (by kernel_rfl) (fun wd16 hS6 => (r_pickF rfl rfl)) hS6 fun ac147 hf160 => ?_
        refine any_end (by kernel_rfl) ?_
        clear hI26 ac131 hf143 ac132 hf144 ac133 wd14 hf145 hI27 hR hS4 ac134 hf146 ac135 hf147 hf148 ac136 hf149 ac137 hf150 ac138 hf151 ac139 hf152 ac140 hf153 ac141 hf154 ac142 hf155 ac143 wd15 hI28 hf156 hS5 ac144 hf157 ac145 hf158 ac146 hf159 hS6
        refine then_normal ?_
        have hf161 := hf160.know 123 (u := .bool false) rfl (congrArg Value.bool (bne_eq_false_iff_eq.2 hs7.2.1))
        refine code_if_false hf161 rfl ?_
        refine wp_skip ?_
        refine block_normal ?_
        refine then_normal ?_
        refine seq_start (l := [0, 1]) rfl ?_
        refine seq_one (op_val (v := .int .i64 ((i + 1 : Nat) : Int)) hf161 rfl rfl rfl rfl rfl rfl (r_add (c := ((i + 1 : Nat) : Int)) rfl rfl (wrap_i64 (by omega) (by have := hx1.1; omega))) fun ac148 hf162 => ?_)
        refine seq_one (op_val (v := .int .i64 ((i + 1 : Nat) : Int)) hf162 rfl rfl rfl rfl rfl rfl (r_move rfl) fun ac149 hf163 => ?_)
        refine seq_end ?_
        clear hf160 ac147 hf161 ac148 hf162
        refine then_normal ?_
        exact ⟨(i + 1, a_7, b_7, c_7, d_7), (hf163.cons 0 rfl (hf163.cons 1 rfl (hf163.cons 2 rfl (hf163.cons 3 rfl (hf163.cons 4 rfl (hf163.cons 9 rfl (hf163.cons 10 rfl (hf163.cons 11 rfl (hf163.cons 12 rfl (hf163.cons 20 rfl (hf163.cons 21 rfl (hf163.cons 22 rfl (hf163.cons 23 rfl (hf163.cons 24 rfl (hf163.cons 25 rfl (hf163.cons 26 rfl (hf163.cons 27 rfl (hf163.cons 28 rfl (hf163.cons 29 rfl (hf163.cons 30 rfl (hf163.cons 31 rfl (hf163.cons 32 rfl (hf163.cons 33 rfl (hf163.cons 34 rfl (hf163.cons 35 rfl (hf163.cons 36 rfl (hf163.cons 37 rfl (hf163.cons 38 rfl (hf163.cons 39 rfl (hf163.cons 40 rfl (hf163.cons 41 rfl (hf163.cons 42 rfl (hf163.cons 43 rfl (hf163.cons 44 rfl (hf163.cons 45 rfl hf163.nil))))))))))))))))))))))))))))))))))), ⟨(Inv.drop (A := [(b1, #[.int .u32 x0, .int .u32 x1, .int .u32 x2], 47), (b2, #[.int .i64 w0, .int .i64 w1, .int .i64 w2, .int .i64 a_7, .int .i64 b_7, .int .i64 c_7, .int .i64 d_7], 58), (b3, #[.bool g0, .bool g1, .bool g2], 33)]) (B := [(b4, #[.int .i64 d0, .int .i64 d1, .int .i64 d2], 22), (b6, #[.int .i64 a_5, .int .i64 b_5, .int .i64 c_5], 22)]) hI29 (fresh_keys (ks := [b4, b6]) rfl (fk_cons hb4 (fk_cons hb6 fk_nil)))), ⟨(by have := of_decide_eq_true c46_1; omega), ho7⟩⟩, (by have := of_decide_eq_true c46_1; show 40 - (i + 1) < 40 - i; omega)⟩
      · have hf164 := hf90.know 87 (u := .bool false) rfl (congrArg Value.bool g87_3)
        refine seq_one (op_skip hf164 rfl rfl rfl rfl fun ac150 hf165 => ?_)
        refine seq_one (op_skip hf165 rfl rfl rfl rfl fun ac151 hf166 => ?_)
        refine seq_one (op_skip hf166 rfl rfl rfl rfl fun ac152 hf167 => ?_)
        refine seq_one (op_skip hf167 rfl rfl rfl rfl fun ac153 hf168 => ?_)
        refine seq_one (op_skip hf168 rfl rfl rfl rfl fun ac154 hf169 => ?_)
        refine seq_one (op_val (v := .bool false) hf169 rfl rfl rfl rfl rfl rfl (r_pickF rfl rfl) fun ac155 hf170 => ?_)
        refine seq_one (op_val (v := .bool false) hf170 rfl rfl rfl rfl rfl rfl (r_pickF rfl rfl) fun ac156 hf171 => ?_)
        refine seq_end ?_
        clear ac64 hf68 ac65 hf69 ac66 hf70 ac67 hf71 ac68 hf72 ac69 hf73 ac70 hf74 hf75 ac71 hf76 ac72 hf77 ac73 hf78 ac74 hf79 hf80 ac75 hf81 ac76 hf82 ac77 hf83 ac78 hf84 ac79 hf85 ac80 hf86 hf87 ac81 hf88 ac82 hf89 hf90 ac83 hf164 ac150 hf165 ac151 hf166 ac152 hf167 ac153 hf168 ac154 hf169 ac155 hf170
        refine then_normal ?_
        refine code_if_false hf171 rfl ?_
        refine wp_skip ?_
        refine then_normal ?_
        refine code_seq ?_
        refine seq_start (l := [0, 1, 2, 3]) rfl ?_
        refine seq_one (op_val (v := .pointer (some ⟨b2, 0, none⟩)) hf171 rfl rfl rfl rfl rfl rfl (r_move rfl) fun ac157 hf172 => ?_)
        refine seq_one (op_pureW hf172 rfl rfl rfl rfl ca_17 (credits_walk w0 w1 w2 a_5 b_5 c_5 d_5 hd.v.ne b2 _ (Has.cons (hI18.at 1 rfl) Has.nil)) hI18 fun ac158 wd17 hI30 hf173 => ?_)
        refine seq_one (op_alloc hf173 rfl rfl rfl ze_22 hI30 fun ac159 b6 wd18 hb6 hI31 hf174 => ?_)
        have hI32 : Inv w [(b1, #[.int .u32 x0, .int .u32 x1, .int .u32 x2], 47), (b2, #[.int .i64 w0, .int .i64 w1, .int .i64 w2, .int .i64 a_5, .int .i64 b_5, .int .i64 c_5, .int .i64 d_5], 58), (b3, #[.bool g0, .bool g1, .bool g2], 33), (b4, #[.int .i64 d0, .int .i64 d1, .int .i64 d2], 22), (b6, #[.int .i64 0, .int .i64 0, .int .i64 0], 22)] wd18 := hI31
        refine seq_one (op_storeW (cells := #[.int .i64 a_5, .int .i64 b_5, .int .i64 c_5]) 4 hf174 rfl rfl rfl rfl rfl sz_22 rfl rfl hI32 rfl rfl fun wd19 hI33 => ?_)
        have hI34 : Inv w [(b1, #[.int .u32 x0, .int .u32 x1, .int .u32 x2], 47), (b2, #[.int .i64 w0, .int .i64 w1, .int .i64 w2, .int .i64 a_5, .int .i64 b_5, .int .i64 c_5, .int .i64 d_5], 58), (b3, #[.bool g0, .bool g1, .bool g2], 33), (b4, #[.int .i64 d0, .int .i64 d1, .int .i64 d2], 22), (b6, #[.int .i64 a_5, .int .i64 b_5, .int .i64 c_5], 22)] wd19 := hI33
        refine seq_end ?_
        clear ac156 hf171 ac157 wd11 hI18 hf172 ac158 wd17 hI30 hf173 hI31 wd18 hI32 hI33
        refine then_normal ?_
        refine code_seq ?_
        refine code_seq ?_
        refine seq_start (l := [0]) rfl ?_
        refine seq_one (op_val (v := .int .i64 0) hf174 rfl rfl rfl rfl rfl rfl (r_move rfl) fun ac160 hf175 => ?_)
        refine seq_end ?_
        clear ac159 hf174
        refine then_normal ?_
        refine wp_block ?_
        refine wp_loop_rounds 4 ?_
        refine rounds_go ?_
        refine code_seq ?_
        refine seq_start (l := [0]) rfl ?_
        refine seq_one (op_val (v := .bool true) hf175 rfl rfl rfl rfl rfl rfl (r_lssC rfl rfl (by decide)) fun ac161 hf176 => ?_)
        refine seq_end ?_
        clear ac160 hf175
        refine then_normal ?_
        refine code_seq ?_
        refine code_if_true hf176 rfl ?_
        refine wp_skip ?_
        refine then_normal ?_
        refine code_seq ?_
        refine wp_block ?_
        refine code_seq ?_
        refine seq_start (l := [0, 1]) rfl ?_
        refine seq_one (op_val (v := .int .i64 0) hf176 rfl rfl rfl rfl rfl rfl (r_move rfl) fun ac162 hf177 => ?_)
        refine seq_one (op_val (v := .int .i64 0) hf177 rfl rfl rfl rfl rfl rfl (r_assign rfl) fun ac163 hf178 => ?_)
        refine seq_end ?_
        clear ac161 hf176 ac162 hf177
        refine then_normal ?_
        refine code_seq ?_
        refine any_start (fun w => Has [(b4, #[.int .i64 d0, .int .i64 d1, .int .i64 d2], 22), (b6, #[.int .i64 a_5, .int .i64 b_5, .int .i64 c_5], 22)] w) follows (Has.drew (Has.cons (hI34.at 3 rfl) (Has.cons (hI34.at 4 rfl) Has.nil))) ?_
        have hS7 : Has [(b4, #[.int .i64 d0, .int .i64 d1, .int .i64 d2], 22), (b6, #[.int .i64 a_5, .int .i64 b_5, .int .i64 c_5], 22)] _ := Has.drew (Has.cons (hI34.at 3 rfl) (Has.cons (hI34.at 4 rfl) Has.nil))
        have hI35 := hI34.drew
        refine any_val (i := 0) (v := .int .i64 0) hf178 rfl rfl rfl rfl rfl rfl (fun _ _ _ h => h) (by kernel_rfl) (by kernel_rfl) (by kernel_rfl) (fun wd19 hS7 => (r_move rfl)) hS7 fun ac164 hf179 => ?_
        refine any_val (i := 1) (v := .pointer (some ⟨b6, 0, none⟩)) hf179 rfl rfl rfl rfl rfl rfl (fun _ _ _ h => h) (by kernel_rfl) (by kernel_rfl) (by kernel_rfl) (fun wd19 hS7 => (r_indexAddr (i := 0) ar_22 rfl rfl rfl (by decide) rfl)) hS7 fun ac165 hf180 => ?_
        refine any_val (i := 2) (v := .int .i64 a_5) hf180 rfl rfl rfl rfl rfl rfl (fun _ _ _ h => h) (by kernel_rfl) (by kernel_rfl) (by kernel_rfl) (fun wd19 hS7 => (r_load ag_3 rfl (hS7.at 1 rfl) rfl)) hS7 fun ac166 hf181 => ?_
        refine any_val (i := 3) (v := .int .i64 0) hf181 rfl rfl rfl rfl rfl rfl (fun _ _ _ h => h) (by kernel_rfl) (by kernel_rfl) (by kernel_rfl) (fun wd19 hS7 => (r_move rfl)) hS7 fun ac167 hf182 => ?_
        refine any_val (i := 4) (v := .pointer (some ⟨b4, 0, none⟩)) hf182 rfl rfl rfl rfl rfl rfl (fun _ _ _ h => h) (by kernel_rfl) (by kernel_rfl) (by kernel_rfl) (fun wd19 hS7 => (r_indexAddr (i := 0) ar_22 rfl rfl rfl (by decide) rfl)) hS7 fun ac168 hf183 => ?_
        refine any_val (i := 5) (v := .int .i64 d0) hf183 rfl rfl rfl rfl rfl rfl (fun _ _ _ h => h) (by kernel_rfl) (by kernel_rfl) (by kernel_rfl) (fun wd19 hS7 => (r_load ag_3 rfl (hS7.at 0 rfl) rfl)) hS7 fun ac169 hf184 => ?_
        refine any_val (i := 6) (v := .bool (decide (a_5 < d0))) hf184 rfl rfl rfl rfl rfl rfl (fun _ _ _ h => h) (by kernel_rfl) (by kernel_rfl) (by kernel_rfl) (fun wd19 hS7 => (r_lss rfl rfl)) hS7 fun ac170 hf185 => ?_
        refine any_end (by kernel_rfl) ?_
        clear hI34 ac163 hf178 ac164 hf179 ac165 hf180 ac166 hf181 ac167 hf182 ac168 hf183 ac169 hf184 hS7
        refine then_normal ?_
        have hf186 := hf185.know 106 (u := .bool false) rfl (congrArg Value.bool (decide_eq_false (Int.not_lt.2 (hmo5.1))))
        refine code_if_false hf186 rfl ?_
        refine wp_skip ?_
        refine block_normal ?_
        refine then_normal ?_
        refine seq_start (l := [0, 1]) rfl ?_
        refine seq_one (op_val (v := .int .i64 1) hf186 rfl rfl rfl rfl rfl rfl (r_add (c := 1) rfl rfl (by rfl)) fun ac171 hf187 => ?_)
        refine seq_one (op_val (v := .int .i64 1) hf187 rfl rfl rfl rfl rfl rfl (r_move rfl) fun ac172 hf188 => ?_)
        refine seq_end ?_
        clear hf185 ac170 hf186 ac171 hf187
        refine then_normal ?_
        refine rounds_go ?_
        refine code_seq ?_
        refine seq_start (l := [0]) rfl ?_
        refine seq_one (op_val (v := .bool true) hf188 rfl rfl rfl rfl rfl rfl (r_lssC rfl rfl (by decide)) fun ac173 hf189 => ?_)
        refine seq_end ?_
        clear ac172 hf188
        refine then_normal ?_
        refine code_seq ?_
        refine code_if_true hf189 rfl ?_
        refine wp_skip ?_
        refine then_normal ?_
        refine code_seq ?_
        refine wp_block ?_
        refine code_seq ?_
        refine seq_start (l := [0, 1]) rfl ?_
        refine seq_one (op_val (v := .int .i64 1) hf189 rfl rfl rfl rfl rfl rfl (r_move rfl) fun ac174 hf190 => ?_)
        refine seq_one (op_val (v := .int .i64 1) hf190 rfl rfl rfl rfl rfl rfl (r_assign rfl) fun ac175 hf191 => ?_)
        refine seq_end ?_
        clear ac173 hf189 ac174 hf190
        refine then_normal ?_
        refine code_seq ?_
        refine any_start (fun w => Has [(b4, #[.int .i64 d0, .int .i64 d1, .int .i64 d2], 22), (b6, #[.int .i64 a_5, .int .i64 b_5, .int .i64 c_5], 22)] w) follows (Has.drew (Has.cons (hI35.at 3 rfl) (Has.cons (hI35.at 4 rfl) Has.nil))) ?_
        have hS8 : Has [(b4, #[.int .i64 d0, .int .i64 d1, .int .i64 d2], 22), (b6, #[.int .i64 a_5, .int .i64 b_5, .int .i64 c_5], 22)] _ := Has.drew (Has.cons (hI35.at 3 rfl) (Has.cons (hI35.at 4 rfl) Has.nil))
        have hI36 := hI35.drew
        refine any_val (i := 0) (v := .int .i64 1) hf191 rfl rfl rfl rfl rfl rfl (fun _ _ _ h => h) (by kernel_rfl) (by kernel_rfl) (by kernel_rfl) (fun wd19 hS8 => (r_move rfl)) hS8 fun ac176 hf192 => ?_
        refine any_val (i := 1) (v := .pointer (some ⟨b6, 1, none⟩)) hf192 rfl rfl rfl rfl rfl rfl (fun _ _ _ h => h) (by kernel_rfl) (by kernel_rfl) (by kernel_rfl) (fun wd19 hS8 => (r_indexAddr (i := 1) ar_22 rfl rfl rfl (by decide) rfl)) hS8 fun ac177 hf193 => ?_
        refine any_val (i := 2) (v := .int .i64 b_5) hf193 rfl rfl rfl rfl rfl rfl (fun _ _ _ h => h) (by kernel_rfl) (by kernel_rfl) (by kernel_rfl) (fun wd19 hS8 => (r_load ag_3 rfl (hS8.at 1 rfl) rfl)) hS8 fun ac178 hf194 => ?_
        refine any_val (i := 3) (v := .int .i64 1) hf194 rfl rfl rfl rfl rfl rfl (fun _ _ _ h => h) (by kernel_rfl) (by kernel_rfl) (by kernel_rfl) (fun wd19 hS8 => (r_move rfl)) hS8 fun ac179 hf195 => ?_
        refine any_val (i := 4) (v := .pointer (some ⟨b4, 1, none⟩)) hf195 rfl rfl rfl rfl rfl rfl (fun _ _ _ h => h) (by kernel_rfl) (by kernel_rfl) (by kernel_rfl) (fun wd19 hS8 => (r_indexAddr (i := 1) ar_22 rfl rfl rfl (by decide) rfl)) hS8 fun ac180 hf196 => ?_
        refine any_val (i := 5) (v := .int .i64 d1) hf196 rfl rfl rfl rfl rfl rfl (fun _ _ _ h => h) (by kernel_rfl) (by kernel_rfl) (by kernel_rfl) (fun wd19 hS8 => (r_load ag_3 rfl (hS8.at 0 rfl) rfl)) hS8 fun ac181 hf197 => ?_
        refine any_val (i := 6) (v := .bool (decide (b_5 < d1))) hf197 rfl rfl rfl rfl rfl rfl (fun _ _ _ h => h) (by kernel_rfl) (by kernel_rfl) (by kernel_rfl) (fun wd19 hS8 => (r_lss rfl rfl)) hS8 fun ac182 hf198 => ?_
        refine any_end (by kernel_rfl) ?_
        clear hI35 ac175 hf191 ac176 hf192 ac177 hf193 ac178 hf194 ac179 hf195 ac180 hf196 ac181 hf197 hS8
        refine then_normal ?_
        have hf199 := hf198.know 106 (u := .bool false) rfl (congrArg Value.bool (decide_eq_false (Int.not_lt.2 (hmo5.2.1))))
        refine code_if_false hf199 rfl ?_
        refine wp_skip ?_
        refine block_normal ?_
        refine then_normal ?_
        refine seq_start (l := [0, 1]) rfl ?_
        refine seq_one (op_val (v := .int .i64 2) hf199 rfl rfl rfl rfl rfl rfl (r_add (c := 2) rfl rfl (by rfl)) fun ac183 hf200 => ?_)
        refine seq_one (op_val (v := .int .i64 2) hf200 rfl rfl rfl rfl rfl rfl (r_move rfl) fun ac184 hf201 => ?_)
        refine seq_end ?_
        clear hf198 ac182 hf199 ac183 hf200
        refine then_normal ?_
        refine rounds_go ?_
        refine code_seq ?_
        refine seq_start (l := [0]) rfl ?_
        refine seq_one (op_val (v := .bool true) hf201 rfl rfl rfl rfl rfl rfl (r_lssC rfl rfl (by decide)) fun ac185 hf202 => ?_)
        refine seq_end ?_
        clear ac184 hf201
        refine then_normal ?_
        refine code_seq ?_
        refine code_if_true hf202 rfl ?_
        refine wp_skip ?_
        refine then_normal ?_
        refine code_seq ?_
        refine wp_block ?_
        refine code_seq ?_
        refine seq_start (l := [0, 1]) rfl ?_
        refine seq_one (op_val (v := .int .i64 2) hf202 rfl rfl rfl rfl rfl rfl (r_move rfl) fun ac186 hf203 => ?_)
        refine seq_one (op_val (v := .int .i64 2) hf203 rfl rfl rfl rfl rfl rfl (r_assign rfl) fun ac187 hf204 => ?_)
        refine seq_end ?_
        clear ac185 hf202 ac186 hf203
        refine then_normal ?_
        refine code_seq ?_
        refine any_start (fun w => Has [(b4, #[.int .i64 d0, .int .i64 d1, .int .i64 d2], 22), (b6, #[.int .i64 a_5, .int .i64 b_5, .int .i64 c_5], 22)] w) follows (Has.drew (Has.cons (hI36.at 3 rfl) (Has.cons (hI36.at 4 rfl) Has.nil))) ?_
        have hS9 : Has [(b4, #[.int .i64 d0, .int .i64 d1, .int .i64 d2], 22), (b6, #[.int .i64 a_5, .int .i64 b_5, .int .i64 c_5], 22)] _ := Has.drew (Has.cons (hI36.at 3 rfl) (Has.cons (hI36.at 4 rfl) Has.nil))
        have hI37 := hI36.drew
        refine any_val (i := 0) (v := .int .i64 2) hf204 rfl rfl rfl rfl rfl rfl (fun _ _ _ h => h) (by kernel_rfl) (by kernel_rfl) (by kernel_rfl) (fun wd19 hS9 => (r_move rfl)) hS9 fun ac188 hf205 => ?_
        refine any_val (i := 1) (v := .pointer (some ⟨b6, 2, none⟩)) hf205 rfl rfl rfl rfl rfl rfl (fun _ _ _ h => h) (by kernel_rfl) (by kernel_rfl) (by kernel_rfl) (fun wd19 hS9 => (r_indexAddr (i := 2) ar_22 rfl rfl rfl (by decide) rfl)) hS9 fun ac189 hf206 => ?_
        refine any_val (i := 2) (v := .int .i64 c_5) hf206 rfl rfl rfl rfl rfl rfl (fun _ _ _ h => h) (by kernel_rfl) (by kernel_rfl) (by kernel_rfl) (fun wd19 hS9 => (r_load ag_3 rfl (hS9.at 1 rfl) rfl)) hS9 fun ac190 hf207 => ?_
        refine any_val (i := 3) (v := .int .i64 2) hf207 rfl rfl rfl rfl rfl rfl (fun _ _ _ h => h) (by kernel_rfl) (by kernel_rfl) (by kernel_rfl) (fun wd19 hS9 => (r_move rfl)) hS9 fun ac191 hf208 => ?_
        refine any_val (i := 4) (v := .pointer (some ⟨b4, 2, none⟩)) hf208 rfl rfl rfl rfl rfl rfl (fun _ _ _ h => h) (by kernel_rfl) (by kernel_rfl) (by kernel_rfl) (fun wd19 hS9 => (r_indexAddr (i := 2) ar_22 rfl rfl rfl (by decide) rfl)) hS9 fun ac192 hf209 => ?_
        refine any_val (i := 5) (v := .int .i64 d2) hf209 rfl rfl rfl rfl rfl rfl (fun _ _ _ h => h) (by kernel_rfl) (by kernel_rfl) (by kernel_rfl) (fun wd19 hS9 => (r_load ag_3 rfl (hS9.at 0 rfl) rfl)) hS9 fun ac193 hf210 => ?_
        refine any_val (i := 6) (v := .bool (decide (c_5 < d2))) hf210 rfl rfl rfl rfl rfl rfl (fun _ _ _ h => h) (by kernel_rfl) (by kernel_rfl) (by kernel_rfl) (fun wd19 hS9 => (r_lss rfl rfl)) hS9 fun ac194 hf211 => ?_
        refine any_end (by kernel_rfl) ?_
        clear hI36 ac187 hf204 ac188 hf205 ac189 hf206 ac190 hf207 ac191 hf208 ac192 hf209 ac193 hf210 hS9
        refine then_normal ?_
        have hf212 := hf211.know 106 (u := .bool false) rfl (congrArg Value.bool (decide_eq_false (Int.not_lt.2 (hmo5.2.2))))
        refine code_if_false hf212 rfl ?_
        refine wp_skip ?_
        refine block_normal ?_
        refine then_normal ?_
        refine seq_start (l := [0, 1]) rfl ?_
        refine seq_one (op_val (v := .int .i64 3) hf212 rfl rfl rfl rfl rfl rfl (r_add (c := 3) rfl rfl (by rfl)) fun ac195 hf213 => ?_)
        refine seq_one (op_val (v := .int .i64 3) hf213 rfl rfl rfl rfl rfl rfl (r_move rfl) fun ac196 hf214 => ?_)
        refine seq_end ?_
        clear hf211 ac194 hf212 ac195 hf213
        refine then_normal ?_
        refine rounds_go ?_
        refine code_seq ?_
        refine seq_start (l := [0]) rfl ?_
        refine seq_one (op_val (v := .bool false) hf214 rfl rfl rfl rfl rfl rfl (r_lssC rfl rfl (by decide)) fun ac197 hf215 => ?_)
        refine seq_end ?_
        clear ac196 hf214
        refine then_normal ?_
        refine code_seq ?_
        refine code_if_false hf215 rfl ?_
        refine wp_exit ?_
        refine then_exit ?_
        refine then_exit ?_
        refine block_here ?_
        refine then_normal ?_
        refine code_seq ?_
        refine any_start (fun w => Has [(b6, #[.int .i64 a_5, .int .i64 b_5, .int .i64 c_5], 22)] w) follows (Has.drew (Has.cons (hI37.at 4 rfl) Has.nil)) ?_
        have hS10 : Has [(b6, #[.int .i64 a_5, .int .i64 b_5, .int .i64 c_5], 22)] _ := Has.drew (Has.cons (hI37.at 4 rfl) Has.nil)
        have hI38 := hI37.drew
        refine any_val (i := 0) (v := .pointer (some ⟨b2, 0, none⟩)) hf215 rfl rfl rfl rfl rfl rfl (fun _ _ _ h => h) (by kernel_rfl) (by kernel_rfl) (by kernel_rfl) (fun wd19 hS10 => (r_move rfl)) hS10 fun ac198 hf216 => ?_
        refine any_val (i := 1) (v := .int .i64 m) hf216 rfl rfl rfl rfl rfl rfl (fun _ _ _ h => h) (by kernel_rfl) (by kernel_rfl) (by kernel_rfl) (fun wd19 hS10 => (r_move rfl)) hS10 fun ac199 hf217 => ?_
        refine any_one (i := 2) (by kernel_rfl) ?_
        refine (op_call (R := fun v w' => v = (.int .i64 (spE m ⟨a_5, b_5, c_5, d_5⟩)) ∧ Inv _ [(b2, #[.int .i64 w0, .int .i64 w1, .int .i64 w2, .int .i64 (((spS m ⟨a_5, b_5, c_5, d_5⟩ : St)).c0), .int .i64 (((spS m ⟨a_5, b_5, c_5, d_5⟩ : St)).c1), .int .i64 (((spS m ⟨a_5, b_5, c_5, d_5⟩ : St)).c2), .int .i64 (((spS m ⟨a_5, b_5, c_5, d_5⟩ : St)).now)], 58)] w') hf217 rfl rfl rfl rfl ca_14 ((spend_walk w0 w1 w2 a_5 b_5 c_5 d_5 m hd.v.ne hd.v ho5 b2 _ (Has.cons (hI38.at 1 rfl) Has.nil)).mono fun _ _ h => ⟨_, h.1, rfl, h.2⟩) fun ac200 v wd20 hR hf218 => ?_)
        obtain ⟨rfl, hR⟩ := hR
        obtain ⟨a_7, b_7, c_7, d_7, he7⟩ : ∃ a b c d, (spS m ⟨a_5, b_5, c_5, d_5⟩ : St) = ⟨a, b, c, d⟩ := ⟨_, _, _, _, rfl⟩
        rw [he7] at hR
        dsimp only at hR
        have ho7 : Ok w0 w1 w2 ⟨a_7, b_7, c_7, d_7⟩ := by rw [← he7]; exact (spS_ok ho5)
        have hI39 : Inv w [(b1, #[.int .u32 x0, .int .u32 x1, .int .u32 x2], 47), (b2, #[.int .i64 w0, .int .i64 w1, .int .i64 w2, .int .i64 a_7, .int .i64 b_7, .int .i64 c_7, .int .i64 d_7], 58), (b3, #[.bool g0, .bool g1, .bool g2], 33), (b4, #[.int .i64 d0, .int .i64 d1, .int .i64 d2], 22), (b6, #[.int .i64 a_5, .int .i64 b_5, .int .i64 c_5], 22)] _ := Inv.callS (A := [(b1, #[.int .u32 x0, .int .u32 x1, .int .u32 x2], 47)]) (S := [(b2, #[.int .i64 w0, .int .i64 w1, .int .i64 w2, .int .i64 a_5, .int .i64 b_5, .int .i64 c_5, .int .i64 d_5], 58)]) (S' := [(b2, #[.int .i64 w0, .int .i64 w1, .int .i64 w2, .int .i64 a_7, .int .i64 b_7, .int .i64 c_7, .int .i64 d_7], 58)]) (L := [(b3, #[.bool g0, .bool g1, .bool g2], 33), (b4, #[.int .i64 d0, .int .i64 d1, .int .i64 d2], 22), (b6, #[.int .i64 a_5, .int .i64 b_5, .int .i64 c_5], 22)]) (N := []) hI38 hR rfl (fun _ h => by cases h)
        have hs7 := spent_now hk5 hm.1 hm.2 he7
        refine ⟨?_, ?_⟩
        · exact (Has.cons (hI39.at 4 rfl) Has.nil)
        have hS11 : Has [(b6, #[.int .i64 a_5, .int .i64 b_5, .int .i64 c_5], 22)] _ := (Has.cons (hI39.at 4 rfl) Has.nil)
        refine any_val (i := 3) (v := .bool ((spE m ⟨a_5, b_5, c_5, d_5⟩) != 0)) hf218 rfl rfl rfl rfl rfl rfl (fun _ _ _ h => h) (by kernel_rfl) (by kernel_rfl) (by kernel_rfl) (fun wd20 hS11 => (r_neq rfl rfl)) hS11 fun ac201 hf219 => ?_
        refine any_val (i := 4) (v := .bool ((spE m ⟨a_5, b_5, c_5, d_5⟩) != 0)) hf219 rfl rfl rfl rfl rfl rfl (fun _ _ _ h => h) (by kernel_rfl) (by kernel_rfl) (by kernel_rfl) (fun wd20 hS11 => (r_move rfl)) hS11 fun ac202 hf220 => ?_
        have hf221 := hf220.know 112 (u := .bool false) rfl (congrArg Value.bool (bne_eq_false_iff_eq.2 hs7.1))
        refine any_val (i := 5) (v := .pointer (some ⟨b2, 0, none⟩)) hf221 rfl rfl rfl rfl rfl rfl (fun _ _ _ h => h) (by kernel_rfl) (by kernel_rfl) (by kernel_rfl) (fun wd20 hS11 => (r_move rfl)) hS11 fun ac203 hf222 => ?_
        refine any_val (i := 7) (v := .int .i64 d_5) hf222 rfl rfl rfl rfl rfl rfl (fun _ _ _ h => h) (by kernel_rfl) (by kernel_rfl) (by kernel_rfl) (fun wd20 hS11 => (r_move rfl)) hS11 fun ac204 hf223 => ?_
        refine any_val (i := 9) (v := .int .i64 d_5) hf223 rfl rfl rfl rfl rfl rfl (fun _ _ _ h => h) (by kernel_rfl) (by kernel_rfl) (by kernel_rfl) (fun wd20 hS11 => (r_move rfl)) hS11 fun ac205 hf224 => ?_
        refine any_val (i := 10) (v := .pointer (some ⟨b6, 0 + d_5.toNat, none⟩)) hf224 rfl rfl rfl rfl rfl rfl (fun _ _ _ h => h) (by kernel_rfl) (by kernel_rfl) (by kernel_rfl) (fun wd20 hS11 => (r_indexAddr (i := d_5.toNat) ar_22 rfl rfl (idx3 hk5.now).1 (idx3 hk5.now).2 (by rw [Nat.mul_one]))) hS11 fun ac206 hf225 => ?_
        refine any_val (i := 11) (v := .int .i64 (sel3 d_5 a_5 b_5 c_5)) hf225 rfl rfl rfl rfl rfl rfl (fun _ _ _ h => h) (by kernel_rfl) (by kernel_rfl) (by kernel_rfl) (fun wd20 hS11 => (r_load ag_3 rfl (hS11.at 0 rfl) (by rcases hk5.now with h | h | h <;> rw [h] <;> rfl))) hS11 fun ac207 hf226 => ?_
        refine any_val (i := 12) (v := .int .i64 m) hf226 rfl rfl rfl rfl rfl rfl (fun _ _ _ h => h) (by kernel_rfl) (by kernel_rfl) (by kernel_rfl) (fun wd20 hS11 => (r_move rfl)) hS11 fun ac208 hf227 => ?_
        refine any_val (i := 13) (v := .int .i64 (sel3 d_5 a_5 b_5 c_5 - m)) hf227 rfl rfl rfl rfl rfl rfl (fun _ _ _ h => h) (by kernel_rfl) (by kernel_rfl) (by kernel_rfl) (fun wd20 hS11 => (r_sub (c := (sel3 d_5 a_5 b_5 c_5 - m)) rfl rfl (by have h1 := hk5.pos; have h2 := hk5.le; exact wrap_i64 (by omega) (by omega)))) hS11 fun ac209 hf228 => ?_
        refine any_one (i := 6) (by kernel_rfl) ?_
        refine (op_pureW hf228 rfl rfl rfl rfl ca_17 (credits_walk w0 w1 w2 a_7 b_7 c_7 d_7 hd.v.ne b2 _ (Has.cons (hI39.at 1 rfl) Has.nil)) hI39 fun ac210 wd21 hI40 hf229 => ⟨?_, ?_⟩)
        · exact (Has.cons (hI40.at 4 rfl) Has.nil)
        have hS12 : Has [(b6, #[.int .i64 a_5, .int .i64 b_5, .int .i64 c_5], 22)] _ := (Has.cons (hI40.at 4 rfl) Has.nil)
        refine any_val (i := 8) (v := .int .i64 (sel3 d_5 a_7 b_7 c_7)) hf229 rfl rfl rfl rfl rfl rfl (fun _ _ _ h => h) (by kernel_rfl) (by kernel_rfl) (by kernel_rfl) (fun wd21 hS12 => (r_index (i := d_5.toNat) ar_22 ag_3 rfl rfl (idx3 hk5.now).1 (idx3 hk5.now).2 (by rcases hk5.now with h | h | h <;> rw [h] <;> rfl))) hS12 fun ac211 hf230 => ?_
        refine any_val (i := 14) (v := .bool ((sel3 d_5 a_7 b_7 c_7) != (sel3 d_5 a_5 b_5 c_5 - m))) hf230 rfl rfl rfl rfl rfl rfl (fun _ _ _ h => h) (by kernel_rfl) (by kernel_rfl) (by kernel_rfl) (fun wd21 hS12 => (r_neq rfl rfl)) hS12 fun ac212 hf231 => ?_
        refine any_val (i := 15) (v := .bool ((sel3 d_5 a_7 b_7 c_7) != (sel3 d_5 a_5 b_5 c_5 - m))) hf231 rfl rfl rfl rfl rfl rfl (fun _ _ _ h => h) (by kernel_rfl) (by kernel_rfl) (by kernel_rfl) (fun wd21 hS12 => (r_pickF rfl rfl)) hS12 fun ac213 hf232 => ?_
        refine any_end (by kernel_rfl) ?_
        clear hI37 ac197 hf215 ac198 hf216 ac199 wd19 hf217 hI38 hR hS10 ac200 hf218 ac201 hf219 hf220 ac202 hf221 ac203 hf222 ac204 hf223 ac205 hf224 ac206 hf225 ac207 hf226 ac208 hf227 ac209 wd20 hI39 hf228 hS11 ac210 hf229 ac211 hf230 ac212 hf231 hS12
        refine then_normal ?_
        have hf233 := hf232.know 123 (u := .bool false) rfl (congrArg Value.bool (bne_eq_false_iff_eq.2 hs7.2.1))
        refine code_if_false hf233 rfl ?_
        refine wp_skip ?_
        refine block_normal ?_
        refine then_normal ?_
        refine seq_start (l := [0, 1]) rfl ?_
        refine seq_one (op_val (v := .int .i64 ((i + 1 : Nat) : Int)) hf233 rfl rfl rfl rfl rfl rfl (r_add (c := ((i + 1 : Nat) : Int)) rfl rfl (wrap_i64 (by omega) (by have := hx1.1; omega))) fun ac214 hf234 => ?_)
        refine seq_one (op_val (v := .int .i64 ((i + 1 : Nat) : Int)) hf234 rfl rfl rfl rfl rfl rfl (r_move rfl) fun ac215 hf235 => ?_)
        refine seq_end ?_
        clear hf232 ac213 hf233 ac214 hf234
        refine then_normal ?_
        exact ⟨(i + 1, a_7, b_7, c_7, d_7), (hf235.cons 0 rfl (hf235.cons 1 rfl (hf235.cons 2 rfl (hf235.cons 3 rfl (hf235.cons 4 rfl (hf235.cons 9 rfl (hf235.cons 10 rfl (hf235.cons 11 rfl (hf235.cons 12 rfl (hf235.cons 20 rfl (hf235.cons 21 rfl (hf235.cons 22 rfl (hf235.cons 23 rfl (hf235.cons 24 rfl (hf235.cons 25 rfl (hf235.cons 26 rfl (hf235.cons 27 rfl (hf235.cons 28 rfl (hf235.cons 29 rfl (hf235.cons 30 rfl (hf235.cons 31 rfl (hf235.cons 32 rfl (hf235.cons 33 rfl (hf235.cons 34 rfl (hf235.cons 35 rfl (hf235.cons 36 rfl (hf235.cons 37 rfl (hf235.cons 38 rfl (hf235.cons 39 rfl (hf235.cons 40 rfl (hf235.cons 41 rfl (hf235.cons 42 rfl (hf235.cons 43 rfl (hf235.cons 44 rfl (hf235.cons 45 rfl hf235.nil))))))))))))))))))))))))))))))))))), ⟨(Inv.drop (A := [(b1, #[.int .u32 x0, .int .u32 x1, .int .u32 x2], 47), (b2, #[.int .i64 w0, .int .i64 w1, .int .i64 w2, .int .i64 a_7, .int .i64 b_7, .int .i64 c_7, .int .i64 d_7], 58), (b3, #[.bool g0, .bool g1, .bool g2], 33)]) (B := [(b4, #[.int .i64 d0, .int .i64 d1, .int .i64 d2], 22), (b6, #[.int .i64 a_5, .int .i64 b_5, .int .i64 c_5], 22)]) hI40 (fresh_keys (ks := [b4, b6]) rfl (fk_cons hb4 (fk_cons hb6 fk_nil)))), ⟨(by have := of_decide_eq_true c46_1; omega), ho7⟩⟩, (by have := of_decide_eq_true c46_1; show 40 - (i + 1) < 40 - i; omega)⟩
  · have hf236 := hf35.know 46 (u := .bool false) rfl (congrArg Value.bool c46_1)
    refine wp_exit ?_
    refine then_exit ?_
    refine then_exit ?_
    refine block_here ?_
    refine then_normal ?_
    refine code_seq ?_
    refine seq_start (l := [0, 1]) rfl ?_
    refine seq_one (op_pure hf236 rfl rfl rfl rfl ca_11 awake_pur hI11 fun ac216 wd22 hI41 hf237 => ?_)
    refine seq_one (op_val (v := .bool true) hf237 rfl rfl rfl rfl rfl rfl (r_assign rfl) fun ac217 hf238 => ?_)
    refine seq_end ?_
    clear hf35 ac35 wd6 hI11 hf236 ac216 hf237
    refine then_normal ?_
    refine wp_ret ?_
    refine post1 rfl hf238 rfl ⟨?_, hI41.done (fresh_keys (ks := [b1, b2, b3]) rfl (fk_cons hb1 (fk_cons hb2 (fk_cons hb3 fk_nil))))⟩
    rfl
end Go.Proofs.Ytkfilmdnpocinaa
