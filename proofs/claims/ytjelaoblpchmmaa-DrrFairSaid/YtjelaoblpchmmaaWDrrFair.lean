/-
  The walk of DrrFair.
-/
import Derived.Test.YtjelaoblpchmmaaPlain7
namespace Go.Proofs.Ytjelaoblpchmmaa
set_option linter.unusedVariables false
set_option linter.unusedSimpArgs false
set_option maxRecDepth 100000
open Go.RowKit
set_option maxHeartbeats 8000000 in
theorem drrFair_walk  {a q : Int} (eq : 64 + a = q) (hq : 64 ≤ q ∧ q ≤ 65599) {b f7 : Int} (ef : b.tmod 7 = f7) (hf7 : 0 ≤ f7 ∧ f7 < 7) {N : Nat} (eN : 2 + f7 = (N : Int)) {pc pl : Option Addr} {Mc capc Ml capl : Nat} {cs ls : List Int} (hwc : cs.length = Mc) (hmc : Mc ≤ capc) (hkc : InK .u16 cs) (hwl : ls.length = Ml) (hml : Ml ≤ capl) (hkl : InK .u16 ls) {c1 d1 : Int} {lo up : Nat} (elo : c1.tmod 100 = (lo : Int)) (hc1 : 0 ≤ c1 ∧ c1 ≤ 255) (hlo : lo < 100) (ehi : (lo : Int) + d1 = (up : Int)) (hd1 : 0 ≤ d1 ∧ d1 ≤ 255) {w : World}  (hrc : Rd w .u16 pc cs) (hrl : Rd w .u16 pl ls) : Calls Try.prog 11 [.int .u16 a, .int .u8 b, .slice pc Mc capc, .slice pl Ml capl, .int .u8 c1, .int .u8 d1].toArray w fun e w' => e = .returned (.bool true) ∧ Inv w [] w' := by
  have hN : 2 ≤ N ∧ N ≤ 8 := by omega
  have hI1 := Inv.start w
  refine enter (n := 162) Try.func11 rfl rfl rfl ?_
  intro ac1 hf1
  refine code_seq ?_
  refine seq_start (l := [0]) rfl ?_
  refine seq_one (op_val (v := .bool false) hf1 rfl rfl rfl rfl rfl rfl (r_assign rfl) fun ac2 hf2 => ?_)
  refine seq_end ?_
  clear ac1 hf1
  refine then_normal ?_
  refine code_seq ?_
  refine seq_start (l := [0, 1, 2, 3, 4, 5, 6, 7, 8]) rfl ?_
  refine seq_one (op_val (v := .int .u16 a) hf2 rfl rfl rfl rfl rfl rfl (r_move rfl) fun ac3 hf3 => ?_)
  refine seq_one (op_val (v := .int .i64 a) hf3 rfl rfl rfl rfl rfl rfl (r_conv (c := a) ui_22 ui_3 rfl (wrap_i64 (by omega) (by omega))) fun ac4 hf4 => ?_)
  refine seq_one (op_val (v := .int .i64 q) hf4 rfl rfl rfl rfl rfl rfl (r_add (c := q) rfl rfl (by rw [eq]; exact wrap_i64 (by omega) (by omega))) fun ac5 hf5 => ?_)
  refine seq_one (op_val (v := .int .u8 b) hf5 rfl rfl rfl rfl rfl rfl (r_move rfl) fun ac6 hf6 => ?_)
  refine seq_one (op_val (v := .int .u8 f7) hf6 rfl rfl rfl rfl rfl rfl (r_rem (c := f7) rfl rfl (by omega) ef) fun ac7 hf7 => ?_)
  refine seq_one (op_val (v := .int .i64 f7) hf7 rfl rfl rfl rfl rfl rfl (r_conv (c := f7) ui_5 ui_3 rfl (wrap_i64 (by omega) (by omega))) fun ac8 hf8 => ?_)
  refine seq_one (op_val (v := .int .i64 (N : Int)) hf8 rfl rfl rfl rfl rfl rfl (r_add (c := (N : Int)) rfl rfl (by rw [eN]; exact (wrap_i64 (by omega) (by omega)))) fun ac9 hf9 => ?_)
  refine seq_one (op_val (v := .int .i64 q) hf9 rfl rfl rfl rfl rfl rfl (r_assign rfl) fun ac10 hf10 => ?_)
  refine seq_one (op_val (v := .int .i64 (N : Int)) hf10 rfl rfl rfl rfl rfl rfl (r_assign rfl) fun ac11 hf11 => ?_)
  refine seq_end ?_
  clear ac2 hf2 ac3 hf3 ac4 hf4 ac5 hf5 ac6 hf6 ac7 hf7 ac8 hf8 ac9 hf9 ac10 hf10
  refine then_normal ?_
  refine code_seq ?_
  refine seq_start (l := [0, 1, 2, 3, 4, 5, 6, 7]) rfl ?_
  refine seq_one (op_val (v := .int .i64 (N : Int)) hf11 rfl rfl rfl rfl rfl rfl (r_move rfl) fun ac12 hf12 => ?_)
  refine seq_one (op_val (v := .int .i64 q) hf12 rfl rfl rfl rfl rfl rfl (r_move rfl) fun ac13 hf13 => ?_)
  refine seq_one (op_call (R := fun v w' => ∃ lb ob mb cb rc rb, Array.size (World.heap w) ≤ lb ∧ Array.size (World.heap w) ≤ ob ∧ Array.size (World.heap w) ≤ mb ∧ Array.size (World.heap w) ≤ cb ∧ Array.size (World.heap w) ≤ rc ∧ Array.size (World.heap w) ≤ rb ∧ v = .tuple #[.pointer (some ⟨rb, 0, none⟩), .int .i64 0] ∧ Inv w [(lb, arr .i64 ((Ro.new N q (by omega) (by omega) ⟨hq.1, by omega⟩).c).lk, 103), (ob, arr .i64 ((Ro.new N q (by omega) (by omega) ⟨hq.1, by omega⟩).c).of, 3), (mb, arr .i64 ((Ro.new N q (by omega) (by omega) ⟨hq.1, by omega⟩).c).mn, 3), (cb, #[.slice (some ⟨lb, 0, none⟩) (N + 2) (N + 2), .slice (some ⟨ob, 0, none⟩) N N, .slice (some ⟨mb, 0, none⟩) 2 2], 79), (rc, arr .i64 (Ro.new N q (by omega) (by omega) ⟨hq.1, by omega⟩).cr, 3), (rb, #[.pointer (some ⟨cb, 0, none⟩), .slice (some ⟨rc, 0, none⟩) N N, .int .i64 ((Ro.new N q (by omega) (by omega) ⟨hq.1, by omega⟩).q)], 45)] w') hf13 rfl rfl rfl rfl ca_26 ((newr_walk (N := N) (q := q) (by omega) (by omega) ⟨hq.1, by omega⟩ _).mono fun e w' ⟨lb, ob, mb, cb, rc, rb, h1, h2, h3, h4, h5, h6, h7, h8⟩ => ⟨_, h7, lb, ob, mb, cb, rc, rb, h1, h2, h3, h4, h5, h6, rfl, h8⟩) fun ac14 v wd1 hR hf14 => ?_)
  obtain ⟨b1, b2, b3, b4, b5, b6, hqb1, hqb2, hqb3, hqb4, hqb5, hqb6, rfl, hw6⟩ := hR
  have hb1 := Nat.le_trans hI1.size hqb1
  have hb2 := Nat.le_trans hI1.size hqb2
  have hb3 := Nat.le_trans hI1.size hqb3
  have hb4 := Nat.le_trans hI1.size hqb4
  have hb5 := Nat.le_trans hI1.size hqb5
  have hb6 := Nat.le_trans hI1.size hqb6
  have hI2 : Inv w [(b1, arr .i64 ((Ro.new N q (by omega) (by omega) ⟨hq.1, by omega⟩).c).lk, 103), (b2, arr .i64 ((Ro.new N q (by omega) (by omega) ⟨hq.1, by omega⟩).c).of, 3), (b3, arr .i64 ((Ro.new N q (by omega) (by omega) ⟨hq.1, by omega⟩).c).mn, 3), (b4, #[.slice (some ⟨b1, 0, none⟩) (N + 2) (N + 2), .slice (some ⟨b2, 0, none⟩) N N, .slice (some ⟨b3, 0, none⟩) 2 2], 79), (b5, arr .i64 (Ro.new N q (by omega) (by omega) ⟨hq.1, by omega⟩).cr, 3), (b6, #[.pointer (some ⟨b4, 0, none⟩), .slice (some ⟨b5, 0, none⟩) N N, .int .i64 ((Ro.new N q (by omega) (by omega) ⟨hq.1, by omega⟩).q)], 45)] _ := hI1.callN hw6 (fk6 hqb1 hqb2 hqb3 hqb4 hqb5 hqb6)
  obtain ⟨r7, er7⟩ : ∃ r : Ro N, r = (Ro.new N q (by omega) (by omega) ⟨hq.1, by omega⟩) := ⟨_, rfl⟩
  rw [← er7] at hI2
  refine seq_one (op_val (v := .tuple #[.pointer (some ⟨b6, 0, none⟩), .int .i64 0]) hf14 rfl rfl rfl rfl rfl rfl (r_move rfl) fun ac15 hf15 => ?_)
  refine seq_one (op_val (v := .pointer (some ⟨b6, 0, none⟩)) hf15 rfl rfl rfl rfl rfl rfl (r_extract rfl rfl) fun ac16 hf16 => ?_)
  refine seq_one (op_val (v := .int .i64 0) hf16 rfl rfl rfl rfl rfl rfl (r_extract rfl rfl) fun ac17 hf17 => ?_)
  refine seq_one (op_val (v := .pointer (some ⟨b6, 0, none⟩)) hf17 rfl rfl rfl rfl rfl rfl (r_assign rfl) fun ac18 hf18 => ?_)
  refine seq_one (op_val (v := .int .i64 0) hf18 rfl rfl rfl rfl rfl rfl (r_assign rfl) fun ac19 hf19 => ?_)
  refine seq_end ?_
  clear ac11 hf11 ac12 hf12 ac13 hf13 hI1 hw6 hqb1 hqb2 hqb3 hqb4 hqb5 hqb6 ac14 hf14 ac15 hf15 ac16 hf16 ac17 hf17 ac18 hf18
  refine then_normal ?_
  refine code_seq ?_
  refine code_seq ?_
  refine seq_start (l := [0, 1]) rfl ?_
  refine seq_one (op_val (v := .int .i64 0) hf19 rfl rfl rfl rfl rfl rfl (r_move rfl) fun ac20 hf20 => ?_)
  refine seq_one (op_val (v := .bool false) hf20 rfl rfl rfl rfl rfl rfl (r_neqC rfl rfl (by decide)) fun ac21 hf21 => ?_)
  refine seq_end ?_
  clear ac19 hf19 ac20 hf20
  refine then_normal ?_
  refine code_if_false hf21 rfl ?_
  refine wp_skip ?_
  refine then_normal ?_
  refine code_seq ?_
  refine code_seq ?_
  refine seq_start (l := [0, 1]) rfl ?_
  refine seq_one (op_val (v := .int .i64 (N : Int)) hf21 rfl rfl rfl rfl rfl rfl (r_move rfl) fun ac22 hf22 => ?_)
  refine seq_one (op_val (v := .int .i64 0) hf22 rfl rfl rfl rfl rfl rfl (r_move rfl) fun ac23 hf23 => ?_)
  refine seq_end ?_
  clear ac21 hf21 ac22 hf22
  refine then_normal ?_
  refine wp_block ?_
  refine code_loop (α := Nat × (Ro N)) (fun (x : Nat × (Ro N)) => match x with | (i, s) => [(0, .int .u16 a), (1, .int .u8 b), (2, .slice pc Mc capc), (3, .slice pl Ml capl), (4, .int .u8 c1), (5, .int .u8 d1), (13, .int .i64 q), (14, .int .i64 (N : Int)), (15, .pointer (some ⟨b6, 0, none⟩)), (16, .int .i64 0), (29, .int .u16 a), (30, .int .i64 a), (31, .int .i64 q), (32, .int .u8 b), (33, .int .u8 f7), (34, .int .i64 f7), (35, .int .i64 (N : Int)), (36, .tuple #[.pointer (some ⟨b6, 0, none⟩), .int .i64 0]), (37, .int .i64 (N : Int)), (38, .int .i64 q), (39, .tuple #[.pointer (some ⟨b6, 0, none⟩), .int .i64 0]), (40, .pointer (some ⟨b6, 0, none⟩)), (41, .int .i64 0), (42, .int .i64 0), (43, .bool false), (44, .int .i64 (N : Int)), (45, .int .i64 (i : Int))]) (fun (x : Nat × (Ro N)) => match x with | (i, s) => fun wL => Inv w [(b1, arr .i64 s.c.lk, 103), (b2, arr .i64 s.c.of, 3), (b3, arr .i64 s.c.mn, 3), (b4, #[.slice (some ⟨b1, 0, none⟩) (N + 2) (N + 2), .slice (some ⟨b2, 0, none⟩) N N, .slice (some ⟨b3, 0, none⟩) 2 2], 79), (b5, arr .i64 s.cr, 3), (b6, #[.pointer (some ⟨b4, 0, none⟩), .slice (some ⟨b5, 0, none⟩) N N, .int .i64 s.q], 45)] wL ∧ (i ≤ N ∧ Ro.BackI q s i)) (fun (x : Nat × (Ro N)) => match x with | (i, s) => N - i) (0, r7) (hf23.cons 0 rfl (hf23.cons 1 rfl (hf23.cons 2 rfl (hf23.cons 3 rfl (hf23.cons 4 rfl (hf23.cons 5 rfl (hf23.cons 13 rfl (hf23.cons 14 rfl (hf23.cons 15 rfl (hf23.cons 16 rfl (hf23.cons 29 rfl (hf23.cons 30 rfl (hf23.cons 31 rfl (hf23.cons 32 rfl (hf23.cons 33 rfl (hf23.cons 34 rfl (hf23.cons 35 rfl (hf23.cons 36 rfl (hf23.cons 37 rfl (hf23.cons 38 rfl (hf23.cons 39 rfl (hf23.cons 40 rfl (hf23.cons 41 rfl (hf23.cons 42 rfl (hf23.cons 43 rfl (hf23.cons 44 rfl (hf23.cons 45 rfl hf23.nil))))))))))))))))))))))))))) ⟨hI2, ⟨Nat.zero_le _, Ro.BackI.start er7⟩⟩ ?_
  intro ⟨i, s⟩ ac24 wd2 hf24 hL1
  obtain ⟨hI3, hx1⟩ := hL1
  dsimp only at hf24 hI3 hx1
  clear ac23 wd1 hf23 hI2
  refine code_seq ?_
  refine seq_start (l := [0]) rfl ?_
  refine seq_one (op_val (v := .bool (decide ((i : Int) < (N : Int)))) hf24 rfl rfl rfl rfl rfl rfl (r_lss rfl rfl) fun ac25 hf25 => ?_)
  refine seq_end ?_
  clear ac24 hf24
  refine then_normal ?_
  refine code_seq ?_
  refine code_if hf25 rfl (fun c46_1 => ?_) (fun c46_1 => ?_)
  · have hf26 := hf25.know 46 (u := .bool true) rfl (congrArg Value.bool c46_1)
    refine wp_skip ?_
    refine then_normal ?_
    refine code_seq ?_
    refine wp_block ?_
    refine code_seq ?_
    refine seq_start (l := [0, 1]) rfl ?_
    refine seq_one (op_val (v := .int .i64 (i : Int)) hf26 rfl rfl rfl rfl rfl rfl (r_move rfl) fun ac26 hf27 => ?_)
    refine seq_one (op_val (v := .int .i64 (i : Int)) hf27 rfl rfl rfl rfl rfl rfl (r_assign rfl) fun ac27 hf28 => ?_)
    refine seq_end ?_
    clear hf25 ac25 hf26 ac26 hf27
    refine then_normal ?_
    refine code_seq ?_
    refine seq_start (l := [0]) rfl ?_
    refine seq_one (op_val (v := .int .i64 0) hf28 rfl rfl rfl rfl rfl rfl (r_assign rfl) fun ac28 hf29 => ?_)
    refine seq_end ?_
    clear ac27 hf28
    refine then_normal ?_
    refine code_seq ?_
    refine code_seq ?_
    refine seq_start (l := [0, 1, 2, 3]) rfl ?_
    refine seq_one (op_val (v := .int .i64 (i : Int)) hf29 rfl rfl rfl rfl rfl rfl (r_move rfl) fun ac29 hf30 => ?_)
    refine seq_one (op_val (v := .slice pc Mc capc) hf30 rfl rfl rfl rfl rfl rfl (r_move rfl) fun ac30 hf31 => ?_)
    refine seq_one (op_val (v := .int .i64 (Mc : Int)) hf31 rfl rfl rfl rfl rfl rfl (r_len sl_81 rfl) fun ac31 hf32 => ?_)
    refine seq_one (op_val (v := .bool (decide ((i : Int) < (Mc : Int)))) hf32 rfl rfl rfl rfl rfl rfl (r_lss rfl rfl) fun ac32 hf33 => ?_)
    refine seq_end ?_
    clear ac28 hf29 ac29 hf30 ac30 hf31 ac31 hf32
    refine then_normal ?_
    refine code_joinG 162 ((Int)) (fun (x : Int) => [(0, .int .u16 a), (1, .int .u8 b), (2, .slice pc Mc capc), (3, .slice pl Ml capl), (4, .int .u8 c1), (5, .int .u8 d1), (13, .int .i64 q), (14, .int .i64 (N : Int)), (15, .pointer (some ⟨b6, 0, none⟩)), (16, .int .i64 0), (17, .int .i64 (i : Int)), (29, .int .u16 a), (30, .int .i64 a), (31, .int .i64 q), (32, .int .u8 b), (33, .int .u8 f7), (34, .int .i64 f7), (35, .int .i64 (N : Int)), (36, .tuple #[.pointer (some ⟨b6, 0, none⟩), .int .i64 0]), (37, .int .i64 (N : Int)), (38, .int .i64 q), (39, .tuple #[.pointer (some ⟨b6, 0, none⟩), .int .i64 0]), (40, .pointer (some ⟨b6, 0, none⟩)), (41, .int .i64 0), (42, .int .i64 0), (43, .bool false), (44, .int .i64 (N : Int)), (45, .int .i64 (i : Int)), (46, .bool true), (47, .int .i64 (i : Int)), (48, .int .i64 (i : Int)), (49, .slice pc Mc capc), (50, .int .i64 (Mc : Int)), (18, .int .i64 x)]) (fun (x : Int) => fun w' => Inv w [(b1, arr .i64 s.c.lk, 103), (b2, arr .i64 s.c.of, 3), (b3, arr .i64 s.c.mn, 3), (b4, #[.slice (some ⟨b1, 0, none⟩) (N + 2) (N + 2), .slice (some ⟨b2, 0, none⟩) N N, .slice (some ⟨b3, 0, none⟩) 2 2], 79), (b5, arr .i64 s.cr, 3), (b6, #[.pointer (some ⟨b4, 0, none⟩), .slice (some ⟨b5, 0, none⟩) N N, .int .i64 s.q], 45)] w' ∧ (-4095 ≤ x ∧ x ≤ q)) ?_ ?_
    ·
      refine code_if hf33 rfl (fun c51_2 => ?_) (fun c51_2 => ?_)
      · have hf34 := hf33.know 51 (u := .bool true) rfl (congrArg Value.bool c51_2)
        refine seq_start (l := [0, 1, 2, 3, 4, 5, 6, 7, 8, 9]) rfl ?_
        refine seq_one (op_val (v := .slice pc Mc capc) hf34 rfl rfl rfl rfl rfl rfl (r_move rfl) fun ac33 hf35 => ?_)
        refine seq_one (op_val (v := .int .i64 (i : Int)) hf35 rfl rfl rfl rfl rfl rfl (r_move rfl) fun ac34 hf36 => ?_)
        refine seq_one (op_val (v := .pointer (slAt pc i)) hf36 rfl rfl rfl rfl rfl rfl (r_indexAddrV (i := i) sl_81 rfl rfl rfl (by have := of_decide_eq_true c51_2; omega) (let r := (hrc.old hI3 (fresh_keys (ks := [b1, b2, b3, b4, b5, b6]) rfl (fk_cons hb1 (fk_cons hb2 (fk_cons hb3 (fk_cons hb4 (fk_cons hb5 (fk_cons hb6 fk_nil)))))))) i (by have := of_decide_eq_true c51_2; omega); ⟨r.choose, r.choose_spec.1⟩)) fun ac35 hf37 => ?_)
        refine seq_one (op_val (v := .int .u16 (cs.getD i 0)) hf37 rfl rfl rfl rfl rfl rfl (r_loadV ag_22 rfl (hrc.old hI3 (fresh_keys (ks := [b1, b2, b3, b4, b5, b6]) rfl (fk_cons hb1 (fk_cons hb2 (fk_cons hb3 (fk_cons hb4 (fk_cons hb5 (fk_cons hb6 fk_nil)))))))) (by have := of_decide_eq_true c51_2; omega)) fun ac36 hf38 => ?_)
        refine seq_one (op_val (v := .int .i64 (cs.getD i 0)) hf38 rfl rfl rfl rfl rfl rfl (r_conv (c := cs.getD i 0) ui_22 ui_3 rfl (wrap_i64 (by have := bounds_u16 (hkc.getD (show i < cs.length by have := of_decide_eq_true c51_2; omega)); omega) (by have := bounds_u16 (hkc.getD (show i < cs.length by have := of_decide_eq_true c51_2; omega)); omega))) fun ac37 hf39 => ?_)
        refine seq_one (op_val (v := .int .i64 q) hf39 rfl rfl rfl rfl rfl rfl (r_move rfl) fun ac38 hf40 => ?_)
        refine seq_one (op_val (v := .int .i64 (q + 4096)) hf40 rfl rfl rfl rfl rfl rfl (r_add (c := (q + 4096)) rfl rfl (wrap_i64 (by omega) (by omega))) fun ac39 hf41 => ?_)
        refine seq_one (op_val (v := .int .i64 ((cs.getD i 0).tmod (q + 4096))) hf41 rfl rfl rfl rfl rfl rfl (r_rem (c := ((cs.getD i 0).tmod (q + 4096))) rfl rfl (by omega) rfl) fun ac40 hf42 => ?_)
        refine seq_one (op_val (v := .int .i64 (((cs.getD i 0).tmod (q + 4096)) - 4095)) hf42 rfl rfl rfl rfl rfl rfl (r_sub (c := (((cs.getD i 0).tmod (q + 4096)) - 4095)) rfl rfl (wrap_i64 (by have := (cred_b (x := cs.getD i 0) (q := q) (by have := bounds_u16 (hkc.getD (show i < cs.length by have := of_decide_eq_true c51_2; omega)); omega) hq.1); omega) (by have := (cred_b (x := cs.getD i 0) (q := q) (by have := bounds_u16 (hkc.getD (show i < cs.length by have := of_decide_eq_true c51_2; omega)); omega) hq.1); omega))) fun ac41 hf43 => ?_)
        refine seq_one (op_val (v := .int .i64 (((cs.getD i 0).tmod (q + 4096)) - 4095)) hf43 rfl rfl rfl rfl rfl rfl (r_assign rfl) fun ac42 hf44 => ?_)
        refine seq_end ?_
        clear hf33 ac32 hf34 ac33 hf35 ac34 hf36 ac35 hf37 ac36 hf38 ac37 hf39 ac38 hf40 ac39 hf41 ac40 hf42 ac41 hf43
        refine then_normal ?_
        exact ⟨((((cs.getD i 0).tmod (q + 4096)) - 4095)), (hf44.cons 0 rfl (hf44.cons 1 rfl (hf44.cons 2 rfl (hf44.cons 3 rfl (hf44.cons 4 rfl (hf44.cons 5 rfl (hf44.cons 13 rfl (hf44.cons 14 rfl (hf44.cons 15 rfl (hf44.cons 16 rfl (hf44.cons 17 rfl (hf44.cons 29 rfl (hf44.cons 30 rfl (hf44.cons 31 rfl (hf44.cons 32 rfl (hf44.cons 33 rfl (hf44.cons 34 rfl (hf44.cons 35 rfl (hf44.cons 36 rfl (hf44.cons 37 rfl (hf44.cons 38 rfl (hf44.cons 39 rfl (hf44.cons 40 rfl (hf44.cons 41 rfl (hf44.cons 42 rfl (hf44.cons 43 rfl (hf44.cons 44 rfl (hf44.cons 45 rfl (hf44.cons 46 rfl (hf44.cons 47 rfl (hf44.cons 48 rfl (hf44.cons 49 rfl (hf44.cons 50 rfl (hf44.cons 18 rfl hf44.nil)))))))))))))))))))))))))))))))))), ⟨hI3, (cred_b (x := cs.getD i 0) (q := q) (by have := bounds_u16 (hkc.getD (show i < cs.length by have := of_decide_eq_true c51_2; omega)); omega) hq.1)⟩⟩
      · have hf45 := hf33.know 51 (u := .bool false) rfl (congrArg Value.bool c51_2)
        refine wp_skip ?_
        refine then_normal ?_
        clear hf33
        exact ⟨(0), (hf45.cons 0 rfl (hf45.cons 1 rfl (hf45.cons 2 rfl (hf45.cons 3 rfl (hf45.cons 4 rfl (hf45.cons 5 rfl (hf45.cons 13 rfl (hf45.cons 14 rfl (hf45.cons 15 rfl (hf45.cons 16 rfl (hf45.cons 17 rfl (hf45.cons 29 rfl (hf45.cons 30 rfl (hf45.cons 31 rfl (hf45.cons 32 rfl (hf45.cons 33 rfl (hf45.cons 34 rfl (hf45.cons 35 rfl (hf45.cons 36 rfl (hf45.cons 37 rfl (hf45.cons 38 rfl (hf45.cons 39 rfl (hf45.cons 40 rfl (hf45.cons 41 rfl (hf45.cons 42 rfl (hf45.cons 43 rfl (hf45.cons 44 rfl (hf45.cons 45 rfl (hf45.cons 46 rfl (hf45.cons 47 rfl (hf45.cons 48 rfl (hf45.cons 49 rfl (hf45.cons 50 rfl (hf45.cons 18 rfl hf45.nil)))))))))))))))))))))))))))))))))), ⟨hI3, (by omega)⟩⟩
    ·
      intro x ac43 wd3 hf46 ⟨hI4, hj4⟩
      clear ac32 wd2 hf33 hI3
      refine then_normal ?_
      refine code_seq ?_
      refine seq_start (l := [0, 1, 2, 3, 4]) rfl ?_
      refine seq_one (op_val (v := .pointer (some ⟨b6, 0, none⟩)) hf46 rfl rfl rfl rfl rfl rfl (r_move rfl) fun ac44 hf47 => ?_)
      refine seq_one (op_val (v := .int .i64 (i : Int)) hf47 rfl rfl rfl rfl rfl rfl (r_move rfl) fun ac45 hf48 => ?_)
      refine seq_one (op_val (v := .int .i64 x) hf48 rfl rfl rfl rfl rfl rfl (r_move rfl) fun ac46 hf49 => ?_)
      refine seq_one (op_call (R := fun v w' => v = .int .i64 (s.enterE 1 (i : Int) x) ∧ Inv _ [(b1, arr .i64 ((s.enter 1 (i : Int) x).c).lk, 103), (b2, arr .i64 ((s.enter 1 (i : Int) x).c).of, 3), (b3, arr .i64 ((s.enter 1 (i : Int) x).c).mn, 3), (b4, #[.slice (some ⟨b1, 0, none⟩) (N + 2) (N + 2), .slice (some ⟨b2, 0, none⟩) N N, .slice (some ⟨b3, 0, none⟩) 2 2], 79), (b5, arr .i64 (s.enter 1 (i : Int) x).cr, 3), (b6, #[.pointer (some ⟨b4, 0, none⟩), .slice (some ⟨b5, 0, none⟩) N N, .int .i64 ((s.enter 1 (i : Int) x).q)], 45)] w') hf49 rfl rfl rfl rfl ca_25 ((back_any (hI4.nd6 0 rfl rfl rfl rfl rfl rfl) s (Has.cons (hI4.at 0 rfl) (Has.cons (hI4.at 1 rfl) (Has.cons (hI4.at 2 rfl) (Has.cons (hI4.at 3 rfl) (Has.cons (hI4.at 4 rfl) (Has.cons (hI4.at 5 rfl) Has.nil)))))) (i : Int) x).mono fun _ _ h => ⟨_, h.1, rfl, h.2⟩) fun ac47 v wd4 hR8 hf50 => ?_)
      obtain ⟨rfl, hR8⟩ := hR8
      have hI5 : Inv w [(b1, arr .i64 ((s.enter 1 (i : Int) x).c).lk, 103), (b2, arr .i64 ((s.enter 1 (i : Int) x).c).of, 3), (b3, arr .i64 ((s.enter 1 (i : Int) x).c).mn, 3), (b4, #[.slice (some ⟨b1, 0, none⟩) (N + 2) (N + 2), .slice (some ⟨b2, 0, none⟩) N N, .slice (some ⟨b3, 0, none⟩) 2 2], 79), (b5, arr .i64 (s.enter 1 (i : Int) x).cr, 3), (b6, #[.pointer (some ⟨b4, 0, none⟩), .slice (some ⟨b5, 0, none⟩) N N, .int .i64 ((s.enter 1 (i : Int) x).q)], 45)] _ := Inv.callS (A := []) (S := [(b1, arr .i64 s.c.lk, 103), (b2, arr .i64 s.c.of, 3), (b3, arr .i64 s.c.mn, 3), (b4, #[.slice (some ⟨b1, 0, none⟩) (N + 2) (N + 2), .slice (some ⟨b2, 0, none⟩) N N, .slice (some ⟨b3, 0, none⟩) 2 2], 79), (b5, arr .i64 s.cr, 3), (b6, #[.pointer (some ⟨b4, 0, none⟩), .slice (some ⟨b5, 0, none⟩) N N, .int .i64 s.q], 45)]) (S' := [(b1, arr .i64 ((s.enter 1 (i : Int) x).c).lk, 103), (b2, arr .i64 ((s.enter 1 (i : Int) x).c).of, 3), (b3, arr .i64 ((s.enter 1 (i : Int) x).c).mn, 3), (b4, #[.slice (some ⟨b1, 0, none⟩) (N + 2) (N + 2), .slice (some ⟨b2, 0, none⟩) N N, .slice (some ⟨b3, 0, none⟩) 2 2], 79), (b5, arr .i64 (s.enter 1 (i : Int) x).cr, 3), (b6, #[.pointer (some ⟨b4, 0, none⟩), .slice (some ⟨b5, 0, none⟩) N N, .int .i64 ((s.enter 1 (i : Int) x).q)], 45)]) (L := []) (N := []) hI4 hR8 rfl (fun _ h => by cases h)
      obtain ⟨r9, er9⟩ : ∃ r : Ro N, r = (s.enter 1 (i : Int) x) := ⟨_, rfl⟩
      rw [← er9] at hI5
      refine seq_one (op_val (v := .bool ((s.enterE 1 (i : Int) x) != 0)) hf50 rfl rfl rfl rfl rfl rfl (r_neq rfl rfl) fun ac48 hf51 => ?_)
      refine seq_end ?_
      clear ac43 hf46 ac44 hf47 ac45 hf48 ac46 wd3 hf49 hI4 hR8 ac47 hf50
      refine then_normal ?_
      have hf52 := hf51.know 65 (u := .bool false) rfl (congrArg Value.bool (bne_eq_false_iff_eq.2 (Ro.BackI.step hx1.2 (by have := of_decide_eq_true c46_1; omega) hj4 hq.2 er9).2))
      refine code_if_false hf52 rfl ?_
      refine wp_skip ?_
      refine block_normal ?_
      refine then_normal ?_
      refine seq_start (l := [0, 1]) rfl ?_
      refine seq_one (op_val (v := .int .i64 ((i + 1 : Nat) : Int)) hf52 rfl rfl rfl rfl rfl rfl (r_add (c := ((i + 1 : Nat) : Int)) rfl rfl (wrap_i64 (by have := hx1.1; omega) (by have := hx1.1; omega))) fun ac49 hf53 => ?_)
      refine seq_one (op_val (v := .int .i64 ((i + 1 : Nat) : Int)) hf53 rfl rfl rfl rfl rfl rfl (r_move rfl) fun ac50 hf54 => ?_)
      refine seq_end ?_
      clear hf51 ac48 hf52 ac49 hf53
      refine then_normal ?_
      exact ⟨(i + 1, r9), (hf54.cons 0 rfl (hf54.cons 1 rfl (hf54.cons 2 rfl (hf54.cons 3 rfl (hf54.cons 4 rfl (hf54.cons 5 rfl (hf54.cons 13 rfl (hf54.cons 14 rfl (hf54.cons 15 rfl (hf54.cons 16 rfl (hf54.cons 29 rfl (hf54.cons 30 rfl (hf54.cons 31 rfl (hf54.cons 32 rfl (hf54.cons 33 rfl (hf54.cons 34 rfl (hf54.cons 35 rfl (hf54.cons 36 rfl (hf54.cons 37 rfl (hf54.cons 38 rfl (hf54.cons 39 rfl (hf54.cons 40 rfl (hf54.cons 41 rfl (hf54.cons 42 rfl (hf54.cons 43 rfl (hf54.cons 44 rfl (hf54.cons 45 rfl hf54.nil))))))))))))))))))))))))))), ⟨hI5, ⟨(by have := of_decide_eq_true c46_1; omega), (Ro.BackI.step hx1.2 (by have := of_decide_eq_true c46_1; omega) hj4 hq.2 er9).1⟩⟩, (by have := of_decide_eq_true c46_1; show N - (i + 1) < N - i; omega)⟩
  · have hf55 := hf25.know 46 (u := .bool false) rfl (congrArg Value.bool c46_1)
    refine wp_exit ?_
    refine then_exit ?_
    refine then_exit ?_
    refine block_here ?_
    refine then_normal ?_
    refine code_seq ?_
    refine seq_start (l := [0, 1, 2]) rfl ?_
    refine seq_one (op_val (v := .int .i64 (N : Int)) hf55 rfl rfl rfl rfl rfl rfl (r_move rfl) fun ac51 hf56 => ?_)
    refine seq_one (op_make (m := N) hf56 rfl rfl rfl us_27 if_3 rfl rfl rfl (by omega) (by omega) hI3 fun ac52 b8 wd5 hb8 hI6 hf57 => ?_)
    rw [arr_rep] at hI6
    have hI7 : Inv w [(b1, arr .i64 s.c.lk, 103), (b2, arr .i64 s.c.of, 3), (b3, arr .i64 s.c.mn, 3), (b4, #[.slice (some ⟨b1, 0, none⟩) (N + 2) (N + 2), .slice (some ⟨b2, 0, none⟩) N N, .slice (some ⟨b3, 0, none⟩) 2 2], 79), (b5, arr .i64 s.cr, 3), (b6, #[.pointer (some ⟨b4, 0, none⟩), .slice (some ⟨b5, 0, none⟩) N N, .int .i64 s.q], 45), (b8, arr .i64 (List.replicate N 0), 3)] wd5 := hI6
    refine seq_one (op_val (v := .slice (some ⟨b8, 0, none⟩) N N) hf57 rfl rfl rfl rfl rfl rfl (r_assign rfl) fun ac53 hf58 => ?_)
    refine seq_end ?_
    clear hf25 ac25 hf55 ac51 wd2 hI3 hf56 hI6 ac52 hf57
    refine then_normal ?_
    refine code_seq ?_
    refine code_seq ?_
    refine seq_start (l := [0]) rfl ?_
    refine seq_one (op_val (v := .int .i64 0) hf58 rfl rfl rfl rfl rfl rfl (r_move rfl) fun ac54 hf59 => ?_)
    refine seq_end ?_
    clear ac53 hf58
    refine then_normal ?_
    refine wp_block ?_
    refine code_loop (α := Nat × (Ro N) × (List Int)) (fun (x : Nat × (Ro N) × (List Int)) => match x with | (j, s, ws) => [(0, .int .u16 a), (1, .int .u8 b), (2, .slice pc Mc capc), (3, .slice pl Ml capl), (4, .int .u8 c1), (5, .int .u8 d1), (13, .int .i64 q), (14, .int .i64 (N : Int)), (15, .pointer (some ⟨b6, 0, none⟩)), (16, .int .i64 0), (19, .slice (some ⟨b8, 0, none⟩) N N), (29, .int .u16 a), (30, .int .i64 a), (31, .int .i64 q), (32, .int .u8 b), (33, .int .u8 f7), (34, .int .i64 f7), (35, .int .i64 (N : Int)), (36, .tuple #[.pointer (some ⟨b6, 0, none⟩), .int .i64 0]), (37, .int .i64 (N : Int)), (38, .int .i64 q), (39, .tuple #[.pointer (some ⟨b6, 0, none⟩), .int .i64 0]), (40, .pointer (some ⟨b6, 0, none⟩)), (41, .int .i64 0), (42, .int .i64 0), (43, .bool false), (44, .int .i64 (N : Int)), (45, .int .i64 (i : Int)), (46, .bool false), (67, .int .i64 (N : Int)), (68, .slice (some ⟨b8, 0, none⟩) N N), (69, .int .i64 (j : Int))]) (fun (x : Nat × (Ro N) × (List Int)) => match x with | (j, s, ws) => fun wL => Inv w [(b1, arr .i64 s.c.lk, 103), (b2, arr .i64 s.c.of, 3), (b3, arr .i64 s.c.mn, 3), (b4, #[.slice (some ⟨b1, 0, none⟩) (N + 2) (N + 2), .slice (some ⟨b2, 0, none⟩) N N, .slice (some ⟨b3, 0, none⟩) 2 2], 79), (b5, arr .i64 s.cr, 3), (b6, #[.pointer (some ⟨b4, 0, none⟩), .slice (some ⟨b5, 0, none⟩) N N, .int .i64 s.q], 45), (b8, arr .i64 ws, 3)] wL ∧ (j ≤ 120 ∧ Ro.Fair q lo up j s ws)) (fun (x : Nat × (Ro N) × (List Int)) => match x with | (j, s, ws) => 120 - j) (0, s, List.replicate N 0) (hf59.cons 0 rfl (hf59.cons 1 rfl (hf59.cons 2 rfl (hf59.cons 3 rfl (hf59.cons 4 rfl (hf59.cons 5 rfl (hf59.cons 13 rfl (hf59.cons 14 rfl (hf59.cons 15 rfl (hf59.cons 16 rfl (hf59.cons 19 rfl (hf59.cons 29 rfl (hf59.cons 30 rfl (hf59.cons 31 rfl (hf59.cons 32 rfl (hf59.cons 33 rfl (hf59.cons 34 rfl (hf59.cons 35 rfl (hf59.cons 36 rfl (hf59.cons 37 rfl (hf59.cons 38 rfl (hf59.cons 39 rfl (hf59.cons 40 rfl (hf59.cons 41 rfl (hf59.cons 42 rfl (hf59.cons 43 rfl (hf59.cons 44 rfl (hf59.cons 45 rfl (hf59.cons 46 rfl (hf59.cons 67 rfl (hf59.cons 68 rfl (hf59.cons 69 rfl hf59.nil)))))))))))))))))))))))))))))))) ⟨hI7, ⟨Nat.zero_le _, Ro.Fair.start hx1.2 (by have := of_decide_eq_false c46_1; omega) hx1.1 (by omega)⟩⟩ ?_
    intro ⟨j, s, ws⟩ ac55 wd6 hf60 hL2
    obtain ⟨hI8, hx2⟩ := hL2
    dsimp only at hf60 hI8 hx2
    clear ac54 wd5 hf59 hI7
    refine code_seq ?_
    refine seq_start (l := [0]) rfl ?_
    refine seq_one (op_val (v := .bool (decide ((j : Int) < 120))) hf60 rfl rfl rfl rfl rfl rfl (r_lss rfl rfl) fun ac56 hf61 => ?_)
    refine seq_end ?_
    clear ac55 hf60
    refine then_normal ?_
    refine code_seq ?_
    refine code_if hf61 rfl (fun c70_3 => ?_) (fun c70_3 => ?_)
    · have hf62 := hf61.know 70 (u := .bool true) rfl (congrArg Value.bool c70_3)
      refine wp_skip ?_
      refine then_normal ?_
      refine code_seq ?_
      refine wp_block ?_
      refine code_seq ?_
      refine seq_start (l := [0, 1]) rfl ?_
      refine seq_one (op_val (v := .int .i64 (j : Int)) hf62 rfl rfl rfl rfl rfl rfl (r_move rfl) fun ac57 hf63 => ?_)
      refine seq_one (op_val (v := .int .i64 (j : Int)) hf63 rfl rfl rfl rfl rfl rfl (r_assign rfl) fun ac58 hf64 => ?_)
      refine seq_end ?_
      clear hf61 ac56 hf62 ac57 hf63
      refine then_normal ?_
      refine code_seq ?_
      refine seq_start (l := [0, 1, 2, 3, 4, 5, 6, 7, 8]) rfl ?_
      refine seq_one (op_val (v := .pointer (some ⟨b6, 0, none⟩)) hf64 rfl rfl rfl rfl rfl rfl (r_move rfl) fun ac59 hf65 => ?_)
      refine seq_one (op_call (R := fun v w' => v = .tuple #[.int .i64 s.head.f, .int .i64 s.headC, .bool s.head.ok] ∧ Inv _ [(b1, arr .i64 s.head.c.lk, 103), (b2, arr .i64 s.head.c.of, 3), (b3, arr .i64 s.head.c.mn, 3), (b4, #[.slice (some ⟨b1, 0, none⟩) (N + 2) (N + 2), .slice (some ⟨b2, 0, none⟩) N N, .slice (some ⟨b3, 0, none⟩) 2 2], 79), (b5, arr .i64 s.head.cr, 3), (b6, #[.pointer (some ⟨b4, 0, none⟩), .slice (some ⟨b5, 0, none⟩) N N, .int .i64 s.head.q], 45)] w') hf65 rfl rfl rfl rfl ca_20 ((head_any (hI8.nd6 0 rfl rfl rfl rfl rfl rfl) s (Has.cons (hI8.at 0 rfl) (Has.cons (hI8.at 1 rfl) (Has.cons (hI8.at 2 rfl) (Has.cons (hI8.at 3 rfl) (Has.cons (hI8.at 4 rfl) (Has.cons (hI8.at 5 rfl) Has.nil)))))) ).mono fun _ _ h => ⟨_, h.1, rfl, h.2⟩) fun ac60 v wd7 hR9 hf66 => ?_)
      obtain ⟨rfl, hR9⟩ := hR9
      have hI9 : Inv w [(b1, arr .i64 s.head.c.lk, 103), (b2, arr .i64 s.head.c.of, 3), (b3, arr .i64 s.head.c.mn, 3), (b4, #[.slice (some ⟨b1, 0, none⟩) (N + 2) (N + 2), .slice (some ⟨b2, 0, none⟩) N N, .slice (some ⟨b3, 0, none⟩) 2 2], 79), (b5, arr .i64 s.head.cr, 3), (b6, #[.pointer (some ⟨b4, 0, none⟩), .slice (some ⟨b5, 0, none⟩) N N, .int .i64 s.head.q], 45), (b8, arr .i64 ws, 3)] _ := Inv.callS (A := []) (S := [(b1, arr .i64 s.c.lk, 103), (b2, arr .i64 s.c.of, 3), (b3, arr .i64 s.c.mn, 3), (b4, #[.slice (some ⟨b1, 0, none⟩) (N + 2) (N + 2), .slice (some ⟨b2, 0, none⟩) N N, .slice (some ⟨b3, 0, none⟩) 2 2], 79), (b5, arr .i64 s.cr, 3), (b6, #[.pointer (some ⟨b4, 0, none⟩), .slice (some ⟨b5, 0, none⟩) N N, .int .i64 s.q], 45)]) (S' := [(b1, arr .i64 s.head.c.lk, 103), (b2, arr .i64 s.head.c.of, 3), (b3, arr .i64 s.head.c.mn, 3), (b4, #[.slice (some ⟨b1, 0, none⟩) (N + 2) (N + 2), .slice (some ⟨b2, 0, none⟩) N N, .slice (some ⟨b3, 0, none⟩) 2 2], 79), (b5, arr .i64 s.head.cr, 3), (b6, #[.pointer (some ⟨b4, 0, none⟩), .slice (some ⟨b5, 0, none⟩) N N, .int .i64 s.head.q], 45)]) (L := [(b8, arr .i64 ws, 3)]) (N := []) hI8 hR9 rfl (fun _ h => by cases h)
      obtain ⟨r10, er10⟩ : ∃ r : Ro N, r = s.head := ⟨_, rfl⟩
      rw [← er10] at hI9
      have hH := Ro.Fair.head hN hx2.2 er10
      have hG := hH
      rw [er10] at hG
      refine seq_one (op_val (v := .tuple #[.int .i64 s.head.f, .int .i64 s.headC, .bool s.head.ok]) hf66 rfl rfl rfl rfl rfl rfl (r_move rfl) fun ac61 hf67 => ?_)
      refine seq_one (op_val (v := .int .i64 s.head.f) hf67 rfl rfl rfl rfl rfl rfl (r_extract rfl rfl) fun ac62 hf68 => ?_)
      refine seq_one (op_val (v := .int .i64 s.headC) hf68 rfl rfl rfl rfl rfl rfl (r_extract rfl rfl) fun ac63 hf69 => ?_)
      refine seq_one (op_val (v := .bool s.head.ok) hf69 rfl rfl rfl rfl rfl rfl (r_extract rfl rfl) fun ac64 hf70 => ?_)
      refine seq_one (op_val (v := .int .i64 s.head.f) hf70 rfl rfl rfl rfl rfl rfl (r_assign rfl) fun ac65 hf71 => ?_)
      refine seq_one (op_val (v := .int .i64 s.headC) hf71 rfl rfl rfl rfl rfl rfl (r_assign rfl) fun ac66 hf72 => ?_)
      refine seq_one (op_val (v := .bool s.head.ok) hf72 rfl rfl rfl rfl rfl rfl (r_assign rfl) fun ac67 hf73 => ?_)
      refine seq_end ?_
      clear ac58 hf64 ac59 wd6 hf65 hI8 hR9 ac60 hf66 ac61 hf67 ac62 hf68 ac63 hf69 ac64 hf70 ac65 hf71 ac66 hf72
      refine then_normal ?_
      refine code_seq ?_
      refine code_seq ?_
      refine seq_start (l := [0, 1, 2, 3, 4, 5, 6, 7, 8, 9, 10, 11, 12, 13, 14, 15, 16, 17, 18, 19]) rfl ?_
      refine seq_one (op_val (v := .bool s.head.ok) hf73 rfl rfl rfl rfl rfl rfl (r_move rfl) fun ac68 hf74 => ?_)
      refine seq_one (op_val (v := .bool (!s.head.ok)) hf74 rfl rfl rfl rfl rfl rfl (r_not rfl) fun ac69 hf75 => ?_)
      refine seq_one (op_val (v := .bool (!s.head.ok)) hf75 rfl rfl rfl rfl rfl rfl (r_move rfl) fun ac70 hf76 => ?_)
      have hf77 := hf76.know 80 (u := .bool false) rfl (congrArg Value.bool (by rw [hG.2.1]; rfl))
      refine seq_one (op_val (v := .int .i64 s.head.f) hf77 rfl rfl rfl rfl rfl rfl (r_move rfl) fun ac71 hf78 => ?_)
      refine seq_one (op_val (v := .bool (decide (s.head.f < 0))) hf78 rfl rfl rfl rfl rfl rfl (r_lss rfl rfl) fun ac72 hf79 => ?_)
      refine seq_one (op_val (v := .bool (decide (s.head.f < 0))) hf79 rfl rfl rfl rfl rfl rfl (r_pickF rfl rfl) fun ac73 hf80 => ?_)
      refine seq_one (op_val (v := .bool (decide (s.head.f < 0))) hf80 rfl rfl rfl rfl rfl rfl (r_move rfl) fun ac74 hf81 => ?_)
      have hf82 := hf81.know 84 (u := .bool false) rfl (congrArg Value.bool (decide_eq_false (by have := hG.2.2.2.2.1; omega)))
      refine seq_one (op_val (v := .int .i64 s.head.f) hf82 rfl rfl rfl rfl rfl rfl (r_move rfl) fun ac75 hf83 => ?_)
      refine seq_one (op_val (v := .int .i64 (N : Int)) hf83 rfl rfl rfl rfl rfl rfl (r_move rfl) fun ac76 hf84 => ?_)
      refine seq_one (op_val (v := .bool (decide (s.head.f ≥ (N : Int)))) hf84 rfl rfl rfl rfl rfl rfl (r_geq rfl rfl) fun ac77 hf85 => ?_)
      refine seq_one (op_val (v := .bool (decide (s.head.f ≥ (N : Int)))) hf85 rfl rfl rfl rfl rfl rfl (r_pickF rfl rfl) fun ac78 hf86 => ?_)
      refine seq_one (op_val (v := .bool (decide (s.head.f ≥ (N : Int)))) hf86 rfl rfl rfl rfl rfl rfl (r_move rfl) fun ac79 hf87 => ?_)
      have hf88 := hf87.know 89 (u := .bool false) rfl (congrArg Value.bool (decide_eq_false (by have := hG.2.2.2.2.1; omega)))
      refine seq_one (op_val (v := .int .i64 s.headC) hf88 rfl rfl rfl rfl rfl rfl (r_move rfl) fun ac80 hf89 => ?_)
      refine seq_one (op_val (v := .bool (decide (s.headC < 1))) hf89 rfl rfl rfl rfl rfl rfl (r_lss rfl rfl) fun ac81 hf90 => ?_)
      refine seq_one (op_val (v := .bool (decide (s.headC < 1))) hf90 rfl rfl rfl rfl rfl rfl (r_pickF rfl rfl) fun ac82 hf91 => ?_)
      refine seq_one (op_val (v := .bool (decide (s.headC < 1))) hf91 rfl rfl rfl rfl rfl rfl (r_move rfl) fun ac83 hf92 => ?_)
      have hf93 := hf92.know 93 (u := .bool false) rfl (congrArg Value.bool (decide_eq_false (by have := hH.2.2.1; have := hH.2.2.2.1; have := hH.2.2.2.2.2; omega)))
      refine seq_one (op_val (v := .int .i64 s.headC) hf93 rfl rfl rfl rfl rfl rfl (r_move rfl) fun ac84 hf94 => ?_)
      refine seq_one (op_val (v := .int .i64 q) hf94 rfl rfl rfl rfl rfl rfl (r_move rfl) fun ac85 hf95 => ?_)
      refine seq_one (op_val (v := .bool (decide (s.headC > q))) hf95 rfl rfl rfl rfl rfl rfl (r_gtr rfl rfl) fun ac86 hf96 => ?_)
      refine seq_one (op_val (v := .bool (decide (s.headC > q))) hf96 rfl rfl rfl rfl rfl rfl (r_pickF rfl rfl) fun ac87 hf97 => ?_)
      refine seq_end ?_
      clear ac67 hf73 ac68 hf74 ac69 hf75 hf76 ac70 hf77 ac71 hf78 ac72 hf79 ac73 hf80 hf81 ac74 hf82 ac75 hf83 ac76 hf84 ac77 hf85 ac78 hf86 hf87 ac79 hf88 ac80 hf89 ac81 hf90 ac82 hf91 hf92 ac83 hf93 ac84 hf94 ac85 hf95 ac86 hf96
      refine then_normal ?_
      have hf98 := hf97.know 97 (u := .bool false) rfl (congrArg Value.bool (decide_eq_false (by have := hH.2.2.1; have := hH.2.2.2.1; have := hH.2.2.2.2.2; omega)))
      refine code_if_false hf98 rfl ?_
      refine wp_skip ?_
      refine then_normal ?_
      refine code_seq ?_
      refine seq_start (l := [0]) rfl ?_
      refine seq_one (op_val (v := .int .i64 1) hf98 rfl rfl rfl rfl rfl rfl (r_assign rfl) fun ac88 hf99 => ?_)
      refine seq_end ?_
      clear hf97 ac87 hf98
      refine then_normal ?_
      refine code_seq ?_
      refine code_seq ?_
      refine seq_start (l := [0, 1, 2]) rfl ?_
      refine seq_one (op_val (v := .slice pl Ml capl) hf99 rfl rfl rfl rfl rfl rfl (r_move rfl) fun ac89 hf100 => ?_)
      refine seq_one (op_val (v := .int .i64 (Ml : Int)) hf100 rfl rfl rfl rfl rfl rfl (r_len sl_81 rfl) fun ac90 hf101 => ?_)
      refine seq_one (op_val (v := .bool (decide ((Ml : Int) > 0))) hf101 rfl rfl rfl rfl rfl rfl (r_gtr rfl rfl) fun ac91 hf102 => ?_)
      refine seq_end ?_
      clear ac88 hf99 ac89 hf100 ac90 hf101
      refine then_normal ?_
      refine code_joinG 162 ((Int)) (fun (z : Int) => [(0, .int .u16 a), (1, .int .u8 b), (2, .slice pc Mc capc), (3, .slice pl Ml capl), (4, .int .u8 c1), (5, .int .u8 d1), (13, .int .i64 q), (14, .int .i64 (N : Int)), (15, .pointer (some ⟨b6, 0, none⟩)), (16, .int .i64 0), (19, .slice (some ⟨b8, 0, none⟩) N N), (20, .int .i64 (j : Int)), (21, .int .i64 s.head.f), (22, .int .i64 s.headC), (23, .bool s.head.ok), (29, .int .u16 a), (30, .int .i64 a), (31, .int .i64 q), (32, .int .u8 b), (33, .int .u8 f7), (34, .int .i64 f7), (35, .int .i64 (N : Int)), (36, .tuple #[.pointer (some ⟨b6, 0, none⟩), .int .i64 0]), (37, .int .i64 (N : Int)), (38, .int .i64 q), (39, .tuple #[.pointer (some ⟨b6, 0, none⟩), .int .i64 0]), (40, .pointer (some ⟨b6, 0, none⟩)), (41, .int .i64 0), (42, .int .i64 0), (43, .bool false), (44, .int .i64 (N : Int)), (45, .int .i64 (i : Int)), (46, .bool false), (67, .int .i64 (N : Int)), (68, .slice (some ⟨b8, 0, none⟩) N N), (69, .int .i64 (j : Int)), (70, .bool true), (71, .int .i64 (j : Int)), (72, .tuple #[.int .i64 s.head.f, .int .i64 s.headC, .bool s.head.ok]), (73, .pointer (some ⟨b6, 0, none⟩)), (74, .tuple #[.int .i64 s.head.f, .int .i64 s.headC, .bool s.head.ok]), (75, .int .i64 s.head.f), (76, .int .i64 s.headC), (77, .bool s.head.ok), (78, .bool s.head.ok), (79, .bool (!s.head.ok)), (80, .bool false), (81, .int .i64 s.head.f), (82, .bool (decide (s.head.f < 0))), (83, .bool (decide (s.head.f < 0))), (84, .bool false), (85, .int .i64 s.head.f), (86, .int .i64 (N : Int)), (87, .bool (decide (s.head.f ≥ (N : Int)))), (88, .bool (decide (s.head.f ≥ (N : Int)))), (89, .bool false), (90, .int .i64 s.headC), (91, .bool (decide (s.headC < 1))), (92, .bool (decide (s.headC < 1))), (93, .bool false), (94, .int .i64 s.headC), (95, .int .i64 q), (96, .bool (decide (s.headC > q))), (97, .bool false), (98, .slice pl Ml capl), (99, .int .i64 (Ml : Int)), (24, .int .i64 z)]) (fun (z : Int) => fun w' => Inv w [(b1, arr .i64 r10.c.lk, 103), (b2, arr .i64 r10.c.of, 3), (b3, arr .i64 r10.c.mn, 3), (b4, #[.slice (some ⟨b1, 0, none⟩) (N + 2) (N + 2), .slice (some ⟨b2, 0, none⟩) N N, .slice (some ⟨b3, 0, none⟩) 2 2], 79), (b5, arr .i64 r10.cr, 3), (b6, #[.pointer (some ⟨b4, 0, none⟩), .slice (some ⟨b5, 0, none⟩) N N, .int .i64 r10.q], 45), (b8, arr .i64 ws, 3)] w' ∧ (1 ≤ z ∧ z ≤ 4096)) ?_ ?_
      ·
        refine code_if hf102 rfl (fun c100_4 => ?_) (fun c100_4 => ?_)
        · have hf103 := hf102.know 100 (u := .bool true) rfl (congrArg Value.bool c100_4)
          refine seq_start (l := [0, 1, 2, 3, 4, 5, 6, 7, 8, 9, 10]) rfl ?_
          refine seq_one (op_val (v := .slice pl Ml capl) hf103 rfl rfl rfl rfl rfl rfl (r_move rfl) fun ac92 hf104 => ?_)
          refine seq_one (op_val (v := .int .i64 (j : Int)) hf104 rfl rfl rfl rfl rfl rfl (r_move rfl) fun ac93 hf105 => ?_)
          refine seq_one (op_val (v := .slice pl Ml capl) hf105 rfl rfl rfl rfl rfl rfl (r_move rfl) fun ac94 hf106 => ?_)
          refine seq_one (op_val (v := .int .i64 (Ml : Int)) hf106 rfl rfl rfl rfl rfl rfl (r_len sl_81 rfl) fun ac95 hf107 => ?_)
          have hM := of_decide_eq_true c100_4
          refine seq_one (op_val (v := .int .i64 ((j % Ml : Nat) : Int)) hf107 rfl rfl rfl rfl rfl rfl (r_rem (c := ((j % Ml : Nat) : Int)) rfl rfl (by omega) (by rw [Int.ofNat_tmod])) fun ac96 hf108 => ?_)
          refine seq_one (op_val (v := .pointer (slAt pl (j % Ml))) hf108 rfl rfl rfl rfl rfl rfl (r_indexAddrV (i := (j % Ml)) sl_81 rfl rfl rfl (by have := Nat.mod_lt j (show 0 < Ml by omega); omega) (let r := (hrl.old hI9 (fresh_keys (ks := [b1, b2, b3, b4, b5, b6, b8]) rfl (fk_cons hb1 (fk_cons hb2 (fk_cons hb3 (fk_cons hb4 (fk_cons hb5 (fk_cons hb6 (fk_cons hb8 fk_nil))))))))) (j % Ml) (by have := Nat.mod_lt j (show 0 < Ml by omega); omega); ⟨r.choose, r.choose_spec.1⟩)) fun ac97 hf109 => ?_)
          refine seq_one (op_val (v := .int .u16 (ls.getD (j % Ml) 0)) hf109 rfl rfl rfl rfl rfl rfl (r_loadV ag_22 rfl (hrl.old hI9 (fresh_keys (ks := [b1, b2, b3, b4, b5, b6, b8]) rfl (fk_cons hb1 (fk_cons hb2 (fk_cons hb3 (fk_cons hb4 (fk_cons hb5 (fk_cons hb6 (fk_cons hb8 fk_nil))))))))) (by have := Nat.mod_lt j (show 0 < Ml by omega); omega)) fun ac98 hf110 => ?_)
          refine seq_one (op_val (v := .int .i64 (ls.getD (j % Ml) 0)) hf110 rfl rfl rfl rfl rfl rfl (r_conv (c := ls.getD (j % Ml) 0) ui_22 ui_3 rfl (wrap_i64 (by have := bounds_u16 (hkl.getD (show j % Ml < ls.length by have := Nat.mod_lt j (show 0 < Ml by have := of_decide_eq_true c100_4; omega); omega)); omega) (by have := bounds_u16 (hkl.getD (show j % Ml < ls.length by have := Nat.mod_lt j (show 0 < Ml by have := of_decide_eq_true c100_4; omega); omega)); omega))) fun ac99 hf111 => ?_)
          refine seq_one (op_val (v := .int .i64 ((ls.getD (j % Ml) 0).tmod 4096)) hf111 rfl rfl rfl rfl rfl rfl (r_rem (c := ((ls.getD (j % Ml) 0).tmod 4096)) rfl rfl (by omega) rfl) fun ac100 hf112 => ?_)
          refine seq_one (op_val (v := .int .i64 (1 + (ls.getD (j % Ml) 0).tmod 4096)) hf112 rfl rfl rfl rfl rfl rfl (r_add (c := (1 + (ls.getD (j % Ml) 0).tmod 4096)) rfl rfl (wrap_i64 (by have := (size_b (x := ls.getD (j % Ml) 0) (by have := bounds_u16 (hkl.getD (show j % Ml < ls.length by have := Nat.mod_lt j (show 0 < Ml by have := of_decide_eq_true c100_4; omega); omega)); omega)); omega) (by have := (size_b (x := ls.getD (j % Ml) 0) (by have := bounds_u16 (hkl.getD (show j % Ml < ls.length by have := Nat.mod_lt j (show 0 < Ml by have := of_decide_eq_true c100_4; omega); omega)); omega)); omega))) fun ac101 hf113 => ?_)
          refine seq_one (op_val (v := .int .i64 (1 + (ls.getD (j % Ml) 0).tmod 4096)) hf113 rfl rfl rfl rfl rfl rfl (r_assign rfl) fun ac102 hf114 => ?_)
          refine seq_end ?_
          clear hf102 ac91 hf103 ac92 hf104 ac93 hf105 ac94 hf106 ac95 hf107 ac96 hf108 ac97 hf109 ac98 hf110 ac99 hf111 ac100 hf112 ac101 hf113
          refine then_normal ?_
          exact ⟨((1 + (ls.getD (j % Ml) 0).tmod 4096)), (hf114.cons 0 rfl (hf114.cons 1 rfl (hf114.cons 2 rfl (hf114.cons 3 rfl (hf114.cons 4 rfl (hf114.cons 5 rfl (hf114.cons 13 rfl (hf114.cons 14 rfl (hf114.cons 15 rfl (hf114.cons 16 rfl (hf114.cons 19 rfl (hf114.cons 20 rfl (hf114.cons 21 rfl (hf114.cons 22 rfl (hf114.cons 23 rfl (hf114.cons 29 rfl (hf114.cons 30 rfl (hf114.cons 31 rfl (hf114.cons 32 rfl (hf114.cons 33 rfl (hf114.cons 34 rfl (hf114.cons 35 rfl (hf114.cons 36 rfl (hf114.cons 37 rfl (hf114.cons 38 rfl (hf114.cons 39 rfl (hf114.cons 40 rfl (hf114.cons 41 rfl (hf114.cons 42 rfl (hf114.cons 43 rfl (hf114.cons 44 rfl (hf114.cons 45 rfl (hf114.cons 46 rfl (hf114.cons 67 rfl (hf114.cons 68 rfl (hf114.cons 69 rfl (hf114.cons 70 rfl (hf114.cons 71 rfl (hf114.cons 72 rfl (hf114.cons 73 rfl (hf114.cons 74 rfl (hf114.cons 75 rfl (hf114.cons 76 rfl (hf114.cons 77 rfl (hf114.cons 78 rfl (hf114.cons 79 rfl (hf114.cons 80 rfl (hf114.cons 81 rfl (hf114.cons 82 rfl (hf114.cons 83 rfl (hf114.cons 84 rfl (hf114.cons 85 rfl (hf114.cons 86 rfl (hf114.cons 87 rfl (hf114.cons 88 rfl (hf114.cons 89 rfl (hf114.cons 90 rfl (hf114.cons 91 rfl (hf114.cons 92 rfl (hf114.cons 93 rfl (hf114.cons 94 rfl (hf114.cons 95 rfl (hf114.cons 96 rfl (hf114.cons 97 rfl (hf114.cons 98 rfl (hf114.cons 99 rfl (hf114.cons 24 rfl hf114.nil))))))))))))))))))))))))))))))))))))))))))))))))))))))))))))))))))), ⟨hI9, (size_b (x := ls.getD (j % Ml) 0) (by have := bounds_u16 (hkl.getD (show j % Ml < ls.length by have := Nat.mod_lt j (show 0 < Ml by have := of_decide_eq_true c100_4; omega); omega)); omega))⟩⟩
        · have hf115 := hf102.know 100 (u := .bool false) rfl (congrArg Value.bool c100_4)
          refine wp_skip ?_
          refine then_normal ?_
          clear hf102
          exact ⟨(1), (hf115.cons 0 rfl (hf115.cons 1 rfl (hf115.cons 2 rfl (hf115.cons 3 rfl (hf115.cons 4 rfl (hf115.cons 5 rfl (hf115.cons 13 rfl (hf115.cons 14 rfl (hf115.cons 15 rfl (hf115.cons 16 rfl (hf115.cons 19 rfl (hf115.cons 20 rfl (hf115.cons 21 rfl (hf115.cons 22 rfl (hf115.cons 23 rfl (hf115.cons 29 rfl (hf115.cons 30 rfl (hf115.cons 31 rfl (hf115.cons 32 rfl (hf115.cons 33 rfl (hf115.cons 34 rfl (hf115.cons 35 rfl (hf115.cons 36 rfl (hf115.cons 37 rfl (hf115.cons 38 rfl (hf115.cons 39 rfl (hf115.cons 40 rfl (hf115.cons 41 rfl (hf115.cons 42 rfl (hf115.cons 43 rfl (hf115.cons 44 rfl (hf115.cons 45 rfl (hf115.cons 46 rfl (hf115.cons 67 rfl (hf115.cons 68 rfl (hf115.cons 69 rfl (hf115.cons 70 rfl (hf115.cons 71 rfl (hf115.cons 72 rfl (hf115.cons 73 rfl (hf115.cons 74 rfl (hf115.cons 75 rfl (hf115.cons 76 rfl (hf115.cons 77 rfl (hf115.cons 78 rfl (hf115.cons 79 rfl (hf115.cons 80 rfl (hf115.cons 81 rfl (hf115.cons 82 rfl (hf115.cons 83 rfl (hf115.cons 84 rfl (hf115.cons 85 rfl (hf115.cons 86 rfl (hf115.cons 87 rfl (hf115.cons 88 rfl (hf115.cons 89 rfl (hf115.cons 90 rfl (hf115.cons 91 rfl (hf115.cons 92 rfl (hf115.cons 93 rfl (hf115.cons 94 rfl (hf115.cons 95 rfl (hf115.cons 96 rfl (hf115.cons 97 rfl (hf115.cons 98 rfl (hf115.cons 99 rfl (hf115.cons 24 rfl hf115.nil))))))))))))))))))))))))))))))))))))))))))))))))))))))))))))))))))), ⟨hI9, (by omega)⟩⟩
      ·
        intro z ac103 wd8 hf116 ⟨hI10, hj10⟩
        clear ac91 wd7 hf102 hI9
        refine then_normal ?_
        refine code_seq ?_
        refine code_seq ?_
        refine seq_start (l := [0, 1, 2, 3, 4, 5]) rfl ?_
        refine seq_one (op_val (v := .pointer (some ⟨b6, 0, none⟩)) hf116 rfl rfl rfl rfl rfl rfl (r_move rfl) fun ac104 hf117 => ?_)
        refine seq_one (op_val (v := .int .i64 s.headC) hf117 rfl rfl rfl rfl rfl rfl (r_move rfl) fun ac105 hf118 => ?_)
        refine seq_one (op_val (v := .int .i64 z) hf118 rfl rfl rfl rfl rfl rfl (r_move rfl) fun ac106 hf119 => ?_)
        refine seq_one (op_val (v := .int .i64 (s.headC - z)) hf119 rfl rfl rfl rfl rfl rfl (r_sub (c := (s.headC - z)) rfl rfl (wrap_i64 (by have := hH.2.2.1; have := hH.2.2.2.1; have := hH.2.2.2.2.2; have := hj10; omega) (by have := hH.2.2.1; have := hH.2.2.2.1; have := hH.2.2.2.2.2; have := hj10; omega))) fun ac107 hf120 => ?_)
        refine seq_one (op_call (R := fun v w' => v = .int .i64 (r10.setE (s.headC - z)) ∧ Inv _ [(b1, arr .i64 ((r10.set (s.headC - z)).c).lk, 103), (b2, arr .i64 ((r10.set (s.headC - z)).c).of, 3), (b3, arr .i64 ((r10.set (s.headC - z)).c).mn, 3), (b4, #[.slice (some ⟨b1, 0, none⟩) (N + 2) (N + 2), .slice (some ⟨b2, 0, none⟩) N N, .slice (some ⟨b3, 0, none⟩) 2 2], 79), (b5, arr .i64 (r10.set (s.headC - z)).cr, 3), (b6, #[.pointer (some ⟨b4, 0, none⟩), .slice (some ⟨b5, 0, none⟩) N N, .int .i64 ((r10.set (s.headC - z)).q)], 45)] w') hf120 rfl rfl rfl rfl ca_22 ((set_any (hI10.nd6 0 rfl rfl rfl rfl rfl rfl) r10 (Has.cons (hI10.at 0 rfl) (Has.cons (hI10.at 1 rfl) (Has.cons (hI10.at 2 rfl) (Has.cons (hI10.at 3 rfl) (Has.cons (hI10.at 4 rfl) (Has.cons (hI10.at 5 rfl) Has.nil)))))) (s.headC - z)).mono fun _ _ h => ⟨_, h.1, rfl, h.2⟩) fun ac108 v wd9 hR11 hf121 => ?_)
        obtain ⟨rfl, hR11⟩ := hR11
        have hI11 : Inv w [(b1, arr .i64 ((r10.set (s.headC - z)).c).lk, 103), (b2, arr .i64 ((r10.set (s.headC - z)).c).of, 3), (b3, arr .i64 ((r10.set (s.headC - z)).c).mn, 3), (b4, #[.slice (some ⟨b1, 0, none⟩) (N + 2) (N + 2), .slice (some ⟨b2, 0, none⟩) N N, .slice (some ⟨b3, 0, none⟩) 2 2], 79), (b5, arr .i64 (r10.set (s.headC - z)).cr, 3), (b6, #[.pointer (some ⟨b4, 0, none⟩), .slice (some ⟨b5, 0, none⟩) N N, .int .i64 ((r10.set (s.headC - z)).q)], 45), (b8, arr .i64 ws, 3)] _ := Inv.callS (A := []) (S := [(b1, arr .i64 r10.c.lk, 103), (b2, arr .i64 r10.c.of, 3), (b3, arr .i64 r10.c.mn, 3), (b4, #[.slice (some ⟨b1, 0, none⟩) (N + 2) (N + 2), .slice (some ⟨b2, 0, none⟩) N N, .slice (some ⟨b3, 0, none⟩) 2 2], 79), (b5, arr .i64 r10.cr, 3), (b6, #[.pointer (some ⟨b4, 0, none⟩), .slice (some ⟨b5, 0, none⟩) N N, .int .i64 r10.q], 45)]) (S' := [(b1, arr .i64 ((r10.set (s.headC - z)).c).lk, 103), (b2, arr .i64 ((r10.set (s.headC - z)).c).of, 3), (b3, arr .i64 ((r10.set (s.headC - z)).c).mn, 3), (b4, #[.slice (some ⟨b1, 0, none⟩) (N + 2) (N + 2), .slice (some ⟨b2, 0, none⟩) N N, .slice (some ⟨b3, 0, none⟩) 2 2], 79), (b5, arr .i64 (r10.set (s.headC - z)).cr, 3), (b6, #[.pointer (some ⟨b4, 0, none⟩), .slice (some ⟨b5, 0, none⟩) N N, .int .i64 ((r10.set (s.headC - z)).q)], 45)]) (L := [(b8, arr .i64 ws, 3)]) (N := []) hI10 hR11 rfl (fun _ h => by cases h)
        obtain ⟨r12, er12⟩ : ∃ r : Ro N, r = (r10.set (s.headC - z)) := ⟨_, rfl⟩
        rw [← er12] at hI11
        refine seq_one (op_val (v := .bool ((r10.setE (s.headC - z)) != 0)) hf121 rfl rfl rfl rfl rfl rfl (r_neq rfl rfl) fun ac109 hf122 => ?_)
        refine seq_end ?_
        clear ac103 hf116 ac104 hf117 ac105 hf118 ac106 hf119 ac107 wd8 hf120 hI10 hR11 ac108 hf121
        refine then_normal ?_
        have hf123 := hf122.know 116 (u := .bool false) rfl (congrArg Value.bool (bne_eq_false_iff_eq.2 (by rw [hH.2.2.2.2.2]; exact (Ro.Fair.set hN hq hj10 hH.1 hH.2.1 hH.2.2.1 rfl).1)))
        refine code_if_false hf123 rfl ?_
        refine wp_skip ?_
        refine then_normal ?_
        refine code_seq ?_
        refine seq_start (l := [0, 1, 2, 3, 4, 5, 6, 7, 8, 9, 10, 11, 12, 13, 14]) rfl ?_
        refine seq_one (op_val (v := .int .i64 (j : Int)) hf123 rfl rfl rfl rfl rfl rfl (r_move rfl) fun ac110 hf124 => ?_)
        refine seq_one (op_val (v := .int .u8 c1) hf124 rfl rfl rfl rfl rfl rfl (r_move rfl) fun ac111 hf125 => ?_)
        refine seq_one (op_val (v := .int .i64 c1) hf125 rfl rfl rfl rfl rfl rfl (r_conv (c := c1) ui_5 ui_3 rfl (wrap_i64 (by omega) (by omega))) fun ac112 hf126 => ?_)
        refine seq_one (op_val (v := .int .i64 (lo : Int)) hf126 rfl rfl rfl rfl rfl rfl (r_rem (c := (lo : Int)) rfl rfl (by omega) elo) fun ac113 hf127 => ?_)
        refine seq_one (op_val (v := .bool (decide ((j : Int) ≥ (lo : Int)))) hf127 rfl rfl rfl rfl rfl rfl (r_geq rfl rfl) fun ac114 hf128 => ?_)
        refine seq_one (op_val (v := .bool (decide ((j : Int) ≥ (lo : Int)))) hf128 rfl rfl rfl rfl rfl rfl (r_move rfl) fun ac115 hf129 => ?_)
        rcases Bool.eq_false_or_eq_true (decide ((j : Int) ≥ (lo : Int)) : Bool) with g122_5 | g122_5
        · have hf130 := hf129.know 122 (u := .bool true) rfl (congrArg Value.bool g122_5)
          refine seq_one (op_val (v := .int .i64 (j : Int)) hf130 rfl rfl rfl rfl rfl rfl (r_move rfl) fun ac116 hf131 => ?_)
          refine seq_one (op_val (v := .int .u8 c1) hf131 rfl rfl rfl rfl rfl rfl (r_move rfl) fun ac117 hf132 => ?_)
          refine seq_one (op_val (v := .int .i64 c1) hf132 rfl rfl rfl rfl rfl rfl (r_conv (c := c1) ui_5 ui_3 rfl (wrap_i64 (by omega) (by omega))) fun ac118 hf133 => ?_)
          refine seq_one (op_val (v := .int .i64 (lo : Int)) hf133 rfl rfl rfl rfl rfl rfl (r_rem (c := (lo : Int)) rfl rfl (by omega) elo) fun ac119 hf134 => ?_)
          refine seq_one (op_val (v := .int .u8 d1) hf134 rfl rfl rfl rfl rfl rfl (r_move rfl) fun ac120 hf135 => ?_)
          refine seq_one (op_val (v := .int .i64 d1) hf135 rfl rfl rfl rfl rfl rfl (r_conv (c := d1) ui_5 ui_3 rfl (wrap_i64 (by omega) (by omega))) fun ac121 hf136 => ?_)
          refine seq_one (op_val (v := .int .i64 (up : Int)) hf136 rfl rfl rfl rfl rfl rfl (r_add (c := (up : Int)) rfl rfl (by rw [ehi]; exact (wrap_i64 (by omega) (by omega)))) fun ac122 hf137 => ?_)
          refine seq_one (op_val (v := .bool (decide ((j : Int) < (up : Int)))) hf137 rfl rfl rfl rfl rfl rfl (r_lss rfl rfl) fun ac123 hf138 => ?_)
          refine seq_one (op_val (v := .bool (decide ((j : Int) < (up : Int)))) hf138 rfl rfl rfl rfl rfl rfl (r_pickT rfl rfl) fun ac124 hf139 => ?_)
          refine seq_end ?_
          clear hf122 ac109 hf123 ac110 hf124 ac111 hf125 ac112 hf126 ac113 hf127 ac114 hf128 hf129 ac115 hf130 ac116 hf131 ac117 hf132 ac118 hf133 ac119 hf134 ac120 hf135 ac121 hf136 ac122 hf137 ac123 hf138
          refine then_normal ?_
          refine code_if hf139 rfl (fun c131_6 => ?_) (fun c131_6 => ?_)
          · have hf140 := hf139.know 131 (u := .bool true) rfl (congrArg Value.bool c131_6)
            refine seq_start (l := [0, 1, 2, 3, 4, 5, 6, 7]) rfl ?_
            refine seq_one (op_val (v := .slice (some ⟨b8, 0, none⟩) N N) hf140 rfl rfl rfl rfl rfl rfl (r_move rfl) fun ac125 hf141 => ?_)
            refine seq_one (op_val (v := .int .i64 s.head.f) hf141 rfl rfl rfl rfl rfl rfl (r_move rfl) fun ac126 hf142 => ?_)
            refine seq_one (op_val (v := .pointer (some ⟨b8, s.head.f.toNat, none⟩)) hf142 rfl rfl rfl rfl rfl rfl (r_indexAddrS (i := s.head.f.toNat) sl_27 rfl rfl (by have := hG.2.2.2.2.1; omega) (by have := hG.2.2.2.2.1; omega) (by rw [Nat.mul_one, Nat.zero_add])) fun ac127 hf143 => ?_)
            refine seq_one (op_val (v := .int .i64 (ws.getD s.head.f.toNat 0)) hf143 rfl rfl rfl rfl rfl rfl (r_load ag_3 rfl (hI11.at 6 rfl) (arr_get (Nat.lt_of_lt_of_eq (by have := hG.2.2.2.2.1; omega) (Eq.symm hx2.2.2.2.2.1)))) fun ac128 hf144 => ?_)
            refine seq_one (op_val (v := .int .i64 z) hf144 rfl rfl rfl rfl rfl rfl (r_move rfl) fun ac129 hf145 => ?_)
            refine seq_one (op_val (v := .int .i64 (ws.getD s.head.f.toNat 0 + z)) hf145 rfl rfl rfl rfl rfl rfl (r_add (c := (ws.getD s.head.f.toNat 0 + z)) rfl rfl (wrap_i64 (by have := hx2.2.2.2.2.2.1 s.head.f.toNat (by have := hG.2.2.2.2.1; omega); have := hx2.1; have := hj10; omega) (by have := hx2.2.2.2.2.2.1 s.head.f.toNat (by have := hG.2.2.2.2.1; omega); have := hx2.1; have := hj10; omega))) fun ac130 hf146 => ?_)
            refine seq_one (op_val (v := .pointer (some ⟨b8, s.head.f.toNat, none⟩)) hf146 rfl rfl rfl rfl rfl rfl (r_indexAddrS (i := s.head.f.toNat) sl_27 rfl rfl (by have := hG.2.2.2.2.1; omega) (by have := hG.2.2.2.2.1; omega) (by rw [Nat.mul_one, Nat.zero_add])) fun ac131 hf147 => ?_)
            refine seq_one (op_store (cs' := arr .i64 (ws.set s.head.f.toNat (ws.getD s.head.f.toNat 0 + z))) 6 hf147 rfl rfl rfl rfl rfl sz_3 hI11 rfl (Nat.lt_of_lt_of_eq (by have := hG.2.2.2.2.1; omega) (Eq.symm (arr_size hx2.2.2.2.2.1))) arr_set fun wd10 hI12 => ?_)
            have hI13 : Inv w [(b1, arr .i64 r12.c.lk, 103), (b2, arr .i64 r12.c.of, 3), (b3, arr .i64 r12.c.mn, 3), (b4, #[.slice (some ⟨b1, 0, none⟩) (N + 2) (N + 2), .slice (some ⟨b2, 0, none⟩) N N, .slice (some ⟨b3, 0, none⟩) 2 2], 79), (b5, arr .i64 r12.cr, 3), (b6, #[.pointer (some ⟨b4, 0, none⟩), .slice (some ⟨b5, 0, none⟩) N N, .int .i64 r12.q], 45), (b8, arr .i64 (ws.set s.head.f.toNat (ws.getD s.head.f.toNat 0 + z)), 3)] wd10 := hI12
            refine seq_end ?_
            clear hf139 ac124 hf140 ac125 hf141 ac126 hf142 ac127 hf143 ac128 hf144 ac129 hf145 ac130 hf146 wd9 hI11 hI12
            refine block_normal ?_
            refine then_normal ?_
            refine seq_start (l := [0, 1]) rfl ?_
            refine seq_one (op_val (v := .int .i64 ((j + 1 : Nat) : Int)) hf147 rfl rfl rfl rfl rfl rfl (r_add (c := ((j + 1 : Nat) : Int)) rfl rfl (wrap_i64 (by have := hx2.1; omega) (by have := hx2.1; omega))) fun ac132 hf148 => ?_)
            refine seq_one (op_val (v := .int .i64 ((j + 1 : Nat) : Int)) hf148 rfl rfl rfl rfl rfl rfl (r_move rfl) fun ac133 hf149 => ?_)
            refine seq_end ?_
            clear ac131 hf147 ac132 hf148
            refine then_normal ?_
            exact ⟨(j + 1, r12, (ws.set s.head.f.toNat (ws.getD s.head.f.toNat 0 + z))), (hf149.cons 0 rfl (hf149.cons 1 rfl (hf149.cons 2 rfl (hf149.cons 3 rfl (hf149.cons 4 rfl (hf149.cons 5 rfl (hf149.cons 13 rfl (hf149.cons 14 rfl (hf149.cons 15 rfl (hf149.cons 16 rfl (hf149.cons 19 rfl (hf149.cons 29 rfl (hf149.cons 30 rfl (hf149.cons 31 rfl (hf149.cons 32 rfl (hf149.cons 33 rfl (hf149.cons 34 rfl (hf149.cons 35 rfl (hf149.cons 36 rfl (hf149.cons 37 rfl (hf149.cons 38 rfl (hf149.cons 39 rfl (hf149.cons 40 rfl (hf149.cons 41 rfl (hf149.cons 42 rfl (hf149.cons 43 rfl (hf149.cons 44 rfl (hf149.cons 45 rfl (hf149.cons 46 rfl (hf149.cons 67 rfl (hf149.cons 68 rfl (hf149.cons 69 rfl hf149.nil)))))))))))))))))))))))))))))))), ⟨hI13, ⟨(by have := of_decide_eq_true c70_3; omega), (by have h := Ro.Fair.count (z := z) (t := r12) hN hq hj10 hH.1 hH.2.1 hH.2.2.1 (by rw [← hH.2.2.2.2.2]; exact er12) (by have := of_decide_eq_true g122_5; omega) (by have := of_decide_eq_true c131_6; omega); rw [er10] at h; exact h)⟩⟩, (by have := of_decide_eq_true c70_3; show 120 - (j + 1) < 120 - j; omega)⟩
          · have hf150 := hf139.know 131 (u := .bool false) rfl (congrArg Value.bool c131_6)
            refine wp_skip ?_
            refine block_normal ?_
            refine then_normal ?_
            refine seq_start (l := [0, 1]) rfl ?_
            refine seq_one (op_val (v := .int .i64 ((j + 1 : Nat) : Int)) hf150 rfl rfl rfl rfl rfl rfl (r_add (c := ((j + 1 : Nat) : Int)) rfl rfl (wrap_i64 (by have := hx2.1; omega) (by have := hx2.1; omega))) fun ac134 hf151 => ?_)
            refine seq_one (op_val (v := .int .i64 ((j + 1 : Nat) : Int)) hf151 rfl rfl rfl rfl rfl rfl (r_move rfl) fun ac135 hf152 => ?_)
            refine seq_end ?_
            clear hf139 ac124 hf150 ac134 hf151
            refine then_normal ?_
            exact ⟨(j + 1, r12, ws), (hf152.cons 0 rfl (hf152.cons 1 rfl (hf152.cons 2 rfl (hf152.cons 3 rfl (hf152.cons 4 rfl (hf152.cons 5 rfl (hf152.cons 13 rfl (hf152.cons 14 rfl (hf152.cons 15 rfl (hf152.cons 16 rfl (hf152.cons 19 rfl (hf152.cons 29 rfl (hf152.cons 30 rfl (hf152.cons 31 rfl (hf152.cons 32 rfl (hf152.cons 33 rfl (hf152.cons 34 rfl (hf152.cons 35 rfl (hf152.cons 36 rfl (hf152.cons 37 rfl (hf152.cons 38 rfl (hf152.cons 39 rfl (hf152.cons 40 rfl (hf152.cons 41 rfl (hf152.cons 42 rfl (hf152.cons 43 rfl (hf152.cons 44 rfl (hf152.cons 45 rfl (hf152.cons 46 rfl (hf152.cons 67 rfl (hf152.cons 68 rfl (hf152.cons 69 rfl hf152.nil)))))))))))))))))))))))))))))))), ⟨hI11, ⟨(by have := of_decide_eq_true c70_3; omega), (Ro.Fair.skip (z := z) (t := r12) hN hq hj10 hH.1 hH.2.1 hH.2.2.1 (by rw [← hH.2.2.2.2.2]; exact er12) (.inr (by have := of_decide_eq_false c131_6; omega)))⟩⟩, (by have := of_decide_eq_true c70_3; show 120 - (j + 1) < 120 - j; omega)⟩
        · have hf153 := hf129.know 122 (u := .bool false) rfl (congrArg Value.bool g122_5)
          refine seq_one (op_skip hf153 rfl rfl rfl rfl fun ac136 hf154 => ?_)
          refine seq_one (op_skip hf154 rfl rfl rfl rfl fun ac137 hf155 => ?_)
          refine seq_one (op_skip hf155 rfl rfl rfl rfl fun ac138 hf156 => ?_)
          refine seq_one (op_skip hf156 rfl rfl rfl rfl fun ac139 hf157 => ?_)
          refine seq_one (op_skip hf157 rfl rfl rfl rfl fun ac140 hf158 => ?_)
          refine seq_one (op_skip hf158 rfl rfl rfl rfl fun ac141 hf159 => ?_)
          refine seq_one (op_skip hf159 rfl rfl rfl rfl fun ac142 hf160 => ?_)
          refine seq_one (op_skip hf160 rfl rfl rfl rfl fun ac143 hf161 => ?_)
          refine seq_one (op_val (v := .bool false) hf161 rfl rfl rfl rfl rfl rfl (r_pickF rfl rfl) fun ac144 hf162 => ?_)
          refine seq_end ?_
          clear hf122 ac109 hf123 ac110 hf124 ac111 hf125 ac112 hf126 ac113 hf127 ac114 hf128 hf129 ac115 hf153 ac136 hf154 ac137 hf155 ac138 hf156 ac139 hf157 ac140 hf158 ac141 hf159 ac142 hf160 ac143 hf161
          refine then_normal ?_
          refine code_if_false hf162 rfl ?_
          refine wp_skip ?_
          refine block_normal ?_
          refine then_normal ?_
          refine seq_start (l := [0, 1]) rfl ?_
          refine seq_one (op_val (v := .int .i64 ((j + 1 : Nat) : Int)) hf162 rfl rfl rfl rfl rfl rfl (r_add (c := ((j + 1 : Nat) : Int)) rfl rfl (wrap_i64 (by have := hx2.1; omega) (by have := hx2.1; omega))) fun ac145 hf163 => ?_)
          refine seq_one (op_val (v := .int .i64 ((j + 1 : Nat) : Int)) hf163 rfl rfl rfl rfl rfl rfl (r_move rfl) fun ac146 hf164 => ?_)
          refine seq_end ?_
          clear ac144 hf162 ac145 hf163
          refine then_normal ?_
          exact ⟨(j + 1, r12, ws), (hf164.cons 0 rfl (hf164.cons 1 rfl (hf164.cons 2 rfl (hf164.cons 3 rfl (hf164.cons 4 rfl (hf164.cons 5 rfl (hf164.cons 13 rfl (hf164.cons 14 rfl (hf164.cons 15 rfl (hf164.cons 16 rfl (hf164.cons 19 rfl (hf164.cons 29 rfl (hf164.cons 30 rfl (hf164.cons 31 rfl (hf164.cons 32 rfl (hf164.cons 33 rfl (hf164.cons 34 rfl (hf164.cons 35 rfl (hf164.cons 36 rfl (hf164.cons 37 rfl (hf164.cons 38 rfl (hf164.cons 39 rfl (hf164.cons 40 rfl (hf164.cons 41 rfl (hf164.cons 42 rfl (hf164.cons 43 rfl (hf164.cons 44 rfl (hf164.cons 45 rfl (hf164.cons 46 rfl (hf164.cons 67 rfl (hf164.cons 68 rfl (hf164.cons 69 rfl hf164.nil)))))))))))))))))))))))))))))))), ⟨hI11, ⟨(by have := of_decide_eq_true c70_3; omega), (Ro.Fair.skip (z := z) (t := r12) hN hq hj10 hH.1 hH.2.1 hH.2.2.1 (by rw [← hH.2.2.2.2.2]; exact er12) (.inl (by have := of_decide_eq_false g122_5; omega)))⟩⟩, (by have := of_decide_eq_true c70_3; show 120 - (j + 1) < 120 - j; omega)⟩
    · have hf165 := hf61.know 70 (u := .bool false) rfl (congrArg Value.bool c70_3)
      refine wp_exit ?_
      refine then_exit ?_
      refine then_exit ?_
      refine block_here ?_
      refine then_normal ?_
      refine code_seq ?_
      refine code_seq ?_
      refine seq_start (l := [0, 1, 2]) rfl ?_
      refine seq_one (op_val (v := .slice (some ⟨b8, 0, none⟩) N N) hf165 rfl rfl rfl rfl rfl rfl (r_move rfl) fun ac147 hf166 => ?_)
      refine seq_one (op_val (v := .int .i64 (N : Int)) hf166 rfl rfl rfl rfl rfl rfl (r_len sl_27 rfl) fun ac148 hf167 => ?_)
      refine seq_one (op_val (v := .int .i64 0) hf167 rfl rfl rfl rfl rfl rfl (r_move rfl) fun ac149 hf168 => ?_)
      refine seq_end ?_
      clear hf61 ac56 hf165 ac147 hf166 ac148 hf167
      refine then_normal ?_
      refine wp_block ?_
      refine code_loop (α := Nat) (fun (k : Nat) => [(0, .int .u16 a), (1, .int .u8 b), (2, .slice pc Mc capc), (3, .slice pl Ml capl), (4, .int .u8 c1), (5, .int .u8 d1), (13, .int .i64 q), (14, .int .i64 (N : Int)), (15, .pointer (some ⟨b6, 0, none⟩)), (16, .int .i64 0), (19, .slice (some ⟨b8, 0, none⟩) N N), (29, .int .u16 a), (30, .int .i64 a), (31, .int .i64 q), (32, .int .u8 b), (33, .int .u8 f7), (34, .int .i64 f7), (35, .int .i64 (N : Int)), (36, .tuple #[.pointer (some ⟨b6, 0, none⟩), .int .i64 0]), (37, .int .i64 (N : Int)), (38, .int .i64 q), (39, .tuple #[.pointer (some ⟨b6, 0, none⟩), .int .i64 0]), (40, .pointer (some ⟨b6, 0, none⟩)), (41, .int .i64 0), (42, .int .i64 0), (43, .bool false), (44, .int .i64 (N : Int)), (45, .int .i64 (i : Int)), (46, .bool false), (67, .int .i64 (N : Int)), (68, .slice (some ⟨b8, 0, none⟩) N N), (69, .int .i64 (j : Int)), (70, .bool false), (140, .slice (some ⟨b8, 0, none⟩) N N), (141, .int .i64 (N : Int)), (142, .int .i64 (k : Int))]) (fun (k : Nat) => fun wL => Inv w [(b1, arr .i64 s.c.lk, 103), (b2, arr .i64 s.c.of, 3), (b3, arr .i64 s.c.mn, 3), (b4, #[.slice (some ⟨b1, 0, none⟩) (N + 2) (N + 2), .slice (some ⟨b2, 0, none⟩) N N, .slice (some ⟨b3, 0, none⟩) 2 2], 79), (b5, arr .i64 s.cr, 3), (b6, #[.pointer (some ⟨b4, 0, none⟩), .slice (some ⟨b5, 0, none⟩) N N, .int .i64 s.q], 45), (b8, arr .i64 ws, 3)] wL ∧ (k ≤ N)) (fun (k : Nat) => N - k) 0 (hf168.cons 0 rfl (hf168.cons 1 rfl (hf168.cons 2 rfl (hf168.cons 3 rfl (hf168.cons 4 rfl (hf168.cons 5 rfl (hf168.cons 13 rfl (hf168.cons 14 rfl (hf168.cons 15 rfl (hf168.cons 16 rfl (hf168.cons 19 rfl (hf168.cons 29 rfl (hf168.cons 30 rfl (hf168.cons 31 rfl (hf168.cons 32 rfl (hf168.cons 33 rfl (hf168.cons 34 rfl (hf168.cons 35 rfl (hf168.cons 36 rfl (hf168.cons 37 rfl (hf168.cons 38 rfl (hf168.cons 39 rfl (hf168.cons 40 rfl (hf168.cons 41 rfl (hf168.cons 42 rfl (hf168.cons 43 rfl (hf168.cons 44 rfl (hf168.cons 45 rfl (hf168.cons 46 rfl (hf168.cons 67 rfl (hf168.cons 68 rfl (hf168.cons 69 rfl (hf168.cons 70 rfl (hf168.cons 140 rfl (hf168.cons 141 rfl (hf168.cons 142 rfl hf168.nil)))))))))))))))))))))))))))))))))))) ⟨hI8, Nat.zero_le _⟩ ?_
      intro k ac150 wd11 hf169 hL3
      obtain ⟨hI14, hx3⟩ := hL3
      clear ac149 wd6 hf168 hI8
      refine code_seq ?_
      refine seq_start (l := [0]) rfl ?_
      refine seq_one (op_val (v := .bool (decide ((k : Int) < (N : Int)))) hf169 rfl rfl rfl rfl rfl rfl (r_lss rfl rfl) fun ac151 hf170 => ?_)
      refine seq_end ?_
      clear ac150 hf169
      refine then_normal ?_
      refine code_seq ?_
      refine code_if hf170 rfl (fun c143_7 => ?_) (fun c143_7 => ?_)
      · have hf171 := hf170.know 143 (u := .bool true) rfl (congrArg Value.bool c143_7)
        refine wp_skip ?_
        refine then_normal ?_
        refine code_seq ?_
        refine wp_block ?_
        refine code_seq ?_
        refine seq_start (l := [0, 1, 2]) rfl ?_
        refine seq_one (op_val (v := .pointer (some ⟨b8, k, none⟩)) hf171 rfl rfl rfl rfl rfl rfl (r_indexAddrS (i := k) sl_27 rfl rfl rfl (by have := of_decide_eq_true c143_7; omega) (by rw [Nat.mul_one, Nat.zero_add])) fun ac152 hf172 => ?_)
        refine seq_one (op_val (v := .int .i64 (ws.getD k 0)) hf172 rfl rfl rfl rfl rfl rfl (r_load ag_3 rfl (hI14.at 6 rfl) (arr_get (Nat.lt_of_lt_of_eq (by have := of_decide_eq_true c143_7; omega) (Eq.symm hx2.2.2.2.2.1)))) fun ac153 hf173 => ?_)
        refine seq_one (op_val (v := .int .i64 (ws.getD k 0)) hf173 rfl rfl rfl rfl rfl rfl (r_assign rfl) fun ac154 hf174 => ?_)
        refine seq_end ?_
        clear hf170 ac151 hf171 ac152 hf172 ac153 hf173
        refine then_normal ?_
        refine code_seq ?_
        refine seq_start (l := [0, 1, 2]) rfl ?_
        refine seq_one (op_val (v := .slice (some ⟨b8, 0, none⟩) N N) hf174 rfl rfl rfl rfl rfl rfl (r_move rfl) fun ac155 hf175 => ?_)
        refine seq_one (op_val (v := .int .i64 (N : Int)) hf175 rfl rfl rfl rfl rfl rfl (r_len sl_27 rfl) fun ac156 hf176 => ?_)
        refine seq_one (op_val (v := .int .i64 0) hf176 rfl rfl rfl rfl rfl rfl (r_move rfl) fun ac157 hf177 => ?_)
        refine seq_end ?_
        clear ac154 hf174 ac155 hf175 ac156 hf176
        refine then_normal ?_
        refine wp_block ?_
        refine code_loop (α := Nat) (fun (m : Nat) => [(0, .int .u16 a), (1, .int .u8 b), (2, .slice pc Mc capc), (3, .slice pl Ml capl), (4, .int .u8 c1), (5, .int .u8 d1), (13, .int .i64 q), (14, .int .i64 (N : Int)), (15, .pointer (some ⟨b6, 0, none⟩)), (16, .int .i64 0), (19, .slice (some ⟨b8, 0, none⟩) N N), (26, .int .i64 (ws.getD k 0)), (29, .int .u16 a), (30, .int .i64 a), (31, .int .i64 q), (32, .int .u8 b), (33, .int .u8 f7), (34, .int .i64 f7), (35, .int .i64 (N : Int)), (36, .tuple #[.pointer (some ⟨b6, 0, none⟩), .int .i64 0]), (37, .int .i64 (N : Int)), (38, .int .i64 q), (39, .tuple #[.pointer (some ⟨b6, 0, none⟩), .int .i64 0]), (40, .pointer (some ⟨b6, 0, none⟩)), (41, .int .i64 0), (42, .int .i64 0), (43, .bool false), (44, .int .i64 (N : Int)), (45, .int .i64 (i : Int)), (46, .bool false), (67, .int .i64 (N : Int)), (68, .slice (some ⟨b8, 0, none⟩) N N), (69, .int .i64 (j : Int)), (70, .bool false), (140, .slice (some ⟨b8, 0, none⟩) N N), (141, .int .i64 (N : Int)), (142, .int .i64 (k : Int)), (143, .bool true), (144, .pointer (some ⟨b8, k, none⟩)), (145, .int .i64 (ws.getD k 0)), (146, .slice (some ⟨b8, 0, none⟩) N N), (147, .int .i64 (N : Int)), (148, .int .i64 (m : Int))]) (fun (m : Nat) => fun wL => Inv w [(b1, arr .i64 s.c.lk, 103), (b2, arr .i64 s.c.of, 3), (b3, arr .i64 s.c.mn, 3), (b4, #[.slice (some ⟨b1, 0, none⟩) (N + 2) (N + 2), .slice (some ⟨b2, 0, none⟩) N N, .slice (some ⟨b3, 0, none⟩) 2 2], 79), (b5, arr .i64 s.cr, 3), (b6, #[.pointer (some ⟨b4, 0, none⟩), .slice (some ⟨b5, 0, none⟩) N N, .int .i64 s.q], 45), (b8, arr .i64 ws, 3)] wL ∧ (m ≤ N)) (fun (m : Nat) => N - m) 0 (hf177.cons 0 rfl (hf177.cons 1 rfl (hf177.cons 2 rfl (hf177.cons 3 rfl (hf177.cons 4 rfl (hf177.cons 5 rfl (hf177.cons 13 rfl (hf177.cons 14 rfl (hf177.cons 15 rfl (hf177.cons 16 rfl (hf177.cons 19 rfl (hf177.cons 26 rfl (hf177.cons 29 rfl (hf177.cons 30 rfl (hf177.cons 31 rfl (hf177.cons 32 rfl (hf177.cons 33 rfl (hf177.cons 34 rfl (hf177.cons 35 rfl (hf177.cons 36 rfl (hf177.cons 37 rfl (hf177.cons 38 rfl (hf177.cons 39 rfl (hf177.cons 40 rfl (hf177.cons 41 rfl (hf177.cons 42 rfl (hf177.cons 43 rfl (hf177.cons 44 rfl (hf177.cons 45 rfl (hf177.cons 46 rfl (hf177.cons 67 rfl (hf177.cons 68 rfl (hf177.cons 69 rfl (hf177.cons 70 rfl (hf177.cons 140 rfl (hf177.cons 141 rfl (hf177.cons 142 rfl (hf177.cons 143 rfl (hf177.cons 144 rfl (hf177.cons 145 rfl (hf177.cons 146 rfl (hf177.cons 147 rfl (hf177.cons 148 rfl hf177.nil))))))))))))))))))))))))))))))))))))))))))) ⟨hI14, Nat.zero_le _⟩ ?_
        intro m ac158 wd12 hf178 hL4
        obtain ⟨hI15, hx4⟩ := hL4
        clear ac157 wd11 hf177 hI14
        refine code_seq ?_
        refine seq_start (l := [0]) rfl ?_
        refine seq_one (op_val (v := .bool (decide ((m : Int) < (N : Int)))) hf178 rfl rfl rfl rfl rfl rfl (r_lss rfl rfl) fun ac159 hf179 => ?_)
        refine seq_end ?_
        clear ac158 hf178
        refine then_normal ?_
        refine code_seq ?_
        refine code_if hf179 rfl (fun c149_8 => ?_) (fun c149_8 => ?_)
        · have hf180 := hf179.know 149 (u := .bool true) rfl (congrArg Value.bool c149_8)
          refine wp_skip ?_
          refine then_normal ?_
          refine code_seq ?_
          refine wp_block ?_
          refine code_seq ?_
          refine seq_start (l := [0, 1, 2]) rfl ?_
          refine seq_one (op_val (v := .pointer (some ⟨b8, m, none⟩)) hf180 rfl rfl rfl rfl rfl rfl (r_indexAddrS (i := m) sl_27 rfl rfl rfl (by have := of_decide_eq_true c149_8; omega) (by rw [Nat.mul_one, Nat.zero_add])) fun ac160 hf181 => ?_)
          refine seq_one (op_val (v := .int .i64 (ws.getD m 0)) hf181 rfl rfl rfl rfl rfl rfl (r_load ag_3 rfl (hI15.at 6 rfl) (arr_get (Nat.lt_of_lt_of_eq (by have := of_decide_eq_true c149_8; omega) (Eq.symm hx2.2.2.2.2.1)))) fun ac161 hf182 => ?_)
          refine seq_one (op_val (v := .int .i64 (ws.getD m 0)) hf182 rfl rfl rfl rfl rfl rfl (r_assign rfl) fun ac162 hf183 => ?_)
          refine seq_end ?_
          clear hf179 ac159 hf180 ac160 hf181 ac161 hf182
          refine then_normal ?_
          refine code_seq ?_
          refine seq_start (l := [0, 1, 2, 3, 4, 5, 6]) rfl ?_
          refine seq_one (op_val (v := .int .i64 (ws.getD k 0)) hf183 rfl rfl rfl rfl rfl rfl (r_move rfl) fun ac163 hf184 => ?_)
          refine seq_one (op_val (v := .int .i64 (ws.getD m 0)) hf184 rfl rfl rfl rfl rfl rfl (r_move rfl) fun ac164 hf185 => ?_)
          refine seq_one (op_val (v := .int .i64 (ws.getD k 0 - ws.getD m 0)) hf185 rfl rfl rfl rfl rfl rfl (r_sub (c := (ws.getD k 0 - ws.getD m 0)) rfl rfl (wrap_i64 (by have := hx2.2.2.2.2.2.1 k (by have := of_decide_eq_true c143_7; omega); have := hx2.2.2.2.2.2.1 m (by have := of_decide_eq_true c149_8; omega); have := hx2.1; omega) (by have := hx2.2.2.2.2.2.1 k (by have := of_decide_eq_true c143_7; omega); have := hx2.2.2.2.2.2.1 m (by have := of_decide_eq_true c149_8; omega); have := hx2.1; omega))) fun ac165 hf186 => ?_)
          refine seq_one (op_val (v := .int .i64 q) hf186 rfl rfl rfl rfl rfl rfl (r_move rfl) fun ac166 hf187 => ?_)
          refine seq_one (op_val (v := .int .i64 (3 * q)) hf187 rfl rfl rfl rfl rfl rfl (r_mul (c := (3 * q)) rfl rfl (wrap_i64 (by omega) (by omega))) fun ac167 hf188 => ?_)
          refine seq_one (op_val (v := .int .i64 (3 * q + 8192)) hf188 rfl rfl rfl rfl rfl rfl (r_add (c := (3 * q + 8192)) rfl rfl (wrap_i64 (by omega) (by omega))) fun ac168 hf189 => ?_)
          refine seq_one (op_val (v := .bool (decide ((ws.getD k 0 - ws.getD m 0) > (3 * q + 8192)))) hf189 rfl rfl rfl rfl rfl rfl (r_gtr rfl rfl) fun ac169 hf190 => ?_)
          refine seq_end ?_
          clear ac162 hf183 ac163 hf184 ac164 hf185 ac165 hf186 ac166 hf187 ac167 hf188 ac168 hf189
          refine then_normal ?_
          have hf191 := hf190.know 158 (u := .bool false) rfl (congrArg Value.bool (decide_eq_false (by have := hx2.2.2.2.2.2.2.1 k m (by have := of_decide_eq_true c143_7; omega) (by have := of_decide_eq_true c149_8; omega); omega)))
          refine code_if_false hf191 rfl ?_
          refine wp_skip ?_
          refine block_normal ?_
          refine then_normal ?_
          refine seq_start (l := [0, 1]) rfl ?_
          refine seq_one (op_val (v := .int .i64 ((m + 1 : Nat) : Int)) hf191 rfl rfl rfl rfl rfl rfl (r_add (c := ((m + 1 : Nat) : Int)) rfl rfl (wrap_i64 (by have := hx4; omega) (by have := hx4; omega))) fun ac170 hf192 => ?_)
          refine seq_one (op_val (v := .int .i64 ((m + 1 : Nat) : Int)) hf192 rfl rfl rfl rfl rfl rfl (r_move rfl) fun ac171 hf193 => ?_)
          refine seq_end ?_
          clear hf190 ac169 hf191 ac170 hf192
          refine then_normal ?_
          exact ⟨m + 1, (hf193.cons 0 rfl (hf193.cons 1 rfl (hf193.cons 2 rfl (hf193.cons 3 rfl (hf193.cons 4 rfl (hf193.cons 5 rfl (hf193.cons 13 rfl (hf193.cons 14 rfl (hf193.cons 15 rfl (hf193.cons 16 rfl (hf193.cons 19 rfl (hf193.cons 26 rfl (hf193.cons 29 rfl (hf193.cons 30 rfl (hf193.cons 31 rfl (hf193.cons 32 rfl (hf193.cons 33 rfl (hf193.cons 34 rfl (hf193.cons 35 rfl (hf193.cons 36 rfl (hf193.cons 37 rfl (hf193.cons 38 rfl (hf193.cons 39 rfl (hf193.cons 40 rfl (hf193.cons 41 rfl (hf193.cons 42 rfl (hf193.cons 43 rfl (hf193.cons 44 rfl (hf193.cons 45 rfl (hf193.cons 46 rfl (hf193.cons 67 rfl (hf193.cons 68 rfl (hf193.cons 69 rfl (hf193.cons 70 rfl (hf193.cons 140 rfl (hf193.cons 141 rfl (hf193.cons 142 rfl (hf193.cons 143 rfl (hf193.cons 144 rfl (hf193.cons 145 rfl (hf193.cons 146 rfl (hf193.cons 147 rfl (hf193.cons 148 rfl hf193.nil))))))))))))))))))))))))))))))))))))))))))), ⟨hI15, (by have := of_decide_eq_true c149_8; omega)⟩, (by have := of_decide_eq_true c149_8; show N - (m + 1) < N - m; omega)⟩
        · have hf194 := hf179.know 149 (u := .bool false) rfl (congrArg Value.bool c149_8)
          refine wp_exit ?_
          refine then_exit ?_
          refine then_exit ?_
          refine block_here ?_
          refine block_normal ?_
          refine then_normal ?_
          refine seq_start (l := [0, 1]) rfl ?_
          refine seq_one (op_val (v := .int .i64 ((k + 1 : Nat) : Int)) hf194 rfl rfl rfl rfl rfl rfl (r_add (c := ((k + 1 : Nat) : Int)) rfl rfl (wrap_i64 (by have := hx3; omega) (by have := hx3; omega))) fun ac172 hf195 => ?_)
          refine seq_one (op_val (v := .int .i64 ((k + 1 : Nat) : Int)) hf195 rfl rfl rfl rfl rfl rfl (r_move rfl) fun ac173 hf196 => ?_)
          refine seq_end ?_
          clear hf179 ac159 hf194 ac172 hf195
          refine then_normal ?_
          exact ⟨k + 1, (hf196.cons 0 rfl (hf196.cons 1 rfl (hf196.cons 2 rfl (hf196.cons 3 rfl (hf196.cons 4 rfl (hf196.cons 5 rfl (hf196.cons 13 rfl (hf196.cons 14 rfl (hf196.cons 15 rfl (hf196.cons 16 rfl (hf196.cons 19 rfl (hf196.cons 29 rfl (hf196.cons 30 rfl (hf196.cons 31 rfl (hf196.cons 32 rfl (hf196.cons 33 rfl (hf196.cons 34 rfl (hf196.cons 35 rfl (hf196.cons 36 rfl (hf196.cons 37 rfl (hf196.cons 38 rfl (hf196.cons 39 rfl (hf196.cons 40 rfl (hf196.cons 41 rfl (hf196.cons 42 rfl (hf196.cons 43 rfl (hf196.cons 44 rfl (hf196.cons 45 rfl (hf196.cons 46 rfl (hf196.cons 67 rfl (hf196.cons 68 rfl (hf196.cons 69 rfl (hf196.cons 70 rfl (hf196.cons 140 rfl (hf196.cons 141 rfl (hf196.cons 142 rfl hf196.nil)))))))))))))))))))))))))))))))))))), ⟨hI15, (by have := of_decide_eq_true c143_7; omega)⟩, (by have := of_decide_eq_true c143_7; show N - (k + 1) < N - k; omega)⟩
      · have hf197 := hf170.know 143 (u := .bool false) rfl (congrArg Value.bool c143_7)
        refine wp_exit ?_
        refine then_exit ?_
        refine then_exit ?_
        refine block_here ?_
        refine then_normal ?_
        refine code_seq ?_
        refine seq_start (l := [0, 1]) rfl ?_
        refine seq_one (op_pure hf197 rfl rfl rfl rfl ca_23 awake17_pur hI14 fun ac174 wd13 hI16 hf198 => ?_)
        refine seq_one (op_val (v := .bool true) hf198 rfl rfl rfl rfl rfl rfl (r_assign rfl) fun ac175 hf199 => ?_)
        refine seq_end ?_
        clear hf170 ac151 wd11 hI14 hf197 ac174 hf198
        refine then_normal ?_
        refine wp_ret ?_
        refine post1 rfl hf199 rfl ⟨?_, hI16.done (fresh_keys (ks := [b1, b2, b3, b4, b5, b6, b8]) rfl (fk_cons hb1 (fk_cons hb2 (fk_cons hb3 (fk_cons hb4 (fk_cons hb5 (fk_cons hb6 (fk_cons hb8 fk_nil))))))))⟩
        rfl
end Go.Proofs.Ytjelaoblpchmmaa
