/-
  The walk of ChainOrder.
-/
import Derived.Test.YtjelaoblpchmmaaPlain2
namespace Go.Proofs.Ytjelaoblpchmmaa
set_option linter.unusedVariables false
set_option linter.unusedSimpArgs false
set_option maxRecDepth 100000
open Go.RowKit
set_option maxHeartbeats 8000000 in
theorem chainOrder_walk {p : Option Addr} {L cap : Nat} {rows : List (List Value)} (hl : rows.length = L) (hc : L ≤ cap) (ho : ∀ row ∈ rows, Oks opKinds row) {q q2 : Option Addr} {M caq M2 caq2 : Nat} {ws ws2 : List Int} (hw : ws.length = M) (hm : M ≤ caq) (hks : InK .u8 ws) (hw2 : ws2.length = M2) (hm2 : M2 ≤ caq2) (hks2 : InK .u8 ws2) {a k : Int} (ek : a.tmod 4 = k) (hk : 0 ≤ k ∧ k < ((4 : Nat) : Int)) {w : World} (hr : Rows_ w p 3 rows) (hq : Rd w .u8 q ws) (hq2 : Rd w .u8 q2 ws2) : Calls Try.prog 7 [.slice p L cap, .int .u8 a, .slice q M caq, .slice q2 M2 caq2].toArray w fun e w' => e = .returned (.bool true) ∧ Inv w [] w' := by
  have hI1 := Inv.start w
  refine enter (n := 153) Try.func7 rfl rfl rfl ?_
  intro ac1 hf1
  refine code_seq ?_
  refine seq_start (l := [0]) rfl ?_
  refine seq_one (op_val (v := .bool false) hf1 rfl rfl rfl rfl rfl rfl (r_assign rfl) fun ac2 hf2 => ?_)
  refine seq_end ?_
  clear ac1 hf1
  refine then_normal ?_
  refine code_seq ?_
  refine seq_start (l := [0, 1, 2]) rfl ?_
  refine seq_one (op_val (v := .slice p L cap) hf2 rfl rfl rfl rfl rfl rfl (r_move rfl) fun ac3 hf3 => ?_)
  refine seq_one (op_call (R := fun v w' => ∃ lb ob mb cb, Array.size (World.heap w) ≤ lb ∧ Array.size (World.heap w) ≤ ob ∧ Array.size (World.heap w) ≤ mb ∧ Array.size (World.heap w) ≤ cb ∧ ∃ c : Ch 20 4, v = .pointer (some ⟨cb, 0, none⟩) ∧ Inv w [(lb, arr .i64 c.lk, 103), (ob, arr .i64 c.of, 3), (mb, arr .i64 c.mn, 3), (cb, #[.slice (some ⟨lb, 0, none⟩) (20 + 4) (20 + 4), .slice (some ⟨ob, 0, none⟩) 20 20, .slice (some ⟨mb, 0, none⟩) 4 4], 79)] w') hf3 rfl rfl rfl rfl ca_27 ((played_walk hl hc ho (hr.old hI1 (fresh_keys (ks := []) rfl fk_nil))).mono fun e w' ⟨lb, ob, mb, cb, h1, h2, h3, h4, c, h5, h6⟩ => ⟨_, h5, lb, ob, mb, cb, h1, h2, h3, h4, c, rfl, h6⟩) fun ac4 v wd1 hR hf4 => ?_)
  obtain ⟨b1, b2, b3, b4, hqb1, hqb2, hqb3, hqb4, c4, rfl, hw4⟩ := hR
  have hb1 := Nat.le_trans hI1.size hqb1
  have hb2 := Nat.le_trans hI1.size hqb2
  have hb3 := Nat.le_trans hI1.size hqb3
  have hb4 := Nat.le_trans hI1.size hqb4
  have hI2 : Inv w [(b1, arr .i64 c4.lk, 103), (b2, arr .i64 c4.of, 3), (b3, arr .i64 c4.mn, 3), (b4, #[.slice (some ⟨b1, 0, none⟩) (20 + 4) (20 + 4), .slice (some ⟨b2, 0, none⟩) 20 20, .slice (some ⟨b3, 0, none⟩) 4 4], 79)] _ := hI1.callN hw4 (fk4 hqb1 hqb2 hqb3 hqb4)
  refine seq_one (op_val (v := .pointer (some ⟨b4, 0, none⟩)) hf4 rfl rfl rfl rfl rfl rfl (r_assign rfl) fun ac5 hf5 => ?_)
  refine seq_end ?_
  clear ac2 hf2 ac3 hf3 hI1 hw4 hqb1 hqb2 hqb3 hqb4 ac4 hf4
  refine then_normal ?_
  refine code_seq ?_
  refine seq_start (l := [0, 1, 2, 3]) rfl ?_
  refine seq_one (op_val (v := .int .u8 a) hf5 rfl rfl rfl rfl rfl rfl (r_move rfl) fun ac6 hf6 => ?_)
  refine seq_one (op_val (v := .int .u8 k) hf6 rfl rfl rfl rfl rfl rfl (r_rem (c := k) rfl rfl (by omega) ek) fun ac7 hf7 => ?_)
  refine seq_one (op_val (v := .int .i64 k) hf7 rfl rfl rfl rfl rfl rfl (r_conv (c := k) ui_5 ui_3 rfl (wrap_i64 (by omega) (by omega))) fun ac8 hf8 => ?_)
  refine seq_one (op_val (v := .int .i64 k) hf8 rfl rfl rfl rfl rfl rfl (r_assign rfl) fun ac9 hf9 => ?_)
  refine seq_end ?_
  clear ac5 hf5 ac6 hf6 ac7 hf7 ac8 hf8
  refine then_normal ?_
  refine code_seq ?_
  refine seq_start (l := [0, 1, 2, 3]) rfl ?_
  refine seq_one (op_val (v := .pointer (some ⟨b4, 0, none⟩)) hf9 rfl rfl rfl rfl rfl rfl (r_move rfl) fun ac10 hf10 => ?_)
  refine seq_one (op_val (v := .int .i64 k) hf10 rfl rfl rfl rfl rfl rfl (r_move rfl) fun ac11 hf11 => ?_)
  refine seq_one (op_call (R := fun v w' => ∃ S p cap, v = .slice p (c4.lst k).length cap ∧ Sl 3 .i64 S p cap (c4.lst k) ∧ Inv _ S w' ∧ ∀ x ∈ S, Array.size (World.heap _) ≤ x.1) hf11 rfl rfl rfl rfl ca_28 ((list_any (hI2.nd 0 rfl rfl rfl rfl) c4 (Has.cons (hI2.at 0 rfl) (Has.cons (hI2.at 1 rfl) (Has.cons (hI2.at 2 rfl) (Has.cons (hI2.at 3 rfl) Has.nil)))) k).mono fun _ _ ⟨S, p, cap, he, h1, h3, h4⟩ => ⟨_, he, S, p, cap, rfl, h1, h3, h4⟩) fun ac12 v wd2 hR hf12 => ?_)
  obtain ⟨Sq5, q5, capq5, rfl, hsq5, hwq5, hzq5⟩ := hR
  have hyq5 := fk_le hI2.size hzq5
  have hI3 : Inv w ([(b1, arr .i64 c4.lk, 103), (b2, arr .i64 c4.of, 3), (b3, arr .i64 c4.mn, 3), (b4, #[.slice (some ⟨b1, 0, none⟩) (20 + 4) (20 + 4), .slice (some ⟨b2, 0, none⟩) 20 20, .slice (some ⟨b3, 0, none⟩) 4 4], 79)] ++ Sq5) _ := hI2.callN hwq5 hzq5
  refine seq_one (op_val (v := .slice q5 ((c4.lst k).length) capq5) hf12 rfl rfl rfl rfl rfl rfl (r_assign rfl) fun ac13 hf13 => ?_)
  refine seq_end ?_
  clear ac9 hf9 ac10 hf10 ac11 wd1 hf11 hI2 hwq5 hzq5 ac12 hf12
  refine then_normal ?_
  refine code_seq ?_
  refine code_seq ?_
  refine seq_start (l := [0, 1, 2, 3, 4, 5, 6]) rfl ?_
  refine seq_one (op_val (v := .slice q M caq) hf13 rfl rfl rfl rfl rfl rfl (r_move rfl) fun ac14 hf14 => ?_)
  refine seq_one (op_val (v := .slice q M caq) hf14 rfl rfl rfl rfl rfl rfl (r_move rfl) fun ac15 hf15 => ?_)
  refine seq_one (op_val (v := .int .i64 (M : Int)) hf15 rfl rfl rfl rfl rfl rfl (r_len sl_72 rfl) fun ac16 hf16 => ?_)
  refine seq_one (op_val (v := .int .i64 ((min M 40 : Nat) : Int)) hf16 rfl rfl rfl rfl rfl rfl (r_minC (c := ((min M 40 : Nat) : Int)) rfl rfl (by split <;> omega)) fun ac17 hf17 => ?_)
  refine seq_one (op_val (v := .slice q (min M 40) caq) hf17 rfl rfl rfl rfl rfl rfl (r_sliceH (h := (min M 40)) sl_72 rfl rfl (by omega)) fun ac18 hf18 => ?_)
  refine seq_one (op_val (v := .int .i64 (((min M 40) : Nat) : Int)) hf18 rfl rfl rfl rfl rfl rfl (r_len sl_72 rfl) fun ac19 hf19 => ?_)
  refine seq_one (op_val (v := .int .i64 0) hf19 rfl rfl rfl rfl rfl rfl (r_move rfl) fun ac20 hf20 => ?_)
  refine seq_end ?_
  clear ac13 hf13 ac14 hf14 ac15 hf15 ac16 hf16 ac17 hf17 ac18 hf18 ac19 hf19
  refine then_normal ?_
  refine wp_block ?_
  refine code_loop (α := Nat × (Ch 20 4) × (Option Addr) × Nat × (List Blk)) (fun (x : Nat × (Ch 20 4) × (Option Addr) × Nat × (List Blk)) => match x with | (i, c, pp, capp, S) => [(0, .slice p L cap), (1, .int .u8 a), (2, .slice q M caq), (3, .slice q2 M2 caq2), (9, .pointer (some ⟨b4, 0, none⟩)), (10, .int .i64 k), (31, .slice p L cap), (32, .pointer (some ⟨b4, 0, none⟩)), (33, .int .u8 a), (34, .int .u8 k), (35, .int .i64 k), (36, .pointer (some ⟨b4, 0, none⟩)), (37, .int .i64 k), (39, .slice q M caq), (40, .slice q M caq), (41, .int .i64 (M : Int)), (42, .int .i64 ((min M 40 : Nat) : Int)), (43, .slice q (min M 40) caq), (44, .int .i64 (((min M 40) : Nat) : Int)), (11, .slice pp ((c.lst k).length) capp), (45, .int .i64 (i : Int))]) (fun (x : Nat × (Ch 20 4) × (Option Addr) × Nat × (List Blk)) => match x with | (i, c, pp, capp, S) => fun wL => Inv w ([(b1, arr .i64 c.lk, 103), (b2, arr .i64 c.of, 3), (b3, arr .i64 c.mn, 3), (b4, #[.slice (some ⟨b1, 0, none⟩) (20 + 4) (20 + 4), .slice (some ⟨b2, 0, none⟩) 20 20, .slice (some ⟨b3, 0, none⟩) 4 4], 79)] ++ S) wL ∧ (i ≤ (min M 40) ∧ Sl 3 .i64 S pp capp (c.lst k) ∧ (∀ x ∈ S, w.heap.size ≤ x.1))) (fun (x : Nat × (Ch 20 4) × (Option Addr) × Nat × (List Blk)) => match x with | (i, c, pp, capp, S) => (min M 40) - i) (0, c4, q5, capq5, Sq5) (hf20.cons 0 rfl (hf20.cons 1 rfl (hf20.cons 2 rfl (hf20.cons 3 rfl (hf20.cons 9 rfl (hf20.cons 10 rfl (hf20.cons 31 rfl (hf20.cons 32 rfl (hf20.cons 33 rfl (hf20.cons 34 rfl (hf20.cons 35 rfl (hf20.cons 36 rfl (hf20.cons 37 rfl (hf20.cons 39 rfl (hf20.cons 40 rfl (hf20.cons 41 rfl (hf20.cons 42 rfl (hf20.cons 43 rfl (hf20.cons 44 rfl (hf20.cons 11 rfl (hf20.cons 45 rfl hf20.nil))))))))))))))))))))) ⟨hI3, ⟨Nat.zero_le _, hsq5, hyq5⟩⟩ ?_
  intro ⟨i, c, pp, capp, S⟩ ac21 wd3 hf21 hL1
  obtain ⟨hI4, hx1⟩ := hL1
  dsimp only at hf21 hI4 hx1
  clear ac20 wd2 hf20 hI3
  refine code_seq ?_
  refine seq_start (l := [0]) rfl ?_
  refine seq_one (op_val (v := .bool (decide ((i : Int) < (((min M 40) : Nat) : Int)))) hf21 rfl rfl rfl rfl rfl rfl (r_lss rfl rfl) fun ac22 hf22 => ?_)
  refine seq_end ?_
  clear ac21 hf21
  refine then_normal ?_
  refine code_seq ?_
  refine code_if hf22 rfl (fun c46_1 => ?_) (fun c46_1 => ?_)
  · have hf23 := hf22.know 46 (u := .bool true) rfl (congrArg Value.bool c46_1)
    refine wp_skip ?_
    refine then_normal ?_
    refine code_seq ?_
    refine wp_block ?_
    refine code_seq ?_
    refine seq_start (l := [0, 1, 2]) rfl ?_
    refine seq_one (op_val (v := .pointer (slAt q i)) hf23 rfl rfl rfl rfl rfl rfl (r_indexAddrV (i := i) sl_72 rfl rfl rfl (by have := of_decide_eq_true c46_1; omega) (let r := (hq.old hI4 (fk_app (fresh_keys (ks := [b1, b2, b3, b4]) rfl (fk_cons hb1 (fk_cons hb2 (fk_cons hb3 (fk_cons hb4 fk_nil))))) hx1.2.2)) i (by have := of_decide_eq_true c46_1; omega); ⟨r.choose, r.choose_spec.1⟩)) fun ac23 hf24 => ?_)
    refine seq_one (op_val (v := .int .u8 (ws.getD i 0)) hf24 rfl rfl rfl rfl rfl rfl (r_loadV ag_5 rfl (hq.old hI4 (fk_app (fresh_keys (ks := [b1, b2, b3, b4]) rfl (fk_cons hb1 (fk_cons hb2 (fk_cons hb3 (fk_cons hb4 fk_nil))))) hx1.2.2)) (by have := of_decide_eq_true c46_1; omega)) fun ac24 hf25 => ?_)
    refine seq_one (op_val (v := .int .u8 (ws.getD i 0)) hf25 rfl rfl rfl rfl rfl rfl (r_assign rfl) fun ac25 hf26 => ?_)
    refine seq_end ?_
    clear hf22 ac22 hf23 ac23 hf24 ac24 hf25
    refine then_normal ?_
    refine code_seq ?_
    refine seq_start (l := [0, 1, 2, 3]) rfl ?_
    refine seq_one (op_val (v := .int .u8 (ws.getD i 0)) hf26 rfl rfl rfl rfl rfl rfl (r_move rfl) fun ac26 hf27 => ?_)
    obtain ⟨n6, enn6⟩ : ∃ n, (ws.getD i 0).tmod 20 = n := ⟨_, rfl⟩
    have hnn6 : 0 ≤ n6 ∧ n6 < 20 := by rw [← enn6]; exact tm (hks.getD (by have := of_decide_eq_true c46_1; omega)) (by decide)
    refine seq_one (op_val (v := .int .u8 n6) hf27 rfl rfl rfl rfl rfl rfl (r_rem (c := n6) rfl rfl (by omega) enn6) fun ac27 hf28 => ?_)
    refine seq_one (op_val (v := .int .i64 n6) hf28 rfl rfl rfl rfl rfl rfl (r_conv (c := n6) ui_5 ui_3 rfl (wrap_i64 (by omega) (by omega))) fun ac28 hf29 => ?_)
    refine seq_one (op_val (v := .int .i64 n6) hf29 rfl rfl rfl rfl rfl rfl (r_assign rfl) fun ac29 hf30 => ?_)
    refine seq_end ?_
    clear ac25 hf26 ac26 hf27 ac27 hf28 ac28 hf29
    refine then_normal ?_
    refine code_seq ?_
    refine seq_start (l := [0, 1, 2, 3, 4, 5, 6, 7]) rfl ?_
    refine seq_one (op_val (v := .pointer (some ⟨b4, 0, none⟩)) hf30 rfl rfl rfl rfl rfl rfl (r_move rfl) fun ac30 hf31 => ?_)
    refine seq_one (op_val (v := .int .i64 n6) hf31 rfl rfl rfl rfl rfl rfl (r_move rfl) fun ac31 hf32 => ?_)
    refine seq_one (op_pureW hf32 rfl rfl rfl rfl ca_29 (in_any (hI4.nd 0 rfl rfl rfl rfl) c (Has.cons (hI4.at 0 rfl) (Has.cons (hI4.at 1 rfl) (Has.cons (hI4.at 2 rfl) (Has.cons (hI4.at 3 rfl) Has.nil)))) n6) hI4 fun ac32 wd4 hI5 hf33 => ?_)
    refine seq_one (op_val (v := .tuple #[.int .i64 (c.atV n6), .bool (c.inn n6)]) hf33 rfl rfl rfl rfl rfl rfl (r_move rfl) fun ac33 hf34 => ?_)
    refine seq_one (op_val (v := .int .i64 (c.atV n6)) hf34 rfl rfl rfl rfl rfl rfl (r_extract rfl rfl) fun ac34 hf35 => ?_)
    refine seq_one (op_val (v := .bool (c.inn n6)) hf35 rfl rfl rfl rfl rfl rfl (r_extract rfl rfl) fun ac35 hf36 => ?_)
    refine seq_one (op_val (v := .int .i64 (c.atV n6)) hf36 rfl rfl rfl rfl rfl rfl (r_assign rfl) fun ac36 hf37 => ?_)
    refine seq_one (op_val (v := .bool (c.inn n6)) hf37 rfl rfl rfl rfl rfl rfl (r_assign rfl) fun ac37 hf38 => ?_)
    refine seq_end ?_
    clear ac29 hf30 ac30 hf31 ac31 wd3 hI4 hf32 ac32 hf33 ac33 hf34 ac34 hf35 ac35 hf36 ac36 hf37
    refine then_normal ?_
    refine code_seq ?_
    refine seq_start (l := [0, 1]) rfl ?_
    refine seq_one (op_val (v := .bool (c.inn n6)) hf38 rfl rfl rfl rfl rfl rfl (r_move rfl) fun ac38 hf39 => ?_)
    refine seq_one (op_val (v := .bool (!(c.inn n6))) hf39 rfl rfl rfl rfl rfl rfl (r_not rfl) fun ac39 hf40 => ?_)
    refine seq_end ?_
    clear ac37 hf38 ac38 hf39
    refine then_normal ?_
    refine code_if hf40 rfl (fun c59_2 => ?_) (fun c59_2 => ?_)
    · have hf41 := hf40.know 59 (u := .bool true) rfl (congrArg Value.bool c59_2)
      refine code_seq ?_
      refine code_seq ?_
      refine seq_start (l := [0, 1, 2, 3, 4]) rfl ?_
      refine seq_one (op_val (v := .pointer (some ⟨b4, 0, none⟩)) hf41 rfl rfl rfl rfl rfl rfl (r_move rfl) fun ac40 hf42 => ?_)
      refine seq_one (op_val (v := .int .i64 k) hf42 rfl rfl rfl rfl rfl rfl (r_move rfl) fun ac41 hf43 => ?_)
      refine seq_one (op_val (v := .int .i64 n6) hf43 rfl rfl rfl rfl rfl rfl (r_move rfl) fun ac42 hf44 => ?_)
      refine seq_one (op_call (R := fun v w' => v = .int .i64 (c.pushE k n6) ∧ Inv _ [(b1, arr .i64 (c.push k n6).lk, 103), (b2, arr .i64 (c.push k n6).of, 3), (b3, arr .i64 (c.push k n6).mn, 3), (b4, #[.slice (some ⟨b1, 0, none⟩) (20 + 4) (20 + 4), .slice (some ⟨b2, 0, none⟩) 20 20, .slice (some ⟨b3, 0, none⟩) 4 4], 79)] w') hf44 rfl rfl rfl rfl ca_30 ((push_any (hI5.nd 0 rfl rfl rfl rfl) c (Has.cons (hI5.at 0 rfl) (Has.cons (hI5.at 1 rfl) (Has.cons (hI5.at 2 rfl) (Has.cons (hI5.at 3 rfl) Has.nil)))) k n6).mono fun _ _ h => ⟨_, h.1, rfl, h.2⟩) fun ac43 v wd5 hR7 hf45 => ?_)
      obtain ⟨rfl, hR7⟩ := hR7
      have hI6 : Inv w ([(b1, arr .i64 (c.push k n6).lk, 103), (b2, arr .i64 (c.push k n6).of, 3), (b3, arr .i64 (c.push k n6).mn, 3), (b4, #[.slice (some ⟨b1, 0, none⟩) (20 + 4) (20 + 4), .slice (some ⟨b2, 0, none⟩) 20 20, .slice (some ⟨b3, 0, none⟩) 4 4], 79)] ++ S) _ := Inv.callST (A := []) (S := [(b1, arr .i64 c.lk, 103), (b2, arr .i64 c.of, 3), (b3, arr .i64 c.mn, 3), (b4, #[.slice (some ⟨b1, 0, none⟩) (20 + 4) (20 + 4), .slice (some ⟨b2, 0, none⟩) 20 20, .slice (some ⟨b3, 0, none⟩) 4 4], 79)]) (S' := [(b1, arr .i64 (c.push k n6).lk, 103), (b2, arr .i64 (c.push k n6).of, 3), (b3, arr .i64 (c.push k n6).mn, 3), (b4, #[.slice (some ⟨b1, 0, none⟩) (20 + 4) (20 + 4), .slice (some ⟨b2, 0, none⟩) 20 20, .slice (some ⟨b3, 0, none⟩) 4 4], 79)]) (L := []) (N := []) (T := S) hI5 hR7 rfl (fun _ h => by cases h)
      refine seq_one (op_val (v := .bool ((c.pushE k n6) != 0)) hf45 rfl rfl rfl rfl rfl rfl (r_neq rfl rfl) fun ac44 hf46 => ?_)
      refine seq_end ?_
      clear hf40 ac39 hf41 ac40 hf42 ac41 hf43 ac42 wd4 hf44 hI5 hR7 ac43 hf45
      refine then_normal ?_
      have hf47 := hf46.know 64 (u := .bool false) rfl (congrArg Value.bool (bne_eq_false_iff_eq.2 (Ch.pushE_0 (⟨hk, hnn6, by have := c59_2; simpa using this⟩ : c.pok k n6))))
      refine code_if_false hf47 rfl ?_
      refine wp_skip ?_
      refine then_normal ?_
      refine seq_start (l := [0, 1, 2, 3, 4]) rfl ?_
      refine seq_one (op_val (v := .slice pp ((c.lst k).length) capp) hf47 rfl rfl rfl rfl rfl rfl (r_move rfl) fun ac45 hf48 => ?_)
      refine seq_one (op_val (v := .int .i64 n6) hf48 rfl rfl rfl rfl rfl rfl (r_move rfl) fun ac46 hf49 => ?_)
      refine seq_one (op_bslice (s := 3) (cells := #[.int .i64 n6]) hf49 rfl rfl rfl rfl rfl (fun _ => by kernel_rfl) hI6 fun ac47 b8 wd6 hb8 hI7 hf50 => ?_)
      have hI8 : Inv w ([(b1, arr .i64 (c.push k n6).lk, 103), (b2, arr .i64 (c.push k n6).of, 3), (b3, arr .i64 (c.push k n6).mn, 3), (b4, #[.slice (some ⟨b1, 0, none⟩) (20 + 4) (20 + 4), .slice (some ⟨b2, 0, none⟩) 20 20, .slice (some ⟨b3, 0, none⟩) 4 4], 79), (b8, #[.int .i64 n6], 3)] ++ S) wd6 := Inv.tail (A := [(b1, arr .i64 (c.push k n6).lk, 103), (b2, arr .i64 (c.push k n6).of, 3), (b3, arr .i64 (c.push k n6).mn, 3), (b4, #[.slice (some ⟨b1, 0, none⟩) (20 + 4) (20 + 4), .slice (some ⟨b2, 0, none⟩) 20 20, .slice (some ⟨b3, 0, none⟩) 4 4], 79)]) (T := S) (N := [(b8, #[.int .i64 n6], 3)]) hI7
      refine seq_one (op_append1 (A := [(b1, arr .i64 (c.push k n6).lk, 103), (b2, arr .i64 (c.push k n6).of, 3), (b3, arr .i64 (c.push k n6).mn, 3), (b4, #[.slice (some ⟨b1, 0, none⟩) (20 + 4) (20 + 4), .slice (some ⟨b2, 0, none⟩) 20 20, .slice (some ⟨b3, 0, none⟩) 4 4], 79), (b8, #[.int .i64 n6], 3)]) (S := S) hf50 rfl rfl rfl us_27 if_3 rfl hx1.2.1 rfl hI8 hx1.2.2 (List.mem_of_getElem? (i := 4) rfl) rfl (by have := Ch.lst_le c k; simp only [maxLen]; omega) (by have := Ch.lst_le c k; omega) fun ac48 p9 capp9 Sp9 wd7 hsp9 hzp9 hI9 hf51 => ?_)
      rw [← Ch.push_end (c := c) (n := n6) (⟨hk, hnn6, by have := c59_2; simpa using this⟩ : c.pok k n6)] at hsp9 hf51
      refine seq_one (op_val (v := .slice p9 (((c.push k n6).lst k).length) capp9) hf51 rfl rfl rfl rfl rfl rfl (r_assign rfl) fun ac49 hf52 => ?_)
      refine seq_end ?_
      clear hf46 ac44 hf47 ac45 hf48 ac46 wd5 hI6 hf49 hI7 ac47 wd6 hI8 hf50 ac48 hf51
      refine block_normal ?_
      refine then_normal ?_
      refine seq_start (l := [0, 1]) rfl ?_
      refine seq_one (op_val (v := .int .i64 ((i + 1 : Nat) : Int)) hf52 rfl rfl rfl rfl rfl rfl (r_add (c := ((i + 1 : Nat) : Int)) rfl rfl (wrap_i64 (by omega) (by have := hx1.1; omega))) fun ac50 hf53 => ?_)
      refine seq_one (op_val (v := .int .i64 ((i + 1 : Nat) : Int)) hf53 rfl rfl rfl rfl rfl rfl (r_move rfl) fun ac51 hf54 => ?_)
      refine seq_end ?_
      clear ac49 hf52 ac50 hf53
      refine then_normal ?_
      exact ⟨(i + 1, (c.push k n6), p9, capp9, Sp9), (hf54.cons 0 rfl (hf54.cons 1 rfl (hf54.cons 2 rfl (hf54.cons 3 rfl (hf54.cons 9 rfl (hf54.cons 10 rfl (hf54.cons 31 rfl (hf54.cons 32 rfl (hf54.cons 33 rfl (hf54.cons 34 rfl (hf54.cons 35 rfl (hf54.cons 36 rfl (hf54.cons 37 rfl (hf54.cons 39 rfl (hf54.cons 40 rfl (hf54.cons 41 rfl (hf54.cons 42 rfl (hf54.cons 43 rfl (hf54.cons 44 rfl (hf54.cons 11 rfl (hf54.cons 45 rfl hf54.nil))))))))))))))))))))), ⟨(Inv.keep (A := [(b1, arr .i64 (c.push k n6).lk, 103), (b2, arr .i64 (c.push k n6).of, 3), (b3, arr .i64 (c.push k n6).mn, 3), (b4, #[.slice (some ⟨b1, 0, none⟩) (20 + 4) (20 + 4), .slice (some ⟨b2, 0, none⟩) 20 20, .slice (some ⟨b3, 0, none⟩) 4 4], 79)]) (N := [(b8, #[.int .i64 n6], 3)]) (T := Sp9) hI9 (fresh_keys (ks := [b8]) rfl (fk_cons hb8 fk_nil))), ⟨by have := of_decide_eq_true c46_1; omega, hsp9, hzp9⟩⟩, (by have := of_decide_eq_true c46_1; show (min M 40) - (i + 1) < (min M 40) - i; omega)⟩
    · have hf55 := hf40.know 59 (u := .bool false) rfl (congrArg Value.bool c59_2)
      refine wp_skip ?_
      refine block_normal ?_
      refine then_normal ?_
      refine seq_start (l := [0, 1]) rfl ?_
      refine seq_one (op_val (v := .int .i64 ((i + 1 : Nat) : Int)) hf55 rfl rfl rfl rfl rfl rfl (r_add (c := ((i + 1 : Nat) : Int)) rfl rfl (wrap_i64 (by omega) (by have := hx1.1; omega))) fun ac52 hf56 => ?_)
      refine seq_one (op_val (v := .int .i64 ((i + 1 : Nat) : Int)) hf56 rfl rfl rfl rfl rfl rfl (r_move rfl) fun ac53 hf57 => ?_)
      refine seq_end ?_
      clear hf40 ac39 hf55 ac52 hf56
      refine then_normal ?_
      exact ⟨(i + 1, c, pp, capp, S), (hf57.cons 0 rfl (hf57.cons 1 rfl (hf57.cons 2 rfl (hf57.cons 3 rfl (hf57.cons 9 rfl (hf57.cons 10 rfl (hf57.cons 31 rfl (hf57.cons 32 rfl (hf57.cons 33 rfl (hf57.cons 34 rfl (hf57.cons 35 rfl (hf57.cons 36 rfl (hf57.cons 37 rfl (hf57.cons 39 rfl (hf57.cons 40 rfl (hf57.cons 41 rfl (hf57.cons 42 rfl (hf57.cons 43 rfl (hf57.cons 44 rfl (hf57.cons 11 rfl (hf57.cons 45 rfl hf57.nil))))))))))))))))))))), ⟨hI5, ⟨by have := of_decide_eq_true c46_1; omega, hx1.2.1, hx1.2.2⟩⟩, (by have := of_decide_eq_true c46_1; show (min M 40) - (i + 1) < (min M 40) - i; omega)⟩
  · have hf58 := hf22.know 46 (u := .bool false) rfl (congrArg Value.bool c46_1)
    refine wp_exit ?_
    refine then_exit ?_
    refine then_exit ?_
    refine block_here ?_
    refine then_normal ?_
    refine code_seq ?_
    refine code_seq ?_
    refine seq_start (l := [0, 1, 2, 3, 4, 5, 6]) rfl ?_
    refine seq_one (op_val (v := .slice q2 M2 caq2) hf58 rfl rfl rfl rfl rfl rfl (r_move rfl) fun ac54 hf59 => ?_)
    refine seq_one (op_val (v := .slice q2 M2 caq2) hf59 rfl rfl rfl rfl rfl rfl (r_move rfl) fun ac55 hf60 => ?_)
    refine seq_one (op_val (v := .int .i64 (M2 : Int)) hf60 rfl rfl rfl rfl rfl rfl (r_len sl_72 rfl) fun ac56 hf61 => ?_)
    refine seq_one (op_val (v := .int .i64 ((min M2 40 : Nat) : Int)) hf61 rfl rfl rfl rfl rfl rfl (r_minC (c := ((min M2 40 : Nat) : Int)) rfl rfl (by split <;> omega)) fun ac57 hf62 => ?_)
    refine seq_one (op_val (v := .slice q2 (min M2 40) caq2) hf62 rfl rfl rfl rfl rfl rfl (r_sliceH (h := (min M2 40)) sl_72 rfl rfl (by omega)) fun ac58 hf63 => ?_)
    refine seq_one (op_val (v := .int .i64 (((min M2 40) : Nat) : Int)) hf63 rfl rfl rfl rfl rfl rfl (r_len sl_72 rfl) fun ac59 hf64 => ?_)
    refine seq_one (op_val (v := .int .i64 0) hf64 rfl rfl rfl rfl rfl rfl (r_move rfl) fun ac60 hf65 => ?_)
    refine seq_end ?_
    clear hf22 ac22 hf58 ac54 hf59 ac55 hf60 ac56 hf61 ac57 hf62 ac58 hf63 ac59 hf64
    refine then_normal ?_
    refine wp_block ?_
    refine code_loop (α := Nat × (Ch 20 4) × (Option Addr) × Nat × (List Blk)) (fun (x : Nat × (Ch 20 4) × (Option Addr) × Nat × (List Blk)) => match x with | (i, c, pp, capp, S) => [(0, .slice p L cap), (1, .int .u8 a), (2, .slice q M caq), (3, .slice q2 M2 caq2), (9, .pointer (some ⟨b4, 0, none⟩)), (10, .int .i64 k), (31, .slice p L cap), (32, .pointer (some ⟨b4, 0, none⟩)), (33, .int .u8 a), (34, .int .u8 k), (35, .int .i64 k), (36, .pointer (some ⟨b4, 0, none⟩)), (37, .int .i64 k), (39, .slice q M caq), (40, .slice q M caq), (41, .int .i64 (M : Int)), (42, .int .i64 ((min M 40 : Nat) : Int)), (43, .slice q (min M 40) caq), (44, .int .i64 (((min M 40) : Nat) : Int)), (46, .bool false), (70, .slice q2 M2 caq2), (71, .slice q2 M2 caq2), (72, .int .i64 (M2 : Int)), (73, .int .i64 ((min M2 40 : Nat) : Int)), (74, .slice q2 (min M2 40) caq2), (75, .int .i64 (((min M2 40) : Nat) : Int)), (11, .slice pp ((c.lst k).length) capp), (76, .int .i64 (i : Int))]) (fun (x : Nat × (Ch 20 4) × (Option Addr) × Nat × (List Blk)) => match x with | (i, c, pp, capp, S) => fun wL => Inv w ([(b1, arr .i64 c.lk, 103), (b2, arr .i64 c.of, 3), (b3, arr .i64 c.mn, 3), (b4, #[.slice (some ⟨b1, 0, none⟩) (20 + 4) (20 + 4), .slice (some ⟨b2, 0, none⟩) 20 20, .slice (some ⟨b3, 0, none⟩) 4 4], 79)] ++ S) wL ∧ (i ≤ (min M2 40) ∧ Sl 3 .i64 S pp capp (c.lst k) ∧ (∀ x ∈ S, w.heap.size ≤ x.1))) (fun (x : Nat × (Ch 20 4) × (Option Addr) × Nat × (List Blk)) => match x with | (i, c, pp, capp, S) => (min M2 40) - i) (0, c, pp, capp, S) (hf65.cons 0 rfl (hf65.cons 1 rfl (hf65.cons 2 rfl (hf65.cons 3 rfl (hf65.cons 9 rfl (hf65.cons 10 rfl (hf65.cons 31 rfl (hf65.cons 32 rfl (hf65.cons 33 rfl (hf65.cons 34 rfl (hf65.cons 35 rfl (hf65.cons 36 rfl (hf65.cons 37 rfl (hf65.cons 39 rfl (hf65.cons 40 rfl (hf65.cons 41 rfl (hf65.cons 42 rfl (hf65.cons 43 rfl (hf65.cons 44 rfl (hf65.cons 46 rfl (hf65.cons 70 rfl (hf65.cons 71 rfl (hf65.cons 72 rfl (hf65.cons 73 rfl (hf65.cons 74 rfl (hf65.cons 75 rfl (hf65.cons 11 rfl (hf65.cons 76 rfl hf65.nil)))))))))))))))))))))))))))) ⟨hI4, ⟨Nat.zero_le _, hx1.2.1, hx1.2.2⟩⟩ ?_
    intro ⟨i, c, pp, capp, S⟩ ac61 wd8 hf66 hL2
    obtain ⟨hI10, hx2⟩ := hL2
    dsimp only at hf66 hI10 hx2
    clear ac60 wd3 hf65 hI4
    refine code_seq ?_
    refine seq_start (l := [0]) rfl ?_
    refine seq_one (op_val (v := .bool (decide ((i : Int) < (((min M2 40) : Nat) : Int)))) hf66 rfl rfl rfl rfl rfl rfl (r_lss rfl rfl) fun ac62 hf67 => ?_)
    refine seq_end ?_
    clear ac61 hf66
    refine then_normal ?_
    refine code_seq ?_
    refine code_if hf67 rfl (fun c77_3 => ?_) (fun c77_3 => ?_)
    · have hf68 := hf67.know 77 (u := .bool true) rfl (congrArg Value.bool c77_3)
      refine wp_skip ?_
      refine then_normal ?_
      refine code_seq ?_
      refine wp_block ?_
      refine code_seq ?_
      refine seq_start (l := [0, 1, 2]) rfl ?_
      refine seq_one (op_val (v := .pointer (slAt q2 i)) hf68 rfl rfl rfl rfl rfl rfl (r_indexAddrV (i := i) sl_72 rfl rfl rfl (by have := of_decide_eq_true c77_3; omega) (let r := (hq2.old hI10 (fk_app (fresh_keys (ks := [b1, b2, b3, b4]) rfl (fk_cons hb1 (fk_cons hb2 (fk_cons hb3 (fk_cons hb4 fk_nil))))) hx2.2.2)) i (by have := of_decide_eq_true c77_3; omega); ⟨r.choose, r.choose_spec.1⟩)) fun ac63 hf69 => ?_)
      refine seq_one (op_val (v := .int .u8 (ws2.getD i 0)) hf69 rfl rfl rfl rfl rfl rfl (r_loadV ag_5 rfl (hq2.old hI10 (fk_app (fresh_keys (ks := [b1, b2, b3, b4]) rfl (fk_cons hb1 (fk_cons hb2 (fk_cons hb3 (fk_cons hb4 fk_nil))))) hx2.2.2)) (by have := of_decide_eq_true c77_3; omega)) fun ac64 hf70 => ?_)
      refine seq_one (op_val (v := .int .u8 (ws2.getD i 0)) hf70 rfl rfl rfl rfl rfl rfl (r_assign rfl) fun ac65 hf71 => ?_)
      refine seq_end ?_
      clear hf67 ac62 hf68 ac63 hf69 ac64 hf70
      refine then_normal ?_
      refine code_seq ?_
      refine seq_start (l := [0, 1, 2, 3]) rfl ?_
      refine seq_one (op_val (v := .int .u8 (ws2.getD i 0)) hf71 rfl rfl rfl rfl rfl rfl (r_move rfl) fun ac66 hf72 => ?_)
      obtain ⟨n6, enn6⟩ : ∃ n, (ws2.getD i 0).tmod 20 = n := ⟨_, rfl⟩
      have hnn6 : 0 ≤ n6 ∧ n6 < 20 := by rw [← enn6]; exact tm (hks2.getD (by have := of_decide_eq_true c77_3; omega)) (by decide)
      refine seq_one (op_val (v := .int .u8 n6) hf72 rfl rfl rfl rfl rfl rfl (r_rem (c := n6) rfl rfl (by omega) enn6) fun ac67 hf73 => ?_)
      refine seq_one (op_val (v := .int .i64 n6) hf73 rfl rfl rfl rfl rfl rfl (r_conv (c := n6) ui_5 ui_3 rfl (wrap_i64 (by omega) (by omega))) fun ac68 hf74 => ?_)
      refine seq_one (op_val (v := .int .i64 n6) hf74 rfl rfl rfl rfl rfl rfl (r_assign rfl) fun ac69 hf75 => ?_)
      refine seq_end ?_
      clear ac65 hf71 ac66 hf72 ac67 hf73 ac68 hf74
      refine then_normal ?_
      refine code_seq ?_
      refine seq_start (l := [0, 1, 2, 3, 4, 5, 6, 7]) rfl ?_
      refine seq_one (op_val (v := .pointer (some ⟨b4, 0, none⟩)) hf75 rfl rfl rfl rfl rfl rfl (r_move rfl) fun ac70 hf76 => ?_)
      refine seq_one (op_val (v := .int .i64 n6) hf76 rfl rfl rfl rfl rfl rfl (r_move rfl) fun ac71 hf77 => ?_)
      refine seq_one (op_pureW hf77 rfl rfl rfl rfl ca_29 (in_any (hI10.nd 0 rfl rfl rfl rfl) c (Has.cons (hI10.at 0 rfl) (Has.cons (hI10.at 1 rfl) (Has.cons (hI10.at 2 rfl) (Has.cons (hI10.at 3 rfl) Has.nil)))) n6) hI10 fun ac72 wd9 hI11 hf78 => ?_)
      refine seq_one (op_val (v := .tuple #[.int .i64 (c.atV n6), .bool (c.inn n6)]) hf78 rfl rfl rfl rfl rfl rfl (r_move rfl) fun ac73 hf79 => ?_)
      refine seq_one (op_val (v := .int .i64 (c.atV n6)) hf79 rfl rfl rfl rfl rfl rfl (r_extract rfl rfl) fun ac74 hf80 => ?_)
      refine seq_one (op_val (v := .bool (c.inn n6)) hf80 rfl rfl rfl rfl rfl rfl (r_extract rfl rfl) fun ac75 hf81 => ?_)
      refine seq_one (op_val (v := .int .i64 (c.atV n6)) hf81 rfl rfl rfl rfl rfl rfl (r_assign rfl) fun ac76 hf82 => ?_)
      refine seq_one (op_val (v := .bool (c.inn n6)) hf82 rfl rfl rfl rfl rfl rfl (r_assign rfl) fun ac77 hf83 => ?_)
      refine seq_end ?_
      clear ac69 hf75 ac70 hf76 ac71 wd8 hI10 hf77 ac72 hf78 ac73 hf79 ac74 hf80 ac75 hf81 ac76 hf82
      refine then_normal ?_
      refine code_seq ?_
      refine code_seq ?_
      refine seq_start (l := [0, 1, 2, 3, 4]) rfl ?_
      refine seq_one (op_val (v := .pointer (some ⟨b4, 0, none⟩)) hf83 rfl rfl rfl rfl rfl rfl (r_move rfl) fun ac78 hf84 => ?_)
      refine seq_one (op_val (v := .int .i64 n6) hf84 rfl rfl rfl rfl rfl rfl (r_move rfl) fun ac79 hf85 => ?_)
      refine seq_one (op_call (R := fun v w' => v = .bool (c.inn n6) ∧ Inv _ [(b1, arr .i64 (c.drop n6).lk, 103), (b2, arr .i64 (c.drop n6).of, 3), (b3, arr .i64 (c.drop n6).mn, 3), (b4, #[.slice (some ⟨b1, 0, none⟩) (20 + 4) (20 + 4), .slice (some ⟨b2, 0, none⟩) 20 20, .slice (some ⟨b3, 0, none⟩) 4 4], 79)] w') hf85 rfl rfl rfl rfl ca_32 ((drop_any (hI11.nd 0 rfl rfl rfl rfl) c (Has.cons (hI11.at 0 rfl) (Has.cons (hI11.at 1 rfl) (Has.cons (hI11.at 2 rfl) (Has.cons (hI11.at 3 rfl) Has.nil)))) n6).mono fun _ _ h => ⟨_, h.1, rfl, h.2⟩) fun ac80 v wd10 hR7 hf86 => ?_)
      obtain ⟨rfl, hR7⟩ := hR7
      have hI12 : Inv w ([(b1, arr .i64 (c.drop n6).lk, 103), (b2, arr .i64 (c.drop n6).of, 3), (b3, arr .i64 (c.drop n6).mn, 3), (b4, #[.slice (some ⟨b1, 0, none⟩) (20 + 4) (20 + 4), .slice (some ⟨b2, 0, none⟩) 20 20, .slice (some ⟨b3, 0, none⟩) 4 4], 79)] ++ S) _ := Inv.callST (A := []) (S := [(b1, arr .i64 c.lk, 103), (b2, arr .i64 c.of, 3), (b3, arr .i64 c.mn, 3), (b4, #[.slice (some ⟨b1, 0, none⟩) (20 + 4) (20 + 4), .slice (some ⟨b2, 0, none⟩) 20 20, .slice (some ⟨b3, 0, none⟩) 4 4], 79)]) (S' := [(b1, arr .i64 (c.drop n6).lk, 103), (b2, arr .i64 (c.drop n6).of, 3), (b3, arr .i64 (c.drop n6).mn, 3), (b4, #[.slice (some ⟨b1, 0, none⟩) (20 + 4) (20 + 4), .slice (some ⟨b2, 0, none⟩) 20 20, .slice (some ⟨b3, 0, none⟩) 4 4], 79)]) (L := []) (N := []) (T := S) hI11 hR7 rfl (fun _ h => by cases h)
      refine seq_one (op_val (v := .bool (c.inn n6)) hf86 rfl rfl rfl rfl rfl rfl (r_move rfl) fun ac81 hf87 => ?_)
      refine seq_one (op_val (v := .bool ((c.inn n6) != (c.inn n6))) hf87 rfl rfl rfl rfl rfl rfl (r_neB ub_4 rfl rfl) fun ac82 hf88 => ?_)
      refine seq_end ?_
      clear ac77 hf83 ac78 hf84 ac79 wd9 hf85 hI11 hR7 ac80 hf86 ac81 hf87
      refine then_normal ?_
      have hf89 := hf88.know 93 (u := .bool false) rfl (congrArg Value.bool (bne_self_eq_false _))
      refine code_if_false hf89 rfl ?_
      refine wp_skip ?_
      refine then_normal ?_
      refine code_seq ?_
      refine seq_start (l := [0, 1, 2, 3, 4, 5]) rfl ?_
      refine seq_one (op_val (v := .bool (c.inn n6)) hf89 rfl rfl rfl rfl rfl rfl (r_move rfl) fun ac83 hf90 => ?_)
      refine seq_one (op_val (v := .bool (c.inn n6)) hf90 rfl rfl rfl rfl rfl rfl (r_move rfl) fun ac84 hf91 => ?_)
      rcases Bool.eq_false_or_eq_true (c.inn n6 : Bool) with g95_4 | g95_4
      · have hf92 := hf91.know 95 (u := .bool true) rfl (congrArg Value.bool g95_4)
        refine seq_one (op_val (v := .int .i64 (c.atV n6)) hf92 rfl rfl rfl rfl rfl rfl (r_move rfl) fun ac85 hf93 => ?_)
        refine seq_one (op_val (v := .int .i64 k) hf93 rfl rfl rfl rfl rfl rfl (r_move rfl) fun ac86 hf94 => ?_)
        refine seq_one (op_val (v := .bool ((c.atV n6) == k)) hf94 rfl rfl rfl rfl rfl rfl (r_eql rfl rfl) fun ac87 hf95 => ?_)
        refine seq_one (op_val (v := .bool ((c.atV n6) == k)) hf95 rfl rfl rfl rfl rfl rfl (r_pickT rfl rfl) fun ac88 hf96 => ?_)
        refine seq_end ?_
        clear hf88 ac82 hf89 ac83 hf90 hf91 ac84 hf92 ac85 hf93 ac86 hf94 ac87 hf95
        refine then_normal ?_
        refine code_if hf96 rfl (fun c99_5 => ?_) (fun c99_5 => ?_)
        · have hf97 := hf96.know 99 (u := .bool true) rfl (congrArg Value.bool c99_5)
          refine code_seq ?_
          refine seq_start (l := [0]) rfl ?_
          refine seq_one (op_val (v := .slice none 0 0) hf97 rfl rfl rfl rfl rfl rfl (r_assign rfl) fun ac89 hf98 => ?_)
          refine seq_end ?_
          clear hf96 ac88 hf97
          refine then_normal ?_
          refine code_seq ?_
          refine code_seq ?_
          refine seq_start (l := [0, 1, 2]) rfl ?_
          refine seq_one (op_val (v := .slice pp ((c.lst k).length) capp) hf98 rfl rfl rfl rfl rfl rfl (r_move rfl) fun ac90 hf99 => ?_)
          refine seq_one (op_val (v := .int .i64 ((c.lst k).length : Int)) hf99 rfl rfl rfl rfl rfl rfl (r_len sl_27 rfl) fun ac91 hf100 => ?_)
          refine seq_one (op_val (v := .int .i64 0) hf100 rfl rfl rfl rfl rfl rfl (r_move rfl) fun ac92 hf101 => ?_)
          refine seq_end ?_
          clear ac89 hf98 ac90 hf99 ac91 hf100
          refine then_normal ?_
          refine wp_block ?_
          have hI13 : Inv w (([(b1, arr .i64 (c.drop n6).lk, 103), (b2, arr .i64 (c.drop n6).of, 3), (b3, arr .i64 (c.drop n6).mn, 3), (b4, #[.slice (some ⟨b1, 0, none⟩) (20 + 4) (20 + 4), .slice (some ⟨b2, 0, none⟩) 20 20, .slice (some ⟨b3, 0, none⟩) 4 4], 79)] ++ S) ++ []) _ := hI12.more
          refine code_loop (α := Nat × (Option Addr) × Nat × (List Blk)) (fun (x : Nat × (Option Addr) × Nat × (List Blk)) => match x with | (j, p2, cap2, S2) => [(0, .slice p L cap), (1, .int .u8 a), (2, .slice q M caq), (3, .slice q2 M2 caq2), (9, .pointer (some ⟨b4, 0, none⟩)), (10, .int .i64 k), (11, .slice pp ((c.lst k).length) capp), (18, .int .u8 (ws2.getD i 0)), (19, .int .i64 n6), (20, .int .i64 (c.atV n6)), (21, .bool (c.inn n6)), (31, .slice p L cap), (32, .pointer (some ⟨b4, 0, none⟩)), (33, .int .u8 a), (34, .int .u8 k), (35, .int .i64 k), (36, .pointer (some ⟨b4, 0, none⟩)), (37, .int .i64 k), (39, .slice q M caq), (40, .slice q M caq), (41, .int .i64 (M : Int)), (42, .int .i64 ((min M 40 : Nat) : Int)), (43, .slice q (min M 40) caq), (44, .int .i64 (((min M 40) : Nat) : Int)), (46, .bool false), (70, .slice q2 M2 caq2), (71, .slice q2 M2 caq2), (72, .int .i64 (M2 : Int)), (73, .int .i64 ((min M2 40 : Nat) : Int)), (74, .slice q2 (min M2 40) caq2), (75, .int .i64 (((min M2 40) : Nat) : Int)), (76, .int .i64 (i : Int)), (77, .bool true), (78, .pointer (slAt q2 i)), (79, .int .u8 (ws2.getD i 0)), (80, .int .u8 (ws2.getD i 0)), (81, .int .u8 n6), (82, .int .i64 n6), (83, .tuple #[.int .i64 (c.atV n6), .bool (c.inn n6)]), (84, .pointer (some ⟨b4, 0, none⟩)), (85, .int .i64 n6), (86, .tuple #[.int .i64 (c.atV n6), .bool (c.inn n6)]), (87, .int .i64 (c.atV n6)), (88, .bool (c.inn n6)), (89, .pointer (some ⟨b4, 0, none⟩)), (90, .int .i64 n6), (91, .bool (c.inn n6)), (92, .bool (c.inn n6)), (93, .bool false), (94, .bool (c.inn n6)), (95, .bool true), (96, .int .i64 (c.atV n6)), (97, .int .i64 k), (98, .bool ((c.atV n6) == k)), (99, .bool true), (100, .slice pp ((c.lst k).length) capp), (101, .int .i64 ((c.lst k).length : Int)), (22, .slice p2 ((Ch.woI n6 ((c.lst k).take j)).length) cap2), (102, .int .i64 (j : Int))]) (fun (x : Nat × (Option Addr) × Nat × (List Blk)) => match x with | (j, p2, cap2, S2) => fun wL => Inv w ([(b1, arr .i64 (c.drop n6).lk, 103), (b2, arr .i64 (c.drop n6).of, 3), (b3, arr .i64 (c.drop n6).mn, 3), (b4, #[.slice (some ⟨b1, 0, none⟩) (20 + 4) (20 + 4), .slice (some ⟨b2, 0, none⟩) 20 20, .slice (some ⟨b3, 0, none⟩) 4 4], 79)] ++ (S ++ S2)) wL ∧ (j ≤ (c.lst k).length ∧ Sl 3 .i64 S2 p2 cap2 (Ch.woI n6 ((c.lst k).take j)) ∧ (∀ x ∈ S2, w.heap.size ≤ x.1))) (fun (x : Nat × (Option Addr) × Nat × (List Blk)) => match x with | (j, p2, cap2, S2) => (c.lst k).length - j) (0, none, 0, []) (hf101.cons 0 rfl (hf101.cons 1 rfl (hf101.cons 2 rfl (hf101.cons 3 rfl (hf101.cons 9 rfl (hf101.cons 10 rfl (hf101.cons 11 rfl (hf101.cons 18 rfl (hf101.cons 19 rfl (hf101.cons 20 rfl (hf101.cons 21 rfl (hf101.cons 31 rfl (hf101.cons 32 rfl (hf101.cons 33 rfl (hf101.cons 34 rfl (hf101.cons 35 rfl (hf101.cons 36 rfl (hf101.cons 37 rfl (hf101.cons 39 rfl (hf101.cons 40 rfl (hf101.cons 41 rfl (hf101.cons 42 rfl (hf101.cons 43 rfl (hf101.cons 44 rfl (hf101.cons 46 rfl (hf101.cons 70 rfl (hf101.cons 71 rfl (hf101.cons 72 rfl (hf101.cons 73 rfl (hf101.cons 74 rfl (hf101.cons 75 rfl (hf101.cons 76 rfl (hf101.cons 77 rfl (hf101.cons 78 rfl (hf101.cons 79 rfl (hf101.cons 80 rfl (hf101.cons 81 rfl (hf101.cons 82 rfl (hf101.cons 83 rfl (hf101.cons 84 rfl (hf101.cons 85 rfl (hf101.cons 86 rfl (hf101.cons 87 rfl (hf101.cons 88 rfl (hf101.cons 89 rfl (hf101.cons 90 rfl (hf101.cons 91 rfl (hf101.cons 92 rfl (hf101.cons 93 rfl (hf101.cons 94 rfl (hf101.cons 95 rfl (hf101.cons 96 rfl (hf101.cons 97 rfl (hf101.cons 98 rfl (hf101.cons 99 rfl (hf101.cons 100 rfl (hf101.cons 101 rfl (hf101.cons 22 rfl (hf101.cons 102 rfl hf101.nil))))))))))))))))))))))))))))))))))))))))))))))))))))))))))) ⟨hI13, ⟨Nat.zero_le _, by simpa [Ch.woI] using Sl.nil, fun _ h => by cases h⟩⟩ ?_
          intro ⟨j, p2, cap2, S2⟩ ac93 wd11 hf102 hL3
          obtain ⟨hI14, hx3⟩ := hL3
          dsimp only at hf102 hI14 hx3
          clear hI12 ac92 wd10 hf101 hI13
          refine code_seq ?_
          refine seq_start (l := [0]) rfl ?_
          refine seq_one (op_val (v := .bool (decide ((j : Int) < ((c.lst k).length : Int)))) hf102 rfl rfl rfl rfl rfl rfl (r_lss rfl rfl) fun ac94 hf103 => ?_)
          refine seq_end ?_
          clear ac93 hf102
          refine then_normal ?_
          refine code_seq ?_
          refine code_if hf103 rfl (fun c103_6 => ?_) (fun c103_6 => ?_)
          · have hf104 := hf103.know 103 (u := .bool true) rfl (congrArg Value.bool c103_6)
            refine wp_skip ?_
            refine then_normal ?_
            refine code_seq ?_
            refine wp_block ?_
            refine code_seq ?_
            refine seq_start (l := [0, 1, 2]) rfl ?_
            refine seq_one (op_val (v := .pointer (slAt pp j)) hf104 rfl rfl rfl rfl rfl rfl (r_indexAddrV (i := j) sl_27 rfl rfl rfl (by have := of_decide_eq_true c103_6; omega) (let r := (hx2.2.1.rd hI14 (fun x hx => List.mem_append_right _ (List.mem_append_left _ hx))) j (by have := of_decide_eq_true c103_6; omega); ⟨r.choose, r.choose_spec.1⟩)) fun ac95 hf105 => ?_)
            refine seq_one (op_val (v := .int .i64 ((c.lst k).getD j 0)) hf105 rfl rfl rfl rfl rfl rfl (r_loadV ag_3 rfl (hx2.2.1.rd hI14 (fun x hx => List.mem_append_right _ (List.mem_append_left _ hx))) (by have := of_decide_eq_true c103_6; omega)) fun ac96 hf106 => ?_)
            refine seq_one (op_val (v := .int .i64 ((c.lst k).getD j 0)) hf106 rfl rfl rfl rfl rfl rfl (r_assign rfl) fun ac97 hf107 => ?_)
            refine seq_end ?_
            clear hf103 ac94 hf104 ac95 hf105 ac96 hf106
            refine then_normal ?_
            refine code_seq ?_
            refine seq_start (l := [0, 1, 2]) rfl ?_
            refine seq_one (op_val (v := .int .i64 ((c.lst k).getD j 0)) hf107 rfl rfl rfl rfl rfl rfl (r_move rfl) fun ac98 hf108 => ?_)
            refine seq_one (op_val (v := .int .i64 n6) hf108 rfl rfl rfl rfl rfl rfl (r_move rfl) fun ac99 hf109 => ?_)
            refine seq_one (op_val (v := .bool (((c.lst k).getD j 0) != n6)) hf109 rfl rfl rfl rfl rfl rfl (r_neq rfl rfl) fun ac100 hf110 => ?_)
            refine seq_end ?_
            clear ac97 hf107 ac98 hf108 ac99 hf109
            refine then_normal ?_
            refine code_if hf110 rfl (fun c108_7 => ?_) (fun c108_7 => ?_)
            · have hf111 := hf110.know 108 (u := .bool true) rfl (congrArg Value.bool c108_7)
              refine seq_start (l := [0, 1, 2, 3, 4]) rfl ?_
              refine seq_one (op_val (v := .slice p2 ((Ch.woI n6 ((c.lst k).take j)).length) cap2) hf111 rfl rfl rfl rfl rfl rfl (r_move rfl) fun ac101 hf112 => ?_)
              refine seq_one (op_val (v := .int .i64 ((c.lst k).getD j 0)) hf112 rfl rfl rfl rfl rfl rfl (r_move rfl) fun ac102 hf113 => ?_)
              refine seq_one (op_bslice (s := 3) (cells := #[.int .i64 ((c.lst k).getD j 0)]) hf113 rfl rfl rfl rfl rfl (fun _ => by kernel_rfl) hI14 fun ac103 b8 wd12 hb8 hI15 hf114 => ?_)
              have hI16 : Inv w ([(b1, arr .i64 (c.drop n6).lk, 103), (b2, arr .i64 (c.drop n6).of, 3), (b3, arr .i64 (c.drop n6).mn, 3), (b4, #[.slice (some ⟨b1, 0, none⟩) (20 + 4) (20 + 4), .slice (some ⟨b2, 0, none⟩) 20 20, .slice (some ⟨b3, 0, none⟩) 4 4], 79), (b8, #[.int .i64 ((c.lst k).getD j 0)], 3)] ++ (S ++ S2)) wd12 := Inv.tail (A := [(b1, arr .i64 (c.drop n6).lk, 103), (b2, arr .i64 (c.drop n6).of, 3), (b3, arr .i64 (c.drop n6).mn, 3), (b4, #[.slice (some ⟨b1, 0, none⟩) (20 + 4) (20 + 4), .slice (some ⟨b2, 0, none⟩) 20 20, .slice (some ⟨b3, 0, none⟩) 4 4], 79)]) (T := (S ++ S2)) (N := [(b8, #[.int .i64 ((c.lst k).getD j 0)], 3)]) hI15
              refine seq_one (op_append1 (A := ([(b1, arr .i64 (c.drop n6).lk, 103), (b2, arr .i64 (c.drop n6).of, 3), (b3, arr .i64 (c.drop n6).mn, 3), (b4, #[.slice (some ⟨b1, 0, none⟩) (20 + 4) (20 + 4), .slice (some ⟨b2, 0, none⟩) 20 20, .slice (some ⟨b3, 0, none⟩) 4 4], 79), (b8, #[.int .i64 ((c.lst k).getD j 0)], 3)] ++ S)) (S := S2) hf114 rfl rfl rfl us_27 if_3 rfl hx3.2.1 rfl hI16 hx3.2.2 (List.mem_append_left _ (List.mem_of_getElem? (i := 4) rfl)) rfl (by have := Ch.woI_le (c.lst k) n6 j; have := Ch.lst_le c k; simp only [maxLen]; omega) (by have := Ch.woI_le (c.lst k) n6 j; have := Ch.lst_le c k; omega) fun ac104 p9 capp9 Sp9 wd13 hsp9 hzp9 hI17 hf115 => ?_)
              refine seq_one (op_val (v := .slice p9 (((Ch.woI n6 ((c.lst k).take j)) ++ [(c.lst k).getD j 0]).length) capp9) hf115 rfl rfl rfl rfl rfl rfl (r_assign rfl) fun ac105 hf116 => ?_)
              refine seq_end ?_
              clear hf110 ac100 hf111 ac101 hf112 ac102 wd11 hI14 hf113 hI15 ac103 wd12 hI16 hf114 ac104 hf115
              refine block_normal ?_
              refine then_normal ?_
              refine seq_start (l := [0, 1]) rfl ?_
              refine seq_one (op_val (v := .int .i64 ((j + 1 : Nat) : Int)) hf116 rfl rfl rfl rfl rfl rfl (r_add (c := ((j + 1 : Nat) : Int)) rfl rfl (wrap_i64 (by omega) (by have := hx3.1; have := Ch.lst_le c k; omega))) fun ac106 hf117 => ?_)
              refine seq_one (op_val (v := .int .i64 ((j + 1 : Nat) : Int)) hf117 rfl rfl rfl rfl rfl rfl (r_move rfl) fun ac107 hf118 => ?_)
              refine seq_end ?_
              clear ac105 hf116 ac106 hf117
              refine then_normal ?_
              exact ⟨(j + 1, p9, capp9, Sp9), (hf118.cons 0 rfl (hf118.cons 1 rfl (hf118.cons 2 rfl (hf118.cons 3 rfl (hf118.cons 9 rfl (hf118.cons 10 rfl (hf118.cons 11 rfl (hf118.cons 18 rfl (hf118.cons 19 rfl (hf118.cons 20 rfl (hf118.cons 21 rfl (hf118.cons 31 rfl (hf118.cons 32 rfl (hf118.cons 33 rfl (hf118.cons 34 rfl (hf118.cons 35 rfl (hf118.cons 36 rfl (hf118.cons 37 rfl (hf118.cons 39 rfl (hf118.cons 40 rfl (hf118.cons 41 rfl (hf118.cons 42 rfl (hf118.cons 43 rfl (hf118.cons 44 rfl (hf118.cons 46 rfl (hf118.cons 70 rfl (hf118.cons 71 rfl (hf118.cons 72 rfl (hf118.cons 73 rfl (hf118.cons 74 rfl (hf118.cons 75 rfl (hf118.cons 76 rfl (hf118.cons 77 rfl (hf118.cons 78 rfl (hf118.cons 79 rfl (hf118.cons 80 rfl (hf118.cons 81 rfl (hf118.cons 82 rfl (hf118.cons 83 rfl (hf118.cons 84 rfl (hf118.cons 85 rfl (hf118.cons 86 rfl (hf118.cons 87 rfl (hf118.cons 88 rfl (hf118.cons 89 rfl (hf118.cons 90 rfl (hf118.cons 91 rfl (hf118.cons 92 rfl (hf118.cons 93 rfl (hf118.cons 94 rfl (hf118.cons 95 rfl (hf118.cons 96 rfl (hf118.cons 97 rfl (hf118.cons 98 rfl (hf118.cons 99 rfl (hf118.cons 100 rfl (hf118.cons 101 rfl (hf118.cons 22 (congrArg (fun z => some (Value.slice p9 (List.length z) capp9)) ((Ch.woI_take (n := n6) (by have := of_decide_eq_true c103_6; omega)).trans (if_pos c108_7)).symm) (hf118.cons 102 rfl hf118.nil))))))))))))))))))))))))))))))))))))))))))))))))))))))))))), ⟨(Inv.keep (A := [(b1, arr .i64 (c.drop n6).lk, 103), (b2, arr .i64 (c.drop n6).of, 3), (b3, arr .i64 (c.drop n6).mn, 3), (b4, #[.slice (some ⟨b1, 0, none⟩) (20 + 4) (20 + 4), .slice (some ⟨b2, 0, none⟩) 20 20, .slice (some ⟨b3, 0, none⟩) 4 4], 79)]) (N := [(b8, #[.int .i64 ((c.lst k).getD j 0)], 3)]) (T := (S ++ Sp9)) hI17 (fresh_keys (ks := [b8]) rfl (fk_cons hb8 fk_nil))), ⟨by have := of_decide_eq_true c103_6; omega, (by rw [Ch.woI_take (by have := of_decide_eq_true c103_6; omega), if_pos c108_7]; exact hsp9), hzp9⟩⟩, (by have := of_decide_eq_true c103_6; show (c.lst k).length - (j + 1) < (c.lst k).length - j; omega)⟩
            · have hf119 := hf110.know 108 (u := .bool false) rfl (congrArg Value.bool c108_7)
              refine wp_skip ?_
              refine block_normal ?_
              refine then_normal ?_
              refine seq_start (l := [0, 1]) rfl ?_
              refine seq_one (op_val (v := .int .i64 ((j + 1 : Nat) : Int)) hf119 rfl rfl rfl rfl rfl rfl (r_add (c := ((j + 1 : Nat) : Int)) rfl rfl (wrap_i64 (by omega) (by have := hx3.1; have := Ch.lst_le c k; omega))) fun ac108 hf120 => ?_)
              refine seq_one (op_val (v := .int .i64 ((j + 1 : Nat) : Int)) hf120 rfl rfl rfl rfl rfl rfl (r_move rfl) fun ac109 hf121 => ?_)
              refine seq_end ?_
              clear hf110 ac100 hf119 ac108 hf120
              refine then_normal ?_
              exact ⟨(j + 1, p2, cap2, S2), (hf121.cons 0 rfl (hf121.cons 1 rfl (hf121.cons 2 rfl (hf121.cons 3 rfl (hf121.cons 9 rfl (hf121.cons 10 rfl (hf121.cons 11 rfl (hf121.cons 18 rfl (hf121.cons 19 rfl (hf121.cons 20 rfl (hf121.cons 21 rfl (hf121.cons 31 rfl (hf121.cons 32 rfl (hf121.cons 33 rfl (hf121.cons 34 rfl (hf121.cons 35 rfl (hf121.cons 36 rfl (hf121.cons 37 rfl (hf121.cons 39 rfl (hf121.cons 40 rfl (hf121.cons 41 rfl (hf121.cons 42 rfl (hf121.cons 43 rfl (hf121.cons 44 rfl (hf121.cons 46 rfl (hf121.cons 70 rfl (hf121.cons 71 rfl (hf121.cons 72 rfl (hf121.cons 73 rfl (hf121.cons 74 rfl (hf121.cons 75 rfl (hf121.cons 76 rfl (hf121.cons 77 rfl (hf121.cons 78 rfl (hf121.cons 79 rfl (hf121.cons 80 rfl (hf121.cons 81 rfl (hf121.cons 82 rfl (hf121.cons 83 rfl (hf121.cons 84 rfl (hf121.cons 85 rfl (hf121.cons 86 rfl (hf121.cons 87 rfl (hf121.cons 88 rfl (hf121.cons 89 rfl (hf121.cons 90 rfl (hf121.cons 91 rfl (hf121.cons 92 rfl (hf121.cons 93 rfl (hf121.cons 94 rfl (hf121.cons 95 rfl (hf121.cons 96 rfl (hf121.cons 97 rfl (hf121.cons 98 rfl (hf121.cons 99 rfl (hf121.cons 100 rfl (hf121.cons 101 rfl (hf121.cons 22 (congrArg (fun z => some (Value.slice p2 (List.length z) cap2)) ((Ch.woI_take (n := n6) (by have := of_decide_eq_true c103_6; omega)).trans (if_neg (by rw [c108_7]; decide))).symm) (hf121.cons 102 rfl hf121.nil))))))))))))))))))))))))))))))))))))))))))))))))))))))))))), ⟨hI14, ⟨by have := of_decide_eq_true c103_6; omega, (by rw [Ch.woI_take (by have := of_decide_eq_true c103_6; omega), if_neg (by rw [c108_7]; decide)]; exact hx3.2.1), hx3.2.2⟩⟩, (by have := of_decide_eq_true c103_6; show (c.lst k).length - (j + 1) < (c.lst k).length - j; omega)⟩
          · have hf122 := hf103.know 103 (u := .bool false) rfl (congrArg Value.bool c103_6)
            refine wp_exit ?_
            refine then_exit ?_
            refine then_exit ?_
            refine block_here ?_
            refine then_normal ?_
            refine seq_start (l := [0, 1]) rfl ?_
            have hs3 := hx3.2.1
            rw [(Ch.wo_all n6 (by have := of_decide_eq_false c103_6; have := hx3.1; omega))] at hs3 hf122
            refine seq_one (op_val (v := .slice p2 (((c.drop n6).lst k).length) cap2) hf122 rfl rfl rfl rfl rfl rfl (r_move rfl) fun ac110 hf123 => ?_)
            refine seq_one (op_val (v := .slice p2 (((c.drop n6).lst k).length) cap2) hf123 rfl rfl rfl rfl rfl rfl (r_assign rfl) fun ac111 hf124 => ?_)
            refine seq_end ?_
            clear hf103 ac94 hf122 ac110 hf123
            refine block_normal ?_
            refine then_normal ?_
            refine seq_start (l := [0, 1]) rfl ?_
            refine seq_one (op_val (v := .int .i64 ((i + 1 : Nat) : Int)) hf124 rfl rfl rfl rfl rfl rfl (r_add (c := ((i + 1 : Nat) : Int)) rfl rfl (wrap_i64 (by omega) (by have := hx2.1; omega))) fun ac112 hf125 => ?_)
            refine seq_one (op_val (v := .int .i64 ((i + 1 : Nat) : Int)) hf125 rfl rfl rfl rfl rfl rfl (r_move rfl) fun ac113 hf126 => ?_)
            refine seq_end ?_
            clear ac111 hf124 ac112 hf125
            refine then_normal ?_
            have hI18 : Inv w ([(b1, arr .i64 (c.drop n6).lk, 103), (b2, arr .i64 (c.drop n6).of, 3), (b3, arr .i64 (c.drop n6).mn, 3), (b4, #[.slice (some ⟨b1, 0, none⟩) (20 + 4) (20 + 4), .slice (some ⟨b2, 0, none⟩) 20 20, .slice (some ⟨b3, 0, none⟩) 4 4], 79)] ++ S2) _ := Inv.keep (A := [(b1, arr .i64 (c.drop n6).lk, 103), (b2, arr .i64 (c.drop n6).of, 3), (b3, arr .i64 (c.drop n6).mn, 3), (b4, #[.slice (some ⟨b1, 0, none⟩) (20 + 4) (20 + 4), .slice (some ⟨b2, 0, none⟩) 20 20, .slice (some ⟨b3, 0, none⟩) 4 4], 79)]) (N := S) (T := S2) hI14 hx2.2.2
            exact ⟨(i + 1, (c.drop n6), p2, cap2, S2), (hf126.cons 0 rfl (hf126.cons 1 rfl (hf126.cons 2 rfl (hf126.cons 3 rfl (hf126.cons 9 rfl (hf126.cons 10 rfl (hf126.cons 31 rfl (hf126.cons 32 rfl (hf126.cons 33 rfl (hf126.cons 34 rfl (hf126.cons 35 rfl (hf126.cons 36 rfl (hf126.cons 37 rfl (hf126.cons 39 rfl (hf126.cons 40 rfl (hf126.cons 41 rfl (hf126.cons 42 rfl (hf126.cons 43 rfl (hf126.cons 44 rfl (hf126.cons 46 rfl (hf126.cons 70 rfl (hf126.cons 71 rfl (hf126.cons 72 rfl (hf126.cons 73 rfl (hf126.cons 74 rfl (hf126.cons 75 rfl (hf126.cons 11 rfl (hf126.cons 76 rfl hf126.nil)))))))))))))))))))))))))))), ⟨hI18, ⟨by have := of_decide_eq_true c77_3; omega, hs3, hx3.2.2⟩⟩, (by have := of_decide_eq_true c77_3; show (min M2 40) - (i + 1) < (min M2 40) - i; omega)⟩
        · have hf127 := hf96.know 99 (u := .bool false) rfl (congrArg Value.bool c99_5)
          refine wp_skip ?_
          refine block_normal ?_
          refine then_normal ?_
          refine seq_start (l := [0, 1]) rfl ?_
          refine seq_one (op_val (v := .int .i64 ((i + 1 : Nat) : Int)) hf127 rfl rfl rfl rfl rfl rfl (r_add (c := ((i + 1 : Nat) : Int)) rfl rfl (wrap_i64 (by omega) (by have := hx2.1; omega))) fun ac114 hf128 => ?_)
          refine seq_one (op_val (v := .int .i64 ((i + 1 : Nat) : Int)) hf128 rfl rfl rfl rfl rfl rfl (r_move rfl) fun ac115 hf129 => ?_)
          refine seq_end ?_
          clear hf96 ac88 hf127 ac114 hf128
          refine then_normal ?_
          have hsw : Sl 3 .i64 S pp capp ((c.drop n6).lst k) := by rw [Ch.keep_lst (.inr (beq_eq_false_iff_ne.1 c99_5))]; exact hx2.2.1
          exact ⟨(i + 1, (c.drop n6), pp, capp, S), (hf129.cons 0 rfl (hf129.cons 1 rfl (hf129.cons 2 rfl (hf129.cons 3 rfl (hf129.cons 9 rfl (hf129.cons 10 rfl (hf129.cons 31 rfl (hf129.cons 32 rfl (hf129.cons 33 rfl (hf129.cons 34 rfl (hf129.cons 35 rfl (hf129.cons 36 rfl (hf129.cons 37 rfl (hf129.cons 39 rfl (hf129.cons 40 rfl (hf129.cons 41 rfl (hf129.cons 42 rfl (hf129.cons 43 rfl (hf129.cons 44 rfl (hf129.cons 46 rfl (hf129.cons 70 rfl (hf129.cons 71 rfl (hf129.cons 72 rfl (hf129.cons 73 rfl (hf129.cons 74 rfl (hf129.cons 75 rfl (hf129.cons 11 (congrArg (fun z => some (Value.slice pp (List.length z) capp)) (Ch.keep_lst (.inr (beq_eq_false_iff_ne.1 c99_5))).symm) (hf129.cons 76 rfl hf129.nil)))))))))))))))))))))))))))), ⟨hI12, ⟨by have := of_decide_eq_true c77_3; omega, hsw, hx2.2.2⟩⟩, (by have := of_decide_eq_true c77_3; show (min M2 40) - (i + 1) < (min M2 40) - i; omega)⟩
      · have hf130 := hf91.know 95 (u := .bool false) rfl (congrArg Value.bool g95_4)
        refine seq_one (op_skip hf130 rfl rfl rfl rfl fun ac116 hf131 => ?_)
        refine seq_one (op_skip hf131 rfl rfl rfl rfl fun ac117 hf132 => ?_)
        refine seq_one (op_skip hf132 rfl rfl rfl rfl fun ac118 hf133 => ?_)
        refine seq_one (op_val (v := .bool false) hf133 rfl rfl rfl rfl rfl rfl (r_pickF rfl rfl) fun ac119 hf134 => ?_)
        refine seq_end ?_
        clear hf88 ac82 hf89 ac83 hf90 hf91 ac84 hf130 ac116 hf131 ac117 hf132 ac118 hf133
        refine then_normal ?_
        refine code_if_false hf134 rfl ?_
        refine wp_skip ?_
        refine block_normal ?_
        refine then_normal ?_
        refine seq_start (l := [0, 1]) rfl ?_
        refine seq_one (op_val (v := .int .i64 ((i + 1 : Nat) : Int)) hf134 rfl rfl rfl rfl rfl rfl (r_add (c := ((i + 1 : Nat) : Int)) rfl rfl (wrap_i64 (by omega) (by have := hx2.1; omega))) fun ac120 hf135 => ?_)
        refine seq_one (op_val (v := .int .i64 ((i + 1 : Nat) : Int)) hf135 rfl rfl rfl rfl rfl rfl (r_move rfl) fun ac121 hf136 => ?_)
        refine seq_end ?_
        clear ac119 hf134 ac120 hf135
        refine then_normal ?_
        have hsw : Sl 3 .i64 S pp capp ((c.drop n6).lst k) := by rw [Ch.keep_lst (.inl g95_4)]; exact hx2.2.1
        exact ⟨(i + 1, (c.drop n6), pp, capp, S), (hf136.cons 0 rfl (hf136.cons 1 rfl (hf136.cons 2 rfl (hf136.cons 3 rfl (hf136.cons 9 rfl (hf136.cons 10 rfl (hf136.cons 31 rfl (hf136.cons 32 rfl (hf136.cons 33 rfl (hf136.cons 34 rfl (hf136.cons 35 rfl (hf136.cons 36 rfl (hf136.cons 37 rfl (hf136.cons 39 rfl (hf136.cons 40 rfl (hf136.cons 41 rfl (hf136.cons 42 rfl (hf136.cons 43 rfl (hf136.cons 44 rfl (hf136.cons 46 rfl (hf136.cons 70 rfl (hf136.cons 71 rfl (hf136.cons 72 rfl (hf136.cons 73 rfl (hf136.cons 74 rfl (hf136.cons 75 rfl (hf136.cons 11 (congrArg (fun z => some (Value.slice pp (List.length z) capp)) (Ch.keep_lst (.inl g95_4)).symm) (hf136.cons 76 rfl hf136.nil)))))))))))))))))))))))))))), ⟨hI12, ⟨by have := of_decide_eq_true c77_3; omega, hsw, hx2.2.2⟩⟩, (by have := of_decide_eq_true c77_3; show (min M2 40) - (i + 1) < (min M2 40) - i; omega)⟩
    · have hf137 := hf67.know 77 (u := .bool false) rfl (congrArg Value.bool c77_3)
      refine wp_exit ?_
      refine then_exit ?_
      refine then_exit ?_
      refine block_here ?_
      refine then_normal ?_
      refine code_seq ?_
      refine code_seq ?_
      refine seq_start (l := [0, 1, 2]) rfl ?_
      refine seq_one (op_val (v := .slice pp ((c.lst k).length) capp) hf137 rfl rfl rfl rfl rfl rfl (r_move rfl) fun ac122 hf138 => ?_)
      refine seq_one (op_val (v := .int .i64 ((c.lst k).length : Int)) hf138 rfl rfl rfl rfl rfl rfl (r_len sl_27 rfl) fun ac123 hf139 => ?_)
      refine seq_one (op_val (v := .int .i64 0) hf139 rfl rfl rfl rfl rfl rfl (r_move rfl) fun ac124 hf140 => ?_)
      refine seq_end ?_
      clear hf67 ac62 hf137 ac122 hf138 ac123 hf139
      refine then_normal ?_
      refine wp_block ?_
      refine code_loop (α := Nat × (Ch 20 4)) (fun (x : Nat × (Ch 20 4)) => match x with | (j, d) => [(0, .slice p L cap), (1, .int .u8 a), (2, .slice q M caq), (3, .slice q2 M2 caq2), (9, .pointer (some ⟨b4, 0, none⟩)), (10, .int .i64 k), (11, .slice pp ((c.lst k).length) capp), (31, .slice p L cap), (32, .pointer (some ⟨b4, 0, none⟩)), (33, .int .u8 a), (34, .int .u8 k), (35, .int .i64 k), (36, .pointer (some ⟨b4, 0, none⟩)), (37, .int .i64 k), (39, .slice q M caq), (40, .slice q M caq), (41, .int .i64 (M : Int)), (42, .int .i64 ((min M 40 : Nat) : Int)), (43, .slice q (min M 40) caq), (44, .int .i64 (((min M 40) : Nat) : Int)), (46, .bool false), (70, .slice q2 M2 caq2), (71, .slice q2 M2 caq2), (72, .int .i64 (M2 : Int)), (73, .int .i64 ((min M2 40 : Nat) : Int)), (74, .slice q2 (min M2 40) caq2), (75, .int .i64 (((min M2 40) : Nat) : Int)), (76, .int .i64 (i : Int)), (77, .bool false), (116, .slice pp ((c.lst k).length) capp), (117, .int .i64 ((c.lst k).length : Int)), (118, .int .i64 (j : Int))]) (fun (x : Nat × (Ch 20 4)) => match x with | (j, d) => fun wL => Inv w ([(b1, arr .i64 d.lk, 103), (b2, arr .i64 d.of, 3), (b3, arr .i64 d.mn, 3), (b4, #[.slice (some ⟨b1, 0, none⟩) (20 + 4) (20 + 4), .slice (some ⟨b2, 0, none⟩) 20 20, .slice (some ⟨b3, 0, none⟩) 4 4], 79)] ++ S) wL ∧ (j ≤ (c.lst k).length ∧ d.lst k = (c.lst k).drop j)) (fun (x : Nat × (Ch 20 4)) => match x with | (j, d) => (c.lst k).length - j) (0, c) (hf140.cons 0 rfl (hf140.cons 1 rfl (hf140.cons 2 rfl (hf140.cons 3 rfl (hf140.cons 9 rfl (hf140.cons 10 rfl (hf140.cons 11 rfl (hf140.cons 31 rfl (hf140.cons 32 rfl (hf140.cons 33 rfl (hf140.cons 34 rfl (hf140.cons 35 rfl (hf140.cons 36 rfl (hf140.cons 37 rfl (hf140.cons 39 rfl (hf140.cons 40 rfl (hf140.cons 41 rfl (hf140.cons 42 rfl (hf140.cons 43 rfl (hf140.cons 44 rfl (hf140.cons 46 rfl (hf140.cons 70 rfl (hf140.cons 71 rfl (hf140.cons 72 rfl (hf140.cons 73 rfl (hf140.cons 74 rfl (hf140.cons 75 rfl (hf140.cons 76 rfl (hf140.cons 77 rfl (hf140.cons 116 rfl (hf140.cons 117 rfl (hf140.cons 118 rfl hf140.nil)))))))))))))))))))))))))))))))) ⟨hI10, ⟨Nat.zero_le _, rfl⟩⟩ ?_
      intro ⟨j, d⟩ ac125 wd14 hf141 hL4
      obtain ⟨hI19, hx4⟩ := hL4
      dsimp only at hf141 hI19 hx4
      clear ac124 wd8 hf140 hI10
      refine code_seq ?_
      refine seq_start (l := [0]) rfl ?_
      refine seq_one (op_val (v := .bool (decide ((j : Int) < ((c.lst k).length : Int)))) hf141 rfl rfl rfl rfl rfl rfl (r_lss rfl rfl) fun ac126 hf142 => ?_)
      refine seq_end ?_
      clear ac125 hf141
      refine then_normal ?_
      refine code_seq ?_
      refine code_if hf142 rfl (fun c119_8 => ?_) (fun c119_8 => ?_)
      · have hf143 := hf142.know 119 (u := .bool true) rfl (congrArg Value.bool c119_8)
        refine wp_skip ?_
        refine then_normal ?_
        refine code_seq ?_
        refine wp_block ?_
        refine code_seq ?_
        refine seq_start (l := [0, 1, 2]) rfl ?_
        refine seq_one (op_val (v := .pointer (slAt pp j)) hf143 rfl rfl rfl rfl rfl rfl (r_indexAddrV (i := j) sl_27 rfl rfl rfl (by have := of_decide_eq_true c119_8; omega) (let r := (hx2.2.1.rd hI19 (fun x hx => List.mem_append_right _ hx)) j (by have := of_decide_eq_true c119_8; omega); ⟨r.choose, r.choose_spec.1⟩)) fun ac127 hf144 => ?_)
        refine seq_one (op_val (v := .int .i64 ((c.lst k).getD j 0)) hf144 rfl rfl rfl rfl rfl rfl (r_loadV ag_3 rfl (hx2.2.1.rd hI19 (fun x hx => List.mem_append_right _ hx)) (by have := of_decide_eq_true c119_8; omega)) fun ac128 hf145 => ?_)
        refine seq_one (op_val (v := .int .i64 ((c.lst k).getD j 0)) hf145 rfl rfl rfl rfl rfl rfl (r_assign rfl) fun ac129 hf146 => ?_)
        refine seq_end ?_
        clear hf142 ac126 hf143 ac127 hf144 ac128 hf145
        refine then_normal ?_
        refine code_seq ?_
        refine seq_start (l := [0, 1, 2, 3, 4, 5, 6, 7]) rfl ?_
        refine seq_one (op_val (v := .pointer (some ⟨b4, 0, none⟩)) hf146 rfl rfl rfl rfl rfl rfl (r_move rfl) fun ac130 hf147 => ?_)
        refine seq_one (op_val (v := .int .i64 k) hf147 rfl rfl rfl rfl rfl rfl (r_move rfl) fun ac131 hf148 => ?_)
        refine seq_one (op_call (R := fun v w' => v = .tuple #[.int .i64 (d.fst k), .bool (d.some_ k)] ∧ Inv _ [(b1, arr .i64 (d.pop k).lk, 103), (b2, arr .i64 (d.pop k).of, 3), (b3, arr .i64 (d.pop k).mn, 3), (b4, #[.slice (some ⟨b1, 0, none⟩) (20 + 4) (20 + 4), .slice (some ⟨b2, 0, none⟩) 20 20, .slice (some ⟨b3, 0, none⟩) 4 4], 79)] w') hf148 rfl rfl rfl rfl ca_31 ((pop_any (hI19.nd 0 rfl rfl rfl rfl) d (Has.cons (hI19.at 0 rfl) (Has.cons (hI19.at 1 rfl) (Has.cons (hI19.at 2 rfl) (Has.cons (hI19.at 3 rfl) Has.nil)))) k).mono fun _ _ h => ⟨_, h.1, rfl, h.2⟩) fun ac132 v wd15 hR6 hf149 => ?_)
        obtain ⟨rfl, hR6⟩ := hR6
        have hI20 : Inv w ([(b1, arr .i64 (d.pop k).lk, 103), (b2, arr .i64 (d.pop k).of, 3), (b3, arr .i64 (d.pop k).mn, 3), (b4, #[.slice (some ⟨b1, 0, none⟩) (20 + 4) (20 + 4), .slice (some ⟨b2, 0, none⟩) 20 20, .slice (some ⟨b3, 0, none⟩) 4 4], 79)] ++ S) _ := Inv.callST (A := []) (S := [(b1, arr .i64 d.lk, 103), (b2, arr .i64 d.of, 3), (b3, arr .i64 d.mn, 3), (b4, #[.slice (some ⟨b1, 0, none⟩) (20 + 4) (20 + 4), .slice (some ⟨b2, 0, none⟩) 20 20, .slice (some ⟨b3, 0, none⟩) 4 4], 79)]) (S' := [(b1, arr .i64 (d.pop k).lk, 103), (b2, arr .i64 (d.pop k).of, 3), (b3, arr .i64 (d.pop k).mn, 3), (b4, #[.slice (some ⟨b1, 0, none⟩) (20 + 4) (20 + 4), .slice (some ⟨b2, 0, none⟩) 20 20, .slice (some ⟨b3, 0, none⟩) 4 4], 79)]) (L := []) (N := []) (T := S) hI19 hR6 rfl (fun _ h => by cases h)
        refine seq_one (op_val (v := .tuple #[.int .i64 (d.fst k), .bool (d.some_ k)]) hf149 rfl rfl rfl rfl rfl rfl (r_move rfl) fun ac133 hf150 => ?_)
        refine seq_one (op_val (v := .int .i64 (d.fst k)) hf150 rfl rfl rfl rfl rfl rfl (r_extract rfl rfl) fun ac134 hf151 => ?_)
        refine seq_one (op_val (v := .bool (d.some_ k)) hf151 rfl rfl rfl rfl rfl rfl (r_extract rfl rfl) fun ac135 hf152 => ?_)
        refine seq_one (op_val (v := .int .i64 (d.fst k)) hf152 rfl rfl rfl rfl rfl rfl (r_assign rfl) fun ac136 hf153 => ?_)
        refine seq_one (op_val (v := .bool (d.some_ k)) hf153 rfl rfl rfl rfl rfl rfl (r_assign rfl) fun ac137 hf154 => ?_)
        refine seq_end ?_
        clear ac129 hf146 ac130 hf147 ac131 wd14 hf148 hI19 hR6 ac132 hf149 ac133 hf150 ac134 hf151 ac135 hf152 ac136 hf153
        refine then_normal ?_
        refine code_seq ?_
        refine seq_start (l := [0, 1, 2, 3, 4, 5, 6]) rfl ?_
        refine seq_one (op_val (v := .bool (d.some_ k)) hf154 rfl rfl rfl rfl rfl rfl (r_move rfl) fun ac138 hf155 => ?_)
        refine seq_one (op_val (v := .bool (!(d.some_ k))) hf155 rfl rfl rfl rfl rfl rfl (r_not rfl) fun ac139 hf156 => ?_)
        refine seq_one (op_val (v := .bool (!(d.some_ k))) hf156 rfl rfl rfl rfl rfl rfl (r_move rfl) fun ac140 hf157 => ?_)
        have hf158 := hf157.know 130 (u := .bool false) rfl (congrArg Value.bool (by rw [(Ch.pop_lst (hx4.2.trans (Ch.drop_cons (by have := of_decide_eq_true c119_8; omega)))).1]; rfl))
        refine seq_one (op_val (v := .int .i64 (d.fst k)) hf158 rfl rfl rfl rfl rfl rfl (r_move rfl) fun ac141 hf159 => ?_)
        refine seq_one (op_val (v := .int .i64 ((c.lst k).getD j 0)) hf159 rfl rfl rfl rfl rfl rfl (r_move rfl) fun ac142 hf160 => ?_)
        refine seq_one (op_val (v := .bool ((d.fst k) != ((c.lst k).getD j 0))) hf160 rfl rfl rfl rfl rfl rfl (r_neq rfl rfl) fun ac143 hf161 => ?_)
        refine seq_one (op_val (v := .bool ((d.fst k) != ((c.lst k).getD j 0))) hf161 rfl rfl rfl rfl rfl rfl (r_pickF rfl rfl) fun ac144 hf162 => ?_)
        refine seq_end ?_
        clear ac137 hf154 ac138 hf155 ac139 hf156 hf157 ac140 hf158 ac141 hf159 ac142 hf160 ac143 hf161
        refine then_normal ?_
        have hf163 := hf162.know 134 (u := .bool false) rfl (congrArg Value.bool (bne_eq_false_iff_eq.2 (Ch.pop_lst (hx4.2.trans (Ch.drop_cons (by have := of_decide_eq_true c119_8; omega)))).2.1))
        refine code_if_false hf163 rfl ?_
        refine wp_skip ?_
        refine block_normal ?_
        refine then_normal ?_
        refine seq_start (l := [0, 1]) rfl ?_
        refine seq_one (op_val (v := .int .i64 ((j + 1 : Nat) : Int)) hf163 rfl rfl rfl rfl rfl rfl (r_add (c := ((j + 1 : Nat) : Int)) rfl rfl (wrap_i64 (by omega) (by have := hx4.1; have := Ch.lst_le c k; omega))) fun ac145 hf164 => ?_)
        refine seq_one (op_val (v := .int .i64 ((j + 1 : Nat) : Int)) hf164 rfl rfl rfl rfl rfl rfl (r_move rfl) fun ac146 hf165 => ?_)
        refine seq_end ?_
        clear hf162 ac144 hf163 ac145 hf164
        refine then_normal ?_
        exact ⟨(j + 1, (d.pop k)), (hf165.cons 0 rfl (hf165.cons 1 rfl (hf165.cons 2 rfl (hf165.cons 3 rfl (hf165.cons 9 rfl (hf165.cons 10 rfl (hf165.cons 11 rfl (hf165.cons 31 rfl (hf165.cons 32 rfl (hf165.cons 33 rfl (hf165.cons 34 rfl (hf165.cons 35 rfl (hf165.cons 36 rfl (hf165.cons 37 rfl (hf165.cons 39 rfl (hf165.cons 40 rfl (hf165.cons 41 rfl (hf165.cons 42 rfl (hf165.cons 43 rfl (hf165.cons 44 rfl (hf165.cons 46 rfl (hf165.cons 70 rfl (hf165.cons 71 rfl (hf165.cons 72 rfl (hf165.cons 73 rfl (hf165.cons 74 rfl (hf165.cons 75 rfl (hf165.cons 76 rfl (hf165.cons 77 rfl (hf165.cons 116 rfl (hf165.cons 117 rfl (hf165.cons 118 rfl hf165.nil)))))))))))))))))))))))))))))))), ⟨hI20, ⟨by have := of_decide_eq_true c119_8; omega, (Ch.pop_lst (hx4.2.trans (Ch.drop_cons (by have := of_decide_eq_true c119_8; omega)))).2.2⟩⟩, (by have := of_decide_eq_true c119_8; show (c.lst k).length - (j + 1) < (c.lst k).length - j; omega)⟩
      · have hf166 := hf142.know 119 (u := .bool false) rfl (congrArg Value.bool c119_8)
        refine wp_exit ?_
        refine then_exit ?_
        refine then_exit ?_
        refine block_here ?_
        refine then_normal ?_
        refine code_seq ?_
        refine seq_start (l := [0, 1, 2, 3, 4, 5, 6, 7]) rfl ?_
        refine seq_one (op_val (v := .pointer (some ⟨b4, 0, none⟩)) hf166 rfl rfl rfl rfl rfl rfl (r_move rfl) fun ac147 hf167 => ?_)
        refine seq_one (op_val (v := .int .i64 k) hf167 rfl rfl rfl rfl rfl rfl (r_move rfl) fun ac148 hf168 => ?_)
        refine seq_one (op_call (R := fun v w' => v = .tuple #[.int .i64 (d.fst k), .bool (d.some_ k)] ∧ Inv _ [(b1, arr .i64 (d.pop k).lk, 103), (b2, arr .i64 (d.pop k).of, 3), (b3, arr .i64 (d.pop k).mn, 3), (b4, #[.slice (some ⟨b1, 0, none⟩) (20 + 4) (20 + 4), .slice (some ⟨b2, 0, none⟩) 20 20, .slice (some ⟨b3, 0, none⟩) 4 4], 79)] w') hf168 rfl rfl rfl rfl ca_31 ((pop_any (hI19.nd 0 rfl rfl rfl rfl) d (Has.cons (hI19.at 0 rfl) (Has.cons (hI19.at 1 rfl) (Has.cons (hI19.at 2 rfl) (Has.cons (hI19.at 3 rfl) Has.nil)))) k).mono fun _ _ h => ⟨_, h.1, rfl, h.2⟩) fun ac149 v wd16 hR6 hf169 => ?_)
        obtain ⟨rfl, hR6⟩ := hR6
        have hI21 : Inv w ([(b1, arr .i64 (d.pop k).lk, 103), (b2, arr .i64 (d.pop k).of, 3), (b3, arr .i64 (d.pop k).mn, 3), (b4, #[.slice (some ⟨b1, 0, none⟩) (20 + 4) (20 + 4), .slice (some ⟨b2, 0, none⟩) 20 20, .slice (some ⟨b3, 0, none⟩) 4 4], 79)] ++ S) _ := Inv.callST (A := []) (S := [(b1, arr .i64 d.lk, 103), (b2, arr .i64 d.of, 3), (b3, arr .i64 d.mn, 3), (b4, #[.slice (some ⟨b1, 0, none⟩) (20 + 4) (20 + 4), .slice (some ⟨b2, 0, none⟩) 20 20, .slice (some ⟨b3, 0, none⟩) 4 4], 79)]) (S' := [(b1, arr .i64 (d.pop k).lk, 103), (b2, arr .i64 (d.pop k).of, 3), (b3, arr .i64 (d.pop k).mn, 3), (b4, #[.slice (some ⟨b1, 0, none⟩) (20 + 4) (20 + 4), .slice (some ⟨b2, 0, none⟩) 20 20, .slice (some ⟨b3, 0, none⟩) 4 4], 79)]) (L := []) (N := []) (T := S) hI19 hR6 rfl (fun _ h => by cases h)
        refine seq_one (op_val (v := .tuple #[.int .i64 (d.fst k), .bool (d.some_ k)]) hf169 rfl rfl rfl rfl rfl rfl (r_move rfl) fun ac150 hf170 => ?_)
        refine seq_one (op_val (v := .int .i64 (d.fst k)) hf170 rfl rfl rfl rfl rfl rfl (r_extract rfl rfl) fun ac151 hf171 => ?_)
        refine seq_one (op_val (v := .bool (d.some_ k)) hf171 rfl rfl rfl rfl rfl rfl (r_extract rfl rfl) fun ac152 hf172 => ?_)
        refine seq_one (op_val (v := .int .i64 (d.fst k)) hf172 rfl rfl rfl rfl rfl rfl (r_assign rfl) fun ac153 hf173 => ?_)
        refine seq_one (op_val (v := .bool (d.some_ k)) hf173 rfl rfl rfl rfl rfl rfl (r_assign rfl) fun ac154 hf174 => ?_)
        refine seq_end ?_
        clear hf142 ac126 hf166 ac147 hf167 ac148 wd14 hf168 hI19 hR6 ac149 hf169 ac150 hf170 ac151 hf171 ac152 hf172 ac153 hf173
        refine then_normal ?_
        refine code_seq ?_
        refine seq_start (l := [0, 1, 2, 3, 4, 5, 6, 7, 8, 9, 10, 11]) rfl ?_
        refine seq_one (op_val (v := .bool (d.some_ k)) hf174 rfl rfl rfl rfl rfl rfl (r_move rfl) fun ac155 hf175 => ?_)
        refine seq_one (op_val (v := .bool (!(d.some_ k))) hf175 rfl rfl rfl rfl rfl rfl (r_not rfl) fun ac156 hf176 => ?_)
        refine seq_one (op_val (v := .bool (!(d.some_ k))) hf176 rfl rfl rfl rfl rfl rfl (r_move rfl) fun ac157 hf177 => ?_)
        have hf178 := hf177.know 144 (u := .bool true) rfl (congrArg Value.bool (by rw [(Ch.gone hx4.2 (by have := of_decide_eq_false c119_8; have := hx4.1; omega)).1]; rfl))
        refine seq_one (op_val (v := .pointer (some ⟨b4, 0, none⟩)) hf178 rfl rfl rfl rfl rfl rfl (r_move rfl) fun ac158 hf179 => ?_)
        refine seq_one (op_val (v := .int .i64 k) hf179 rfl rfl rfl rfl rfl rfl (r_move rfl) fun ac159 hf180 => ?_)
        refine seq_one (op_pureW hf180 rfl rfl rfl rfl ca_41 (len_any (hI21.nd 0 rfl rfl rfl rfl) (d.pop k) (Has.cons (hI21.at 0 rfl) (Has.cons (hI21.at 1 rfl) (Has.cons (hI21.at 2 rfl) (Has.cons (hI21.at 3 rfl) Has.nil)))) k) hI21 fun ac160 wd17 hI22 hf181 => ?_)
        refine seq_one (op_val (v := .bool ((((d.pop k).lst k).length : Int) == 0)) hf181 rfl rfl rfl rfl rfl rfl (r_eql rfl rfl) fun ac161 hf182 => ?_)
        refine seq_one (op_val (v := .bool ((((d.pop k).lst k).length : Int) == 0)) hf182 rfl rfl rfl rfl rfl rfl (r_pickT rfl rfl) fun ac162 hf183 => ?_)
        refine seq_one (op_val (v := .bool ((((d.pop k).lst k).length : Int) == 0)) hf183 rfl rfl rfl rfl rfl rfl (r_move rfl) fun ac163 hf184 => ?_)
        have hf185 := hf184.know 150 (u := .bool true) rfl (congrArg Value.bool (beq_iff_eq.2 (by rw [(Ch.gone hx4.2 (by have := of_decide_eq_false c119_8; have := hx4.1; omega)).2]; rfl)))
        refine seq_one (op_pure hf185 rfl rfl rfl rfl ca_33 awake5_pur hI22 fun ac164 wd18 hI23 hf186 => ?_)
        refine seq_one (op_val (v := .bool true) hf186 rfl rfl rfl rfl rfl rfl (r_pickT rfl rfl) fun ac165 hf187 => ?_)
        refine seq_one (op_val (v := .bool true) hf187 rfl rfl rfl rfl rfl rfl (r_assign rfl) fun ac166 hf188 => ?_)
        refine seq_end ?_
        clear ac154 hf174 ac155 hf175 ac156 hf176 hf177 ac157 hf178 ac158 hf179 ac159 wd16 hI21 hf180 ac160 hf181 ac161 hf182 ac162 hf183 hf184 ac163 wd17 hI22 hf185 ac164 hf186 ac165 hf187
        refine then_normal ?_
        refine wp_ret ?_
        refine post1 rfl hf188 rfl ⟨?_, hI23.done (fk_app (fresh_keys (ks := [b1, b2, b3, b4]) rfl (fk_cons hb1 (fk_cons hb2 (fk_cons hb3 (fk_cons hb4 fk_nil))))) hx2.2.2)⟩
        rfl
end Go.Proofs.Ytjelaoblpchmmaa
