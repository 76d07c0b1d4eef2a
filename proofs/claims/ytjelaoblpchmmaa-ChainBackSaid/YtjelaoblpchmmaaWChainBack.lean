/-
  The walk of ChainBack.
-/
import Derived.Test.YtjelaoblpchmmaaOpen
namespace Go.Proofs.Ytjelaoblpchmmaa
set_option linter.unusedVariables false
set_option linter.unusedSimpArgs false
set_option maxRecDepth 100000
open Go.RowKit
set_option maxHeartbeats 8000000 in
theorem chainBack_walk {p : Option Addr} {L cap : Nat} {rows : List (List Value)} (hl : rows.length = L) (hc : L ≤ cap) (ho : ∀ row ∈ rows, Oks opKinds row){a b k n : Int} (ek : a.tmod 4 = k) (hk : 0 ≤ k ∧ k < ((4 : Nat) : Int)) (en : b.tmod 20 = n) (hn : 0 ≤ n ∧ n < ((20 : Nat) : Int)) {w : World} (hr : Rows_ w p 3 rows) : Calls Try.prog 9 [.slice p L cap, .int .u8 a, .int .u8 b].toArray w fun e w' => e = .returned (.bool true) ∧ Inv w [] w' := by
  have hI1 := Inv.start w
  refine enter (n := 97) Try.func9 rfl rfl rfl ?_
  intro ac1 hf1
  refine code_seq ?_
  refine seq_start (l := [0]) rfl ?_
  refine seq_one (op_val (v := .bool false) hf1 rfl rfl rfl rfl rfl rfl (r_assign rfl) fun ac2 hf2 => ?_)
  refine seq_end ?_
  clear ac1 hf1
  refine then_normal ?_
  refine code_seq ?_
  refine seq_start (l := [0, 1, 2]) rfl ?_
  refine seq_one (op_val (v := .slice p L cap) hf2 rfl rfl rfl rfl rfl rfl (r_move rfl) fun ac3 hf3 => ?_)
  refine seq_one (op_call (R := fun v w' => ∃ lb ob mb cb, Array.size (World.heap w) ≤ lb ∧ Array.size (World.heap w) ≤ ob ∧ Array.size (World.heap w) ≤ mb ∧ Array.size (World.heap w) ≤ cb ∧ ∃ c : Ch 20 4, v = .pointer (some ⟨cb, 0, none⟩) ∧ Inv w [(lb, arr .i64 c.lk, 103), (ob, arr .i64 c.of, 3), (mb, arr .i64 c.mn, 3), (cb, #[.slice (some ⟨lb, 0, none⟩) (20 + 4) (20 + 4), .slice (some ⟨ob, 0, none⟩) 20 20, .slice (some ⟨mb, 0, none⟩) 4 4], 79)] w') hf3 rfl rfl rfl rfl ca_27 ((played_walk hl hc ho (hr.old hI1 (fresh_keys (ks := []) rfl fk_nil))).mono fun e w' ⟨lb, ob, mb, cb, h1, h2, h3, h4, c, h5, h6⟩ => ⟨_, h5, lb, ob, mb, cb, h1, h2, h3, h4, c, rfl, h6⟩) fun ac4 v wd1 hR hf4 => ?_)
  obtain ⟨b1, b2, b3, b4, hqb1, hqb2, hqb3, hqb4, c4, rfl, hw4⟩ := hR
  have hb1 := Nat.le_trans hI1.size hqb1
  have hb2 := Nat.le_trans hI1.size hqb2
  have hb3 := Nat.le_trans hI1.size hqb3
  have hb4 := Nat.le_trans hI1.size hqb4
  have hI2 : Inv w [(b1, arr .i64 c4.lk, 103), (b2, arr .i64 c4.of, 3), (b3, arr .i64 c4.mn, 3), (b4, #[.slice (some ⟨b1, 0, none⟩) (20 + 4) (20 + 4), .slice (some ⟨b2, 0, none⟩) 20 20, .slice (some ⟨b3, 0, none⟩) 4 4], 79)] _ := hI1.callN hw4 (fk4 hqb1 hqb2 hqb3 hqb4)
  refine seq_one (op_val (v := .pointer (some ⟨b4, 0, none⟩)) hf4 rfl rfl rfl rfl rfl rfl (r_assign rfl) fun ac5 hf5 => ?_)
  refine seq_end ?_
  clear ac2 hf2 ac3 hf3 hI1 hw4 hqb1 hqb2 hqb3 hqb4 ac4 hf4
  refine then_normal ?_
  refine code_seq ?_
  refine seq_start (l := [0, 1, 2, 3, 4, 5, 6, 7]) rfl ?_
  refine seq_one (op_val (v := .int .u8 a) hf5 rfl rfl rfl rfl rfl rfl (r_move rfl) fun ac6 hf6 => ?_)
  refine seq_one (op_val (v := .int .u8 k) hf6 rfl rfl rfl rfl rfl rfl (r_rem (c := k) rfl rfl (by omega) ek) fun ac7 hf7 => ?_)
  refine seq_one (op_val (v := .int .i64 k) hf7 rfl rfl rfl rfl rfl rfl (r_conv (c := k) ui_5 ui_3 rfl (wrap_i64 (by omega) (by omega))) fun ac8 hf8 => ?_)
  refine seq_one (op_val (v := .int .u8 b) hf8 rfl rfl rfl rfl rfl rfl (r_move rfl) fun ac9 hf9 => ?_)
  refine seq_one (op_val (v := .int .u8 n) hf9 rfl rfl rfl rfl rfl rfl (r_rem (c := n) rfl rfl (by omega) en) fun ac10 hf10 => ?_)
  refine seq_one (op_val (v := .int .i64 n) hf10 rfl rfl rfl rfl rfl rfl (r_conv (c := n) ui_5 ui_3 rfl (wrap_i64 (by omega) (by omega))) fun ac11 hf11 => ?_)
  refine seq_one (op_val (v := .int .i64 k) hf11 rfl rfl rfl rfl rfl rfl (r_assign rfl) fun ac12 hf12 => ?_)
  refine seq_one (op_val (v := .int .i64 n) hf12 rfl rfl rfl rfl rfl rfl (r_assign rfl) fun ac13 hf13 => ?_)
  refine seq_end ?_
  clear ac5 hf5 ac6 hf6 ac7 hf7 ac8 hf8 ac9 hf9 ac10 hf10 ac11 hf11 ac12 hf12
  refine then_normal ?_
  refine code_seq ?_
  refine seq_start (l := [0, 1, 2, 3, 4, 5, 6, 7]) rfl ?_
  refine seq_one (op_val (v := .pointer (some ⟨b4, 0, none⟩)) hf13 rfl rfl rfl rfl rfl rfl (r_move rfl) fun ac14 hf14 => ?_)
  refine seq_one (op_val (v := .int .i64 n) hf14 rfl rfl rfl rfl rfl rfl (r_move rfl) fun ac15 hf15 => ?_)
  refine seq_one (op_pureW hf15 rfl rfl rfl rfl ca_29 (in_any (hI2.nd 0 rfl rfl rfl rfl) c4 (Has.cons (hI2.at 0 rfl) (Has.cons (hI2.at 1 rfl) (Has.cons (hI2.at 2 rfl) (Has.cons (hI2.at 3 rfl) Has.nil)))) n) hI2 fun ac16 wd2 hI3 hf16 => ?_)
  refine seq_one (op_val (v := .tuple #[.int .i64 (c4.atV n), .bool (c4.inn n)]) hf16 rfl rfl rfl rfl rfl rfl (r_move rfl) fun ac17 hf17 => ?_)
  refine seq_one (op_val (v := .int .i64 (c4.atV n)) hf17 rfl rfl rfl rfl rfl rfl (r_extract rfl rfl) fun ac18 hf18 => ?_)
  refine seq_one (op_val (v := .bool (c4.inn n)) hf18 rfl rfl rfl rfl rfl rfl (r_extract rfl rfl) fun ac19 hf19 => ?_)
  refine seq_one (op_val (v := .int .i64 (c4.atV n)) hf19 rfl rfl rfl rfl rfl rfl (r_assign rfl) fun ac20 hf20 => ?_)
  refine seq_one (op_val (v := .bool (c4.inn n)) hf20 rfl rfl rfl rfl rfl rfl (r_assign rfl) fun ac21 hf21 => ?_)
  refine seq_end ?_
  clear ac13 hf13 ac14 hf14 ac15 wd1 hI2 hf15 ac16 hf16 ac17 hf17 ac18 hf18 ac19 hf19 ac20 hf20
  refine then_normal ?_
  refine code_seq ?_
  refine code_seq ?_
  refine seq_start (l := [0, 1]) rfl ?_
  refine seq_one (op_val (v := .bool (c4.inn n)) hf21 rfl rfl rfl rfl rfl rfl (r_move rfl) fun ac22 hf22 => ?_)
  refine seq_one (op_val (v := .bool (!(c4.inn n))) hf22 rfl rfl rfl rfl rfl rfl (r_not rfl) fun ac23 hf23 => ?_)
  refine seq_end ?_
  clear ac21 hf21 ac22 hf22
  refine then_normal ?_
  refine code_if hf23 rfl (fun c29_1 => ?_) (fun c29_1 => ?_)
  · have hf24 := hf23.know 29 (u := .bool true) rfl (congrArg Value.bool c29_1)
    refine code_seq ?_
    refine seq_start (l := [0, 1, 2, 3]) rfl ?_
    refine seq_one (op_val (v := .pointer (some ⟨b4, 0, none⟩)) hf24 rfl rfl rfl rfl rfl rfl (r_move rfl) fun ac24 hf25 => ?_)
    refine seq_one (op_val (v := .int .i64 k) hf25 rfl rfl rfl rfl rfl rfl (r_move rfl) fun ac25 hf26 => ?_)
    refine seq_one (op_call (R := fun v w' => ∃ S p cap, v = .slice p (c4.lst k).length cap ∧ Sl 3 .i64 S p cap (c4.lst k) ∧ Inv _ S w' ∧ ∀ x ∈ S, Array.size (World.heap _) ≤ x.1) hf26 rfl rfl rfl rfl ca_28 ((list_any (hI3.nd 0 rfl rfl rfl rfl) c4 (Has.cons (hI3.at 0 rfl) (Has.cons (hI3.at 1 rfl) (Has.cons (hI3.at 2 rfl) (Has.cons (hI3.at 3 rfl) Has.nil)))) k).mono fun _ _ ⟨S, p, cap, he, h1, h3, h4⟩ => ⟨_, he, S, p, cap, rfl, h1, h3, h4⟩) fun ac26 v wd3 hR hf27 => ?_)
    obtain ⟨Sq5, q5, capq5, rfl, hsq5, hwq5, hzq5⟩ := hR
    have hyq5 := fk_le hI3.size hzq5
    have hI4 : Inv w ([(b1, arr .i64 c4.lk, 103), (b2, arr .i64 c4.of, 3), (b3, arr .i64 c4.mn, 3), (b4, #[.slice (some ⟨b1, 0, none⟩) (20 + 4) (20 + 4), .slice (some ⟨b2, 0, none⟩) 20 20, .slice (some ⟨b3, 0, none⟩) 4 4], 79)] ++ Sq5) _ := hI3.callN hwq5 hzq5
    refine seq_one (op_val (v := .slice q5 ((c4.lst k).length) capq5) hf27 rfl rfl rfl rfl rfl rfl (r_assign rfl) fun ac27 hf28 => ?_)
    refine seq_end ?_
    clear hf23 ac23 hf24 ac24 hf25 ac25 wd2 hf26 hI3 hwq5 hzq5 ac26 hf27
    refine then_normal ?_
    refine code_seq ?_
    refine seq_start (l := [0, 1, 2, 3, 4, 5, 6, 7, 8, 9, 10, 11, 12, 13, 14, 15, 16, 17, 18, 19, 20, 21, 22, 23, 24, 25, 26]) rfl ?_
    refine seq_one (op_val (v := .pointer (some ⟨b4, 0, none⟩)) hf28 rfl rfl rfl rfl rfl rfl (r_move rfl) fun ac28 hf29 => ?_)
    refine seq_one (op_val (v := .int .i64 k) hf29 rfl rfl rfl rfl rfl rfl (r_move rfl) fun ac29 hf30 => ?_)
    refine seq_one (op_val (v := .int .i64 n) hf30 rfl rfl rfl rfl rfl rfl (r_move rfl) fun ac30 hf31 => ?_)
    refine seq_one (op_call (R := fun v w' => v = .int .i64 (c4.pushE k n) ∧ Inv _ [(b1, arr .i64 (c4.push k n).lk, 103), (b2, arr .i64 (c4.push k n).of, 3), (b3, arr .i64 (c4.push k n).mn, 3), (b4, #[.slice (some ⟨b1, 0, none⟩) (20 + 4) (20 + 4), .slice (some ⟨b2, 0, none⟩) 20 20, .slice (some ⟨b3, 0, none⟩) 4 4], 79)] w') hf31 rfl rfl rfl rfl ca_30 ((push_any (hI4.nd 0 rfl rfl rfl rfl) c4 (Has.cons (hI4.at 0 rfl) (Has.cons (hI4.at 1 rfl) (Has.cons (hI4.at 2 rfl) (Has.cons (hI4.at 3 rfl) Has.nil)))) k n).mono fun _ _ h => ⟨_, h.1, rfl, h.2⟩) fun ac31 v wd4 hR6 hf32 => ?_)
    obtain ⟨rfl, hR6⟩ := hR6
    have hI5 : Inv w ([(b1, arr .i64 (c4.push k n).lk, 103), (b2, arr .i64 (c4.push k n).of, 3), (b3, arr .i64 (c4.push k n).mn, 3), (b4, #[.slice (some ⟨b1, 0, none⟩) (20 + 4) (20 + 4), .slice (some ⟨b2, 0, none⟩) 20 20, .slice (some ⟨b3, 0, none⟩) 4 4], 79)] ++ Sq5) _ := Inv.callST (A := []) (S := [(b1, arr .i64 c4.lk, 103), (b2, arr .i64 c4.of, 3), (b3, arr .i64 c4.mn, 3), (b4, #[.slice (some ⟨b1, 0, none⟩) (20 + 4) (20 + 4), .slice (some ⟨b2, 0, none⟩) 20 20, .slice (some ⟨b3, 0, none⟩) 4 4], 79)]) (S' := [(b1, arr .i64 (c4.push k n).lk, 103), (b2, arr .i64 (c4.push k n).of, 3), (b3, arr .i64 (c4.push k n).mn, 3), (b4, #[.slice (some ⟨b1, 0, none⟩) (20 + 4) (20 + 4), .slice (some ⟨b2, 0, none⟩) 20 20, .slice (some ⟨b3, 0, none⟩) 4 4], 79)]) (L := []) (N := []) (T := Sq5) hI4 hR6 rfl (fun _ h => by cases h)
    refine seq_one (op_val (v := .bool ((c4.pushE k n) == 0)) hf32 rfl rfl rfl rfl rfl rfl (r_eql rfl rfl) fun ac32 hf33 => ?_)
    refine seq_one (op_val (v := .bool ((c4.pushE k n) == 0)) hf33 rfl rfl rfl rfl rfl rfl (r_move rfl) fun ac33 hf34 => ?_)
    have hf35 := hf34.know 38 (u := .bool true) rfl (congrArg Value.bool (beq_iff_eq.2 (Ch.pushE_0 (⟨hk, hn, by have := c29_1; simpa using this⟩ : c4.pok k n))))
    refine seq_one (op_val (v := .pointer (some ⟨b4, 0, none⟩)) hf35 rfl rfl rfl rfl rfl rfl (r_move rfl) fun ac34 hf36 => ?_)
    refine seq_one (op_val (v := .int .i64 n) hf36 rfl rfl rfl rfl rfl rfl (r_move rfl) fun ac35 hf37 => ?_)
    refine seq_one (op_call (R := fun v w' => v = .bool ((c4.push k n).inn n) ∧ Inv _ [(b1, arr .i64 ((c4.push k n).drop n).lk, 103), (b2, arr .i64 ((c4.push k n).drop n).of, 3), (b3, arr .i64 ((c4.push k n).drop n).mn, 3), (b4, #[.slice (some ⟨b1, 0, none⟩) (20 + 4) (20 + 4), .slice (some ⟨b2, 0, none⟩) 20 20, .slice (some ⟨b3, 0, none⟩) 4 4], 79)] w') hf37 rfl rfl rfl rfl ca_32 ((drop_any (hI5.nd 0 rfl rfl rfl rfl) (c4.push k n) (Has.cons (hI5.at 0 rfl) (Has.cons (hI5.at 1 rfl) (Has.cons (hI5.at 2 rfl) (Has.cons (hI5.at 3 rfl) Has.nil)))) n).mono fun _ _ h => ⟨_, h.1, rfl, h.2⟩) fun ac36 v wd5 hR7 hf38 => ?_)
    obtain ⟨rfl, hR7⟩ := hR7
    have hI6 : Inv w ([(b1, arr .i64 ((c4.push k n).drop n).lk, 103), (b2, arr .i64 ((c4.push k n).drop n).of, 3), (b3, arr .i64 ((c4.push k n).drop n).mn, 3), (b4, #[.slice (some ⟨b1, 0, none⟩) (20 + 4) (20 + 4), .slice (some ⟨b2, 0, none⟩) 20 20, .slice (some ⟨b3, 0, none⟩) 4 4], 79)] ++ Sq5) _ := Inv.callST (A := []) (S := [(b1, arr .i64 (c4.push k n).lk, 103), (b2, arr .i64 (c4.push k n).of, 3), (b3, arr .i64 (c4.push k n).mn, 3), (b4, #[.slice (some ⟨b1, 0, none⟩) (20 + 4) (20 + 4), .slice (some ⟨b2, 0, none⟩) 20 20, .slice (some ⟨b3, 0, none⟩) 4 4], 79)]) (S' := [(b1, arr .i64 ((c4.push k n).drop n).lk, 103), (b2, arr .i64 ((c4.push k n).drop n).of, 3), (b3, arr .i64 ((c4.push k n).drop n).mn, 3), (b4, #[.slice (some ⟨b1, 0, none⟩) (20 + 4) (20 + 4), .slice (some ⟨b2, 0, none⟩) 20 20, .slice (some ⟨b3, 0, none⟩) 4 4], 79)]) (L := []) (N := []) (T := Sq5) hI5 hR7 rfl (fun _ h => by cases h)
    refine seq_one (op_val (v := .bool ((c4.push k n).inn n)) hf38 rfl rfl rfl rfl rfl rfl (r_pickT rfl rfl) fun ac37 hf39 => ?_)
    refine seq_one (op_val (v := .bool ((c4.push k n).inn n)) hf39 rfl rfl rfl rfl rfl rfl (r_move rfl) fun ac38 hf40 => ?_)
    have hf41 := hf40.know 43 (u := .bool true) rfl (congrArg Value.bool (Ch.push_inn (⟨hk, hn, by have := c29_1; simpa using this⟩ : c4.pok k n)))
    refine seq_one (op_val (v := .pointer (some ⟨b4, 0, none⟩)) hf41 rfl rfl rfl rfl rfl rfl (r_move rfl) fun ac39 hf42 => ?_)
    refine seq_one (op_val (v := .int .i64 n) hf42 rfl rfl rfl rfl rfl rfl (r_move rfl) fun ac40 hf43 => ?_)
    refine seq_one (op_call (R := fun v w' => v = .bool (((c4.push k n).drop n).inn n) ∧ Inv _ [(b1, arr .i64 (((c4.push k n).drop n).drop n).lk, 103), (b2, arr .i64 (((c4.push k n).drop n).drop n).of, 3), (b3, arr .i64 (((c4.push k n).drop n).drop n).mn, 3), (b4, #[.slice (some ⟨b1, 0, none⟩) (20 + 4) (20 + 4), .slice (some ⟨b2, 0, none⟩) 20 20, .slice (some ⟨b3, 0, none⟩) 4 4], 79)] w') hf43 rfl rfl rfl rfl ca_32 ((drop_any (hI6.nd 0 rfl rfl rfl rfl) ((c4.push k n).drop n) (Has.cons (hI6.at 0 rfl) (Has.cons (hI6.at 1 rfl) (Has.cons (hI6.at 2 rfl) (Has.cons (hI6.at 3 rfl) Has.nil)))) n).mono fun _ _ h => ⟨_, h.1, rfl, h.2⟩) fun ac41 v wd6 hR8 hf44 => ?_)
    obtain ⟨rfl, hR8⟩ := hR8
    have hI7 : Inv w ([(b1, arr .i64 (((c4.push k n).drop n).drop n).lk, 103), (b2, arr .i64 (((c4.push k n).drop n).drop n).of, 3), (b3, arr .i64 (((c4.push k n).drop n).drop n).mn, 3), (b4, #[.slice (some ⟨b1, 0, none⟩) (20 + 4) (20 + 4), .slice (some ⟨b2, 0, none⟩) 20 20, .slice (some ⟨b3, 0, none⟩) 4 4], 79)] ++ Sq5) _ := Inv.callST (A := []) (S := [(b1, arr .i64 ((c4.push k n).drop n).lk, 103), (b2, arr .i64 ((c4.push k n).drop n).of, 3), (b3, arr .i64 ((c4.push k n).drop n).mn, 3), (b4, #[.slice (some ⟨b1, 0, none⟩) (20 + 4) (20 + 4), .slice (some ⟨b2, 0, none⟩) 20 20, .slice (some ⟨b3, 0, none⟩) 4 4], 79)]) (S' := [(b1, arr .i64 (((c4.push k n).drop n).drop n).lk, 103), (b2, arr .i64 (((c4.push k n).drop n).drop n).of, 3), (b3, arr .i64 (((c4.push k n).drop n).drop n).mn, 3), (b4, #[.slice (some ⟨b1, 0, none⟩) (20 + 4) (20 + 4), .slice (some ⟨b2, 0, none⟩) 20 20, .slice (some ⟨b3, 0, none⟩) 4 4], 79)]) (L := []) (N := []) (T := Sq5) hI6 hR8 rfl (fun _ h => by cases h)
    refine seq_one (op_val (v := .bool (!(((c4.push k n).drop n).inn n))) hf44 rfl rfl rfl rfl rfl rfl (r_not rfl) fun ac42 hf45 => ?_)
    refine seq_one (op_val (v := .bool (!(((c4.push k n).drop n).inn n))) hf45 rfl rfl rfl rfl rfl rfl (r_pickT rfl rfl) fun ac43 hf46 => ?_)
    refine seq_one (op_val (v := .bool (!(((c4.push k n).drop n).inn n))) hf46 rfl rfl rfl rfl rfl rfl (r_move rfl) fun ac44 hf47 => ?_)
    have hf48 := hf47.know 49 (u := .bool true) rfl (congrArg Value.bool (by rw [Ch.drop_out]; rfl))
    refine seq_one (op_val (v := .pointer (some ⟨b4, 0, none⟩)) hf48 rfl rfl rfl rfl rfl rfl (r_move rfl) fun ac45 hf49 => ?_)
    refine seq_one (op_val (v := .int .i64 k) hf49 rfl rfl rfl rfl rfl rfl (r_move rfl) fun ac46 hf50 => ?_)
    refine seq_one (op_call (R := fun v w' => ∃ S p cap, v = .slice p ((((c4.push k n).drop n).drop n).lst k).length cap ∧ Sl 3 .i64 S p cap ((((c4.push k n).drop n).drop n).lst k) ∧ Inv _ S w' ∧ ∀ x ∈ S, Array.size (World.heap _) ≤ x.1) hf50 rfl rfl rfl rfl ca_28 ((list_any (hI7.nd 0 rfl rfl rfl rfl) (((c4.push k n).drop n).drop n) (Has.cons (hI7.at 0 rfl) (Has.cons (hI7.at 1 rfl) (Has.cons (hI7.at 2 rfl) (Has.cons (hI7.at 3 rfl) Has.nil)))) k).mono fun _ _ ⟨S, p, cap, he, h1, h3, h4⟩ => ⟨_, he, S, p, cap, rfl, h1, h3, h4⟩) fun ac47 v wd7 hR hf51 => ?_)
    obtain ⟨Sq9, q9, capq9, rfl, hsq9, hwq9, hzq9⟩ := hR
    have hyq9 := fk_le hI7.size hzq9
    have hI8 : Inv w ([(b1, arr .i64 (((c4.push k n).drop n).drop n).lk, 103), (b2, arr .i64 (((c4.push k n).drop n).drop n).of, 3), (b3, arr .i64 (((c4.push k n).drop n).drop n).mn, 3), (b4, #[.slice (some ⟨b1, 0, none⟩) (20 + 4) (20 + 4), .slice (some ⟨b2, 0, none⟩) 20 20, .slice (some ⟨b3, 0, none⟩) 4 4], 79)] ++ (Sq5 ++ Sq9)) _ := hI7.callN hwq9 hzq9
    refine seq_one (op_val (v := .slice q5 ((c4.lst k).length) capq5) hf51 rfl rfl rfl rfl rfl rfl (r_move rfl) fun ac48 hf52 => ?_)
    refine seq_one (op_pureW hf52 rfl rfl rfl rfl ca_19 (ints_walk (xs := ((((c4.push k n).drop n).drop n).lst k)) (ys := (c4.lst k)) rfl rfl (Nat.le_trans (Ch.lst_le _ _) (by omega)) (hsq9.rd hI8 (fun x hx => List.mem_append_right _ (List.mem_append_right _ hx))) (hsq5.rd hI8 (fun x hx => List.mem_append_right _ (List.mem_append_left _ hx)))) hI8 fun ac49 wd8 hI9 hf53 => ?_)
    refine seq_one (op_val (v := .bool (((((c4.push k n).drop n).drop n).lst k) == (c4.lst k))) hf53 rfl rfl rfl rfl rfl rfl (r_pickT rfl rfl) fun ac50 hf54 => ?_)
    refine seq_one (op_val (v := .bool (((((c4.push k n).drop n).drop n).lst k) == (c4.lst k))) hf54 rfl rfl rfl rfl rfl rfl (r_move rfl) fun ac51 hf55 => ?_)
    have hf56 := hf55.know 56 (u := .bool true) rfl (congrArg Value.bool (beq_iff_eq.2 (Ch.back3 (⟨hk, hn, by have := c29_1; simpa using this⟩ : c4.pok k n))))
    refine seq_one (op_pure hf56 rfl rfl rfl rfl ca_33 awake5_pur hI9 fun ac52 wd9 hI10 hf57 => ?_)
    refine seq_one (op_val (v := .bool true) hf57 rfl rfl rfl rfl rfl rfl (r_pickT rfl rfl) fun ac53 hf58 => ?_)
    refine seq_one (op_val (v := .bool true) hf58 rfl rfl rfl rfl rfl rfl (r_assign rfl) fun ac54 hf59 => ?_)
    refine seq_end ?_
    clear ac27 hf28 ac28 hf29 ac29 hf30 ac30 wd3 hf31 hI4 hR6 ac31 hf32 ac32 hf33 hf34 ac33 hf35 ac34 hf36 ac35 wd4 hf37 hI5 hR7 ac36 hf38 ac37 hf39 hf40 ac38 hf41 ac39 hf42 ac40 wd5 hf43 hI6 hR8 ac41 hf44 ac42 hf45 ac43 hf46 hf47 ac44 hf48 ac45 hf49 ac46 wd6 hf50 hI7 hwq9 hzq9 ac47 hf51 ac48 wd7 hI8 hf52 ac49 hf53 ac50 hf54 hf55 ac51 wd8 hI9 hf56 ac52 hf57 ac53 hf58
    refine then_normal ?_
    refine wp_ret ?_
    refine then_ret ?_
    refine post1 rfl hf59 rfl ⟨?_, hI10.done (fk_app (fresh_keys (ks := [b1, b2, b3, b4]) rfl (fk_cons hb1 (fk_cons hb2 (fk_cons hb3 (fk_cons hb4 fk_nil))))) (fk_app hyq5 hyq9))⟩
    rfl
  · have hf60 := hf23.know 29 (u := .bool false) rfl (congrArg Value.bool c29_1)
    refine wp_skip ?_
    refine then_normal ?_
    refine code_seq ?_
    refine code_seq ?_
    refine seq_start (l := [0, 1, 2, 3, 4, 5, 6, 7, 8, 9, 10]) rfl ?_
    refine seq_one (op_val (v := .pointer (some ⟨b4, 0, none⟩)) hf60 rfl rfl rfl rfl rfl rfl (r_move rfl) fun ac55 hf61 => ?_)
    refine seq_one (op_val (v := .int .i64 n) hf61 rfl rfl rfl rfl rfl rfl (r_move rfl) fun ac56 hf62 => ?_)
    refine seq_one (op_call (R := fun v w' => v = .bool (c4.inn n) ∧ Inv _ [(b1, arr .i64 (c4.drop n).lk, 103), (b2, arr .i64 (c4.drop n).of, 3), (b3, arr .i64 (c4.drop n).mn, 3), (b4, #[.slice (some ⟨b1, 0, none⟩) (20 + 4) (20 + 4), .slice (some ⟨b2, 0, none⟩) 20 20, .slice (some ⟨b3, 0, none⟩) 4 4], 79)] w') hf62 rfl rfl rfl rfl ca_32 ((drop_any (hI3.nd 0 rfl rfl rfl rfl) c4 (Has.cons (hI3.at 0 rfl) (Has.cons (hI3.at 1 rfl) (Has.cons (hI3.at 2 rfl) (Has.cons (hI3.at 3 rfl) Has.nil)))) n).mono fun _ _ h => ⟨_, h.1, rfl, h.2⟩) fun ac57 v wd10 hR5 hf63 => ?_)
    obtain ⟨rfl, hR5⟩ := hR5
    have hI11 : Inv w [(b1, arr .i64 (c4.drop n).lk, 103), (b2, arr .i64 (c4.drop n).of, 3), (b3, arr .i64 (c4.drop n).mn, 3), (b4, #[.slice (some ⟨b1, 0, none⟩) (20 + 4) (20 + 4), .slice (some ⟨b2, 0, none⟩) 20 20, .slice (some ⟨b3, 0, none⟩) 4 4], 79)] _ := Inv.callS (A := []) (S := [(b1, arr .i64 c4.lk, 103), (b2, arr .i64 c4.of, 3), (b3, arr .i64 c4.mn, 3), (b4, #[.slice (some ⟨b1, 0, none⟩) (20 + 4) (20 + 4), .slice (some ⟨b2, 0, none⟩) 20 20, .slice (some ⟨b3, 0, none⟩) 4 4], 79)]) (S' := [(b1, arr .i64 (c4.drop n).lk, 103), (b2, arr .i64 (c4.drop n).of, 3), (b3, arr .i64 (c4.drop n).mn, 3), (b4, #[.slice (some ⟨b1, 0, none⟩) (20 + 4) (20 + 4), .slice (some ⟨b2, 0, none⟩) 20 20, .slice (some ⟨b3, 0, none⟩) 4 4], 79)]) (L := []) (N := []) hI3 hR5 rfl (fun _ h => by cases h)
    refine seq_one (op_val (v := .bool (!(c4.inn n))) hf63 rfl rfl rfl rfl rfl rfl (r_not rfl) fun ac58 hf64 => ?_)
    refine seq_one (op_val (v := .bool (!(c4.inn n))) hf64 rfl rfl rfl rfl rfl rfl (r_move rfl) fun ac59 hf65 => ?_)
    have hf66 := hf65.know 63 (u := .bool false) rfl (congrArg Value.bool (c29_1))
    refine seq_one (op_val (v := .pointer (some ⟨b4, 0, none⟩)) hf66 rfl rfl rfl rfl rfl rfl (r_move rfl) fun ac60 hf67 => ?_)
    refine seq_one (op_val (v := .int .i64 (c4.atV n)) hf67 rfl rfl rfl rfl rfl rfl (r_move rfl) fun ac61 hf68 => ?_)
    refine seq_one (op_val (v := .int .i64 n) hf68 rfl rfl rfl rfl rfl rfl (r_move rfl) fun ac62 hf69 => ?_)
    refine seq_one (op_call (R := fun v w' => v = .int .i64 ((c4.drop n).pushE (c4.atV n) n) ∧ Inv _ [(b1, arr .i64 ((c4.drop n).push (c4.atV n) n).lk, 103), (b2, arr .i64 ((c4.drop n).push (c4.atV n) n).of, 3), (b3, arr .i64 ((c4.drop n).push (c4.atV n) n).mn, 3), (b4, #[.slice (some ⟨b1, 0, none⟩) (20 + 4) (20 + 4), .slice (some ⟨b2, 0, none⟩) 20 20, .slice (some ⟨b3, 0, none⟩) 4 4], 79)] w') hf69 rfl rfl rfl rfl ca_30 ((push_any (hI11.nd 0 rfl rfl rfl rfl) (c4.drop n) (Has.cons (hI11.at 0 rfl) (Has.cons (hI11.at 1 rfl) (Has.cons (hI11.at 2 rfl) (Has.cons (hI11.at 3 rfl) Has.nil)))) (c4.atV n) n).mono fun _ _ h => ⟨_, h.1, rfl, h.2⟩) fun ac63 v wd11 hR6 hf70 => ?_)
    obtain ⟨rfl, hR6⟩ := hR6
    have hI12 : Inv w [(b1, arr .i64 ((c4.drop n).push (c4.atV n) n).lk, 103), (b2, arr .i64 ((c4.drop n).push (c4.atV n) n).of, 3), (b3, arr .i64 ((c4.drop n).push (c4.atV n) n).mn, 3), (b4, #[.slice (some ⟨b1, 0, none⟩) (20 + 4) (20 + 4), .slice (some ⟨b2, 0, none⟩) 20 20, .slice (some ⟨b3, 0, none⟩) 4 4], 79)] _ := Inv.callS (A := []) (S := [(b1, arr .i64 (c4.drop n).lk, 103), (b2, arr .i64 (c4.drop n).of, 3), (b3, arr .i64 (c4.drop n).mn, 3), (b4, #[.slice (some ⟨b1, 0, none⟩) (20 + 4) (20 + 4), .slice (some ⟨b2, 0, none⟩) 20 20, .slice (some ⟨b3, 0, none⟩) 4 4], 79)]) (S' := [(b1, arr .i64 ((c4.drop n).push (c4.atV n) n).lk, 103), (b2, arr .i64 ((c4.drop n).push (c4.atV n) n).of, 3), (b3, arr .i64 ((c4.drop n).push (c4.atV n) n).mn, 3), (b4, #[.slice (some ⟨b1, 0, none⟩) (20 + 4) (20 + 4), .slice (some ⟨b2, 0, none⟩) 20 20, .slice (some ⟨b3, 0, none⟩) 4 4], 79)]) (L := []) (N := []) hI11 hR6 rfl (fun _ h => by cases h)
    refine seq_one (op_val (v := .bool (((c4.drop n).pushE (c4.atV n) n) != 0)) hf70 rfl rfl rfl rfl rfl rfl (r_neq rfl rfl) fun ac64 hf71 => ?_)
    refine seq_one (op_val (v := .bool (((c4.drop n).pushE (c4.atV n) n) != 0)) hf71 rfl rfl rfl rfl rfl rfl (r_pickF rfl rfl) fun ac65 hf72 => ?_)
    refine seq_end ?_
    clear hf23 ac23 hf60 ac55 hf61 ac56 wd2 hf62 hI3 hR5 ac57 hf63 ac58 hf64 hf65 ac59 hf66 ac60 hf67 ac61 hf68 ac62 wd10 hf69 hI11 hR6 ac63 hf70 ac64 hf71
    refine then_normal ?_
    have hf73 := hf72.know 69 (u := .bool false) rfl (congrArg Value.bool (bne_eq_false_iff_eq.2 (Ch.pushE_0 (Ch.back_pok (by have := c29_1; simpa using this)))))
    refine code_if_false hf73 rfl ?_
    refine wp_skip ?_
    refine then_normal ?_
    refine code_seq ?_
    refine seq_start (l := [0, 1, 2, 3]) rfl ?_
    refine seq_one (op_val (v := .pointer (some ⟨b4, 0, none⟩)) hf73 rfl rfl rfl rfl rfl rfl (r_move rfl) fun ac66 hf74 => ?_)
    refine seq_one (op_val (v := .int .i64 (c4.atV n)) hf74 rfl rfl rfl rfl rfl rfl (r_move rfl) fun ac67 hf75 => ?_)
    refine seq_one (op_call (R := fun v w' => ∃ S p cap, v = .slice p (((c4.drop n).push (c4.atV n) n).lst (c4.atV n)).length cap ∧ Sl 3 .i64 S p cap (((c4.drop n).push (c4.atV n) n).lst (c4.atV n)) ∧ Inv _ S w' ∧ ∀ x ∈ S, Array.size (World.heap _) ≤ x.1) hf75 rfl rfl rfl rfl ca_28 ((list_any (hI12.nd 0 rfl rfl rfl rfl) ((c4.drop n).push (c4.atV n) n) (Has.cons (hI12.at 0 rfl) (Has.cons (hI12.at 1 rfl) (Has.cons (hI12.at 2 rfl) (Has.cons (hI12.at 3 rfl) Has.nil)))) (c4.atV n)).mono fun _ _ ⟨S, p, cap, he, h1, h3, h4⟩ => ⟨_, he, S, p, cap, rfl, h1, h3, h4⟩) fun ac68 v wd12 hR hf76 => ?_)
    obtain ⟨Sq7, q7, capq7, rfl, hsq7, hwq7, hzq7⟩ := hR
    have hyq7 := fk_le hI12.size hzq7
    have hI13 : Inv w ([(b1, arr .i64 ((c4.drop n).push (c4.atV n) n).lk, 103), (b2, arr .i64 ((c4.drop n).push (c4.atV n) n).of, 3), (b3, arr .i64 ((c4.drop n).push (c4.atV n) n).mn, 3), (b4, #[.slice (some ⟨b1, 0, none⟩) (20 + 4) (20 + 4), .slice (some ⟨b2, 0, none⟩) 20 20, .slice (some ⟨b3, 0, none⟩) 4 4], 79)] ++ Sq7) _ := hI12.callN hwq7 hzq7
    refine seq_one (op_val (v := .slice q7 ((((c4.drop n).push (c4.atV n) n).lst (c4.atV n)).length) capq7) hf76 rfl rfl rfl rfl rfl rfl (r_assign rfl) fun ac69 hf77 => ?_)
    refine seq_end ?_
    clear hf72 ac65 hf73 ac66 hf74 ac67 wd11 hf75 hI12 hwq7 hzq7 ac68 hf76
    refine then_normal ?_
    refine code_seq ?_
    refine seq_start (l := [0, 1, 2, 3, 4, 5, 6, 7, 8, 9, 10, 11, 12, 13, 14, 15, 16, 17, 18, 19, 20, 21, 22, 23, 24]) rfl ?_
    refine seq_one (op_val (v := .slice q7 ((((c4.drop n).push (c4.atV n) n).lst (c4.atV n)).length) capq7) hf77 rfl rfl rfl rfl rfl rfl (r_move rfl) fun ac70 hf78 => ?_)
    refine seq_one (op_val (v := .int .i64 ((((c4.drop n).push (c4.atV n) n).lst (c4.atV n)).length : Int)) hf78 rfl rfl rfl rfl rfl rfl (r_len sl_27 rfl) fun ac71 hf79 => ?_)
    refine seq_one (op_val (v := .bool (decide (((((c4.drop n).push (c4.atV n) n).lst (c4.atV n)).length : Int) > 0))) hf79 rfl rfl rfl rfl rfl rfl (r_gtr rfl rfl) fun ac72 hf80 => ?_)
    refine seq_one (op_val (v := .bool (decide (((((c4.drop n).push (c4.atV n) n).lst (c4.atV n)).length : Int) > 0))) hf80 rfl rfl rfl rfl rfl rfl (r_move rfl) fun ac73 hf81 => ?_)
    have hf82 := hf81.know 76 (u := .bool true) rfl (congrArg Value.bool (decide_eq_true (by have := Ch.back_n (by have := c29_1; simpa using this); omega)))
    refine seq_one (op_val (v := .slice q7 ((((c4.drop n).push (c4.atV n) n).lst (c4.atV n)).length) capq7) hf82 rfl rfl rfl rfl rfl rfl (r_move rfl) fun ac74 hf83 => ?_)
    refine seq_one (op_val (v := .slice q7 ((((c4.drop n).push (c4.atV n) n).lst (c4.atV n)).length) capq7) hf83 rfl rfl rfl rfl rfl rfl (r_move rfl) fun ac75 hf84 => ?_)
    refine seq_one (op_val (v := .int .i64 ((((c4.drop n).push (c4.atV n) n).lst (c4.atV n)).length : Int)) hf84 rfl rfl rfl rfl rfl rfl (r_len sl_27 rfl) fun ac76 hf85 => ?_)
    refine seq_one (op_val (v := .int .i64 ((((((c4.drop n).push (c4.atV n) n).lst (c4.atV n)).length - 1) : Nat) : Int)) hf85 rfl rfl rfl rfl rfl rfl (r_sub (c := ((((((c4.drop n).push (c4.atV n) n).lst (c4.atV n)).length - 1) : Nat) : Int)) rfl rfl (by rw [show ((((c4.drop n).push (c4.atV n) n).lst (c4.atV n)).length : Int) - 1 = ((((((c4.drop n).push (c4.atV n) n).lst (c4.atV n)).length - 1) : Nat) : Int) by have := Ch.back_n (by have := c29_1; simpa using this); omega]; exact wrap_i64 (by omega) (by have := Ch.lst_le ((c4.drop n).push (c4.atV n) n) (c4.atV n); omega))) fun ac77 hf86 => ?_)
    refine seq_one (op_val (v := .pointer (slAt q7 ((((c4.drop n).push (c4.atV n) n).lst (c4.atV n)).length - 1))) hf86 rfl rfl rfl rfl rfl rfl (r_indexAddrV (i := ((((c4.drop n).push (c4.atV n) n).lst (c4.atV n)).length - 1)) sl_27 rfl rfl rfl (by have := Ch.back_n (by have := c29_1; simpa using this); omega) (let r := (hsq7.rd hI13 (fun x hx => List.mem_append_right _ hx)) ((((c4.drop n).push (c4.atV n) n).lst (c4.atV n)).length - 1) (by have := Ch.back_n (by have := c29_1; simpa using this); omega); ⟨r.choose, r.choose_spec.1⟩)) fun ac78 hf87 => ?_)
    refine seq_one (op_val (v := .int .i64 ((((c4.drop n).push (c4.atV n) n).lst (c4.atV n)).getD ((((c4.drop n).push (c4.atV n) n).lst (c4.atV n)).length - 1) 0)) hf87 rfl rfl rfl rfl rfl rfl (r_loadV ag_3 rfl (hsq7.rd hI13 (fun x hx => List.mem_append_right _ hx)) (by have := Ch.back_n (by have := c29_1; simpa using this); omega)) fun ac79 hf88 => ?_)
    refine seq_one (op_val (v := .int .i64 n) hf88 rfl rfl rfl rfl rfl rfl (r_move rfl) fun ac80 hf89 => ?_)
    refine seq_one (op_val (v := .bool (((((c4.drop n).push (c4.atV n) n).lst (c4.atV n)).getD ((((c4.drop n).push (c4.atV n) n).lst (c4.atV n)).length - 1) 0) == n)) hf89 rfl rfl rfl rfl rfl rfl (r_eql rfl rfl) fun ac81 hf90 => ?_)
    refine seq_one (op_val (v := .bool (((((c4.drop n).push (c4.atV n) n).lst (c4.atV n)).getD ((((c4.drop n).push (c4.atV n) n).lst (c4.atV n)).length - 1) 0) == n)) hf90 rfl rfl rfl rfl rfl rfl (r_pickT rfl rfl) fun ac82 hf91 => ?_)
    refine seq_one (op_val (v := .bool (((((c4.drop n).push (c4.atV n) n).lst (c4.atV n)).getD ((((c4.drop n).push (c4.atV n) n).lst (c4.atV n)).length - 1) 0) == n)) hf91 rfl rfl rfl rfl rfl rfl (r_move rfl) fun ac83 hf92 => ?_)
    have hf93 := hf92.know 86 (u := .bool true) rfl (congrArg Value.bool (beq_iff_eq.2 (Ch.back_g (by have := c29_1; simpa using this))))
    refine seq_one (op_val (v := .slice q7 ((((c4.drop n).push (c4.atV n) n).lst (c4.atV n)).length) capq7) hf93 rfl rfl rfl rfl rfl rfl (r_move rfl) fun ac84 hf94 => ?_)
    refine seq_one (op_val (v := .int .i64 ((((c4.drop n).push (c4.atV n) n).lst (c4.atV n)).length : Int)) hf94 rfl rfl rfl rfl rfl rfl (r_len sl_27 rfl) fun ac85 hf95 => ?_)
    refine seq_one (op_val (v := .pointer (some ⟨b4, 0, none⟩)) hf95 rfl rfl rfl rfl rfl rfl (r_move rfl) fun ac86 hf96 => ?_)
    refine seq_one (op_val (v := .int .i64 (c4.atV n)) hf96 rfl rfl rfl rfl rfl rfl (r_move rfl) fun ac87 hf97 => ?_)
    refine seq_one (op_pureW hf97 rfl rfl rfl rfl ca_41 (len_any (hI13.nd 0 rfl rfl rfl rfl) ((c4.drop n).push (c4.atV n) n) (Has.cons (hI13.at 0 rfl) (Has.cons (hI13.at 1 rfl) (Has.cons (hI13.at 2 rfl) (Has.cons (hI13.at 3 rfl) Has.nil)))) (c4.atV n)) hI13 fun ac88 wd13 hI14 hf98 => ?_)
    refine seq_one (op_val (v := .bool (((((c4.drop n).push (c4.atV n) n).lst (c4.atV n)).length : Int) == ((((c4.drop n).push (c4.atV n) n).lst (c4.atV n)).length : Int))) hf98 rfl rfl rfl rfl rfl rfl (r_eql rfl rfl) fun ac89 hf99 => ?_)
    refine seq_one (op_val (v := .bool (((((c4.drop n).push (c4.atV n) n).lst (c4.atV n)).length : Int) == ((((c4.drop n).push (c4.atV n) n).lst (c4.atV n)).length : Int))) hf99 rfl rfl rfl rfl rfl rfl (r_pickT rfl rfl) fun ac90 hf100 => ?_)
    refine seq_one (op_val (v := .bool (((((c4.drop n).push (c4.atV n) n).lst (c4.atV n)).length : Int) == ((((c4.drop n).push (c4.atV n) n).lst (c4.atV n)).length : Int))) hf100 rfl rfl rfl rfl rfl rfl (r_move rfl) fun ac91 hf101 => ?_)
    have hf102 := hf101.know 94 (u := .bool true) rfl (congrArg Value.bool (beq_self_eq_true _))
    refine seq_one (op_pure hf102 rfl rfl rfl rfl ca_33 awake5_pur hI14 fun ac92 wd14 hI15 hf103 => ?_)
    refine seq_one (op_val (v := .bool true) hf103 rfl rfl rfl rfl rfl rfl (r_pickT rfl rfl) fun ac93 hf104 => ?_)
    refine seq_one (op_val (v := .bool true) hf104 rfl rfl rfl rfl rfl rfl (r_assign rfl) fun ac94 hf105 => ?_)
    refine seq_end ?_
    clear ac69 hf77 ac70 hf78 ac71 hf79 ac72 hf80 hf81 ac73 hf82 ac74 hf83 ac75 hf84 ac76 hf85 ac77 hf86 ac78 hf87 ac79 hf88 ac80 hf89 ac81 hf90 ac82 hf91 hf92 ac83 hf93 ac84 hf94 ac85 hf95 ac86 hf96 ac87 wd12 hI13 hf97 ac88 hf98 ac89 hf99 ac90 hf100 hf101 ac91 wd13 hI14 hf102 ac92 hf103 ac93 hf104
    refine then_normal ?_
    refine wp_ret ?_
    refine post1 rfl hf105 rfl ⟨?_, hI15.done (fk_app (fresh_keys (ks := [b1, b2, b3, b4]) rfl (fk_cons hb1 (fk_cons hb2 (fk_cons hb3 (fk_cons hb4 fk_nil))))) hyq7)⟩
    rfl
end Go.Proofs.Ytjelaoblpchmmaa
