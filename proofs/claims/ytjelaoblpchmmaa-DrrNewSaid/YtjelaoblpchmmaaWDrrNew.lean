/-
  The walk of DrrNew.
-/
import Derived.Test.YtjelaoblpchmmaaPlain5
namespace Go.Proofs.Ytjelaoblpchmmaa
set_option linter.unusedVariables false
set_option linter.unusedSimpArgs false
set_option maxRecDepth 100000
open Go.RowKit
set_option maxHeartbeats 8000000 in
theorem drrNew_walk {p : Option Addr} {L cap : Nat} {rows : List (List Value)} (hl : rows.length = L) (hc : L ≤ cap) (ho : ∀ row ∈ rows, Oks opKinds row) {a q : Int} (eq : 64 + a = q) (hq : 64 ≤ q ∧ q ≤ 65599) {b n : Int} (en : b.tmod 8 = n) (hn : 0 ≤ n ∧ n < ((8 : Nat) : Int)) {c m : Int} (em : 1 + c = m) (hm : 1 ≤ m ∧ m ≤ 65536) {w : World} (hr : Rows_ w p 3 rows) : Calls Try.prog 14 [.int .u16 a, .slice p L cap, .int .u8 b, .int .u16 c].toArray w fun e w' => e = .returned (.bool true) ∧ Inv w [] w' := by
  have hI1 := Inv.start w
  refine enter (n := 180) Try.func14 rfl rfl rfl ?_
  intro ac1 hf1
  refine code_seq ?_
  refine seq_start (l := [0]) rfl ?_
  refine seq_one (op_val (v := .bool false) hf1 rfl rfl rfl rfl rfl rfl (r_assign rfl) fun ac2 hf2 => ?_)
  refine seq_end ?_
  clear ac1 hf1
  refine then_normal ?_
  refine code_seq ?_
  refine seq_start (l := [0, 1, 2, 3]) rfl ?_
  refine seq_one (op_val (v := .int .u16 a) hf2 rfl rfl rfl rfl rfl rfl (r_move rfl) fun ac3 hf3 => ?_)
  refine seq_one (op_val (v := .int .i64 a) hf3 rfl rfl rfl rfl rfl rfl (r_conv (c := a) ui_22 ui_3 rfl (wrap_i64 (by omega) (by omega))) fun ac4 hf4 => ?_)
  refine seq_one (op_val (v := .int .i64 q) hf4 rfl rfl rfl rfl rfl rfl (r_add (c := q) rfl rfl (by rw [eq]; exact wrap_i64 (by omega) (by omega))) fun ac5 hf5 => ?_)
  refine seq_one (op_val (v := .int .i64 q) hf5 rfl rfl rfl rfl rfl rfl (r_assign rfl) fun ac6 hf6 => ?_)
  refine seq_end ?_
  clear ac2 hf2 ac3 hf3 ac4 hf4 ac5 hf5
  refine then_normal ?_
  refine code_seq ?_
  refine seq_start (l := [0, 1, 2, 3, 4, 5, 6, 7]) rfl ?_
  refine seq_one (op_val (v := .int .i64 q) hf6 rfl rfl rfl rfl rfl rfl (r_move rfl) fun ac7 hf7 => ?_)
  refine seq_one (op_val (v := .slice p L cap) hf7 rfl rfl rfl rfl rfl rfl (r_move rfl) fun ac8 hf8 => ?_)
  refine seq_one (op_call (R := fun v w' => ∃ lb ob mb cb rc rb, ∃ r : Ro 8, Array.size (World.heap w) ≤ lb ∧ Array.size (World.heap w) ≤ ob ∧ Array.size (World.heap w) ≤ mb ∧ Array.size (World.heap w) ≤ cb ∧ Array.size (World.heap w) ≤ rc ∧ Array.size (World.heap w) ≤ rb ∧ v = .tuple #[.pointer (some ⟨rb, 0, none⟩), .bool true] ∧ Inv w [(lb, arr .i64 r.c.lk, 103), (ob, arr .i64 r.c.of, 3), (mb, arr .i64 r.c.mn, 3), (cb, #[.slice (some ⟨lb, 0, none⟩) (8 + 2) (8 + 2), .slice (some ⟨ob, 0, none⟩) 8 8, .slice (some ⟨mb, 0, none⟩) 2 2], 79), (rc, arr .i64 r.cr, 3), (rb, #[.pointer (some ⟨cb, 0, none⟩), .slice (some ⟨rc, 0, none⟩) 8 8, .int .i64 r.q], 45)] w') hf8 rfl rfl rfl rfl ca_15 ((played17_walk ⟨hq.1, by omega⟩ hl hc ho (hr.old hI1 (fresh_keys (ks := []) rfl fk_nil))).mono fun e w' ⟨lb, ob, mb, cb, rc, rb, r, h1, h2, h3, h4, h5, h6, h7, h8⟩ => ⟨_, h7, lb, ob, mb, cb, rc, rb, r, h1, h2, h3, h4, h5, h6, rfl, h8⟩) fun ac9 v wd1 hR hf9 => ?_)
  obtain ⟨b1, b2, b3, b4, b5, b6, r6, hqb1, hqb2, hqb3, hqb4, hqb5, hqb6, rfl, hw6⟩ := hR
  have hb1 := Nat.le_trans hI1.size hqb1
  have hb2 := Nat.le_trans hI1.size hqb2
  have hb3 := Nat.le_trans hI1.size hqb3
  have hb4 := Nat.le_trans hI1.size hqb4
  have hb5 := Nat.le_trans hI1.size hqb5
  have hb6 := Nat.le_trans hI1.size hqb6
  have hI2 : Inv w [(b1, arr .i64 r6.c.lk, 103), (b2, arr .i64 r6.c.of, 3), (b3, arr .i64 r6.c.mn, 3), (b4, #[.slice (some ⟨b1, 0, none⟩) (8 + 2) (8 + 2), .slice (some ⟨b2, 0, none⟩) 8 8, .slice (some ⟨b3, 0, none⟩) 2 2], 79), (b5, arr .i64 r6.cr, 3), (b6, #[.pointer (some ⟨b4, 0, none⟩), .slice (some ⟨b5, 0, none⟩) 8 8, .int .i64 r6.q], 45)] _ := hI1.callN hw6 (fk6 hqb1 hqb2 hqb3 hqb4 hqb5 hqb6)
  refine seq_one (op_val (v := .tuple #[.pointer (some ⟨b6, 0, none⟩), .bool true]) hf9 rfl rfl rfl rfl rfl rfl (r_move rfl) fun ac10 hf10 => ?_)
  refine seq_one (op_val (v := .pointer (some ⟨b6, 0, none⟩)) hf10 rfl rfl rfl rfl rfl rfl (r_extract rfl rfl) fun ac11 hf11 => ?_)
  refine seq_one (op_val (v := .bool true) hf11 rfl rfl rfl rfl rfl rfl (r_extract rfl rfl) fun ac12 hf12 => ?_)
  refine seq_one (op_val (v := .pointer (some ⟨b6, 0, none⟩)) hf12 rfl rfl rfl rfl rfl rfl (r_assign rfl) fun ac13 hf13 => ?_)
  refine seq_one (op_val (v := .bool true) hf13 rfl rfl rfl rfl rfl rfl (r_assign rfl) fun ac14 hf14 => ?_)
  refine seq_end ?_
  clear ac6 hf6 ac7 hf7 ac8 hf8 hI1 hw6 hqb1 hqb2 hqb3 hqb4 hqb5 hqb6 ac9 hf9 ac10 hf10 ac11 hf11 ac12 hf12 ac13 hf13
  refine then_normal ?_
  refine code_seq ?_
  refine seq_start (l := [0, 1, 2, 3]) rfl ?_
  refine seq_one (op_val (v := .int .u8 b) hf14 rfl rfl rfl rfl rfl rfl (r_move rfl) fun ac15 hf15 => ?_)
  refine seq_one (op_val (v := .int .u8 n) hf15 rfl rfl rfl rfl rfl rfl (r_rem (c := n) rfl rfl (by omega) en) fun ac16 hf16 => ?_)
  refine seq_one (op_val (v := .int .i64 n) hf16 rfl rfl rfl rfl rfl rfl (r_conv (c := n) ui_5 ui_3 rfl (wrap_i64 (by omega) (by omega))) fun ac17 hf17 => ?_)
  refine seq_one (op_val (v := .int .i64 n) hf17 rfl rfl rfl rfl rfl rfl (r_assign rfl) fun ac18 hf18 => ?_)
  refine seq_end ?_
  clear ac14 hf14 ac15 hf15 ac16 hf16 ac17 hf17
  refine then_normal ?_
  refine code_seq ?_
  refine code_seq ?_
  refine seq_start (l := [0, 1, 2, 3, 4, 5, 6, 7]) rfl ?_
  refine seq_one (op_val (v := .pointer (some ⟨b6, 0, none⟩)) hf18 rfl rfl rfl rfl rfl rfl (r_move rfl) fun ac19 hf19 => ?_)
  refine seq_one (op_val (v := .int .i64 n) hf19 rfl rfl rfl rfl rfl rfl (r_move rfl) fun ac20 hf20 => ?_)
  refine seq_one (op_pureW hf20 rfl rfl rfl rfl ca_17 (credit_any (hI2.nd6 0 rfl rfl rfl rfl rfl rfl) r6 (Has.cons (hI2.at 0 rfl) (Has.cons (hI2.at 1 rfl) (Has.cons (hI2.at 2 rfl) (Has.cons (hI2.at 3 rfl) (Has.cons (hI2.at 4 rfl) (Has.cons (hI2.at 5 rfl) Has.nil)))))) n) hI2 fun ac21 wd2 hI3 hf21 => ?_)
  refine seq_one (op_val (v := .tuple #[.int .i64 (r6.crV n), .bool (r6.c.inn n)]) hf21 rfl rfl rfl rfl rfl rfl (r_move rfl) fun ac22 hf22 => ?_)
  refine seq_one (op_val (v := .int .i64 (r6.crV n)) hf22 rfl rfl rfl rfl rfl rfl (r_extract rfl rfl) fun ac23 hf23 => ?_)
  refine seq_one (op_val (v := .bool (r6.c.inn n)) hf23 rfl rfl rfl rfl rfl rfl (r_extract rfl rfl) fun ac24 hf24 => ?_)
  refine seq_one (op_val (v := .int .i64 (r6.crV n)) hf24 rfl rfl rfl rfl rfl rfl (r_assign rfl) fun ac25 hf25 => ?_)
  refine seq_one (op_val (v := .bool (r6.c.inn n)) hf25 rfl rfl rfl rfl rfl rfl (r_assign rfl) fun ac26 hf26 => ?_)
  refine seq_end ?_
  clear ac18 hf18 ac19 hf19 ac20 wd1 hI2 hf20 ac21 hf21 ac22 hf22 ac23 hf23 ac24 hf24 ac25 hf25
  refine then_normal ?_
  refine code_seq ?_
  refine seq_start (l := [0, 1, 2, 3, 4]) rfl ?_
  refine seq_one (op_val (v := .bool true) hf26 rfl rfl rfl rfl rfl rfl (r_move rfl) fun ac27 hf27 => ?_)
  refine seq_one (op_val (v := .bool false) hf27 rfl rfl rfl rfl rfl rfl ((r_not (b := true) rfl).trans rfl) fun ac28 hf28 => ?_)
  refine seq_one (op_val (v := .bool false) hf28 rfl rfl rfl rfl rfl rfl (r_move rfl) fun ac29 hf29 => ?_)
  refine seq_one (op_val (v := .bool (r6.c.inn n)) hf29 rfl rfl rfl rfl rfl rfl (r_move rfl) fun ac30 hf30 => ?_)
  refine seq_one (op_val (v := .bool (r6.c.inn n)) hf30 rfl rfl rfl rfl rfl rfl (r_pickF rfl rfl) fun ac31 hf31 => ?_)
  refine seq_end ?_
  clear ac26 hf26 ac27 hf27 ac28 hf28 ac29 hf29 ac30 hf30
  refine then_normal ?_
  refine code_if hf31 rfl (fun c52_1 => ?_) (fun c52_1 => ?_)
  · have hf32 := hf31.know 52 (u := .bool true) rfl (congrArg Value.bool c52_1)
    refine code_seq ?_
    refine seq_start (l := [0, 1, 2, 3, 4]) rfl ?_
    refine seq_one (op_val (v := .bool true) hf32 rfl rfl rfl rfl rfl rfl (r_move rfl) fun ac32 hf33 => ?_)
    refine seq_one (op_val (v := .bool true) hf33 rfl rfl rfl rfl rfl rfl (r_move rfl) fun ac33 hf34 => ?_)
    refine seq_one (op_pure hf34 rfl rfl rfl rfl ca_23 awake17_pur hI3 fun ac34 wd3 hI4 hf35 => ?_)
    refine seq_one (op_val (v := .bool true) hf35 rfl rfl rfl rfl rfl rfl (r_pickT rfl rfl) fun ac35 hf36 => ?_)
    refine seq_one (op_val (v := .bool true) hf36 rfl rfl rfl rfl rfl rfl (r_assign rfl) fun ac36 hf37 => ?_)
    refine seq_end ?_
    clear hf31 ac31 hf32 ac32 hf33 ac33 wd2 hI3 hf34 ac34 hf35 ac35 hf36
    refine then_normal ?_
    refine wp_ret ?_
    refine then_ret ?_
    refine post1 rfl hf37 rfl ⟨?_, hI4.done (fresh_keys (ks := [b1, b2, b3, b4, b5, b6]) rfl (fk_cons hb1 (fk_cons hb2 (fk_cons hb3 (fk_cons hb4 (fk_cons hb5 (fk_cons hb6 fk_nil)))))))⟩
    rfl
  · have hf38 := hf31.know 52 (u := .bool false) rfl (congrArg Value.bool c52_1)
    refine wp_skip ?_
    refine then_normal ?_
    refine code_seq ?_
    refine seq_start (l := [0, 1, 2, 3, 4, 5, 6]) rfl ?_
    refine seq_one (op_val (v := .pointer (some ⟨b6, 0, none⟩)) hf38 rfl rfl rfl rfl rfl rfl (r_move rfl) fun ac37 hf39 => ?_)
    refine seq_one (op_call (R := fun v w' => ∃ S p cap T q caq, v = .tuple #[.slice p (r6.c.lst 0).length cap, .slice q (r6.c.lst 1).length caq] ∧ Sl 3 .i64 S p cap (r6.c.lst 0) ∧ Sl 3 .i64 T q caq (r6.c.lst 1) ∧ Inv _ (S ++ T) w' ∧ (∀ x ∈ S, Array.size (World.heap _) ≤ x.1) ∧ ∀ x ∈ T, Array.size (World.heap _) ≤ x.1) hf39 rfl rfl rfl rfl ca_16 ((lists_any (hI3.nd6 0 rfl rfl rfl rfl rfl rfl) r6 (Has.cons (hI3.at 0 rfl) (Has.cons (hI3.at 1 rfl) (Has.cons (hI3.at 2 rfl) (Has.cons (hI3.at 3 rfl) (Has.cons (hI3.at 4 rfl) (Has.cons (hI3.at 5 rfl) Has.nil))))))).mono fun _ _ ⟨S, p, cap, T, q, caq, he, h1, h2, h3, h4, h5⟩ => ⟨_, he, S, p, cap, T, q, caq, rfl, h1, h2, h3, h4, h5⟩) fun ac38 v wd4 hR hf40 => ?_)
    obtain ⟨Sq7, q7, capq7, Sq8, q8, capq8, rfl, hsq7, hsq8, hwq7, hzq7, hzq8⟩ := hR
    have hyq7 := fk_le hI3.size hzq7
    have hyq8 := fk_le hI3.size hzq8
    have hI5 := hI3.callN2 hwq7 hzq7 hzq8
    have hI6 : Inv w ([(b1, arr .i64 r6.c.lk, 103), (b2, arr .i64 r6.c.of, 3), (b3, arr .i64 r6.c.mn, 3), (b4, #[.slice (some ⟨b1, 0, none⟩) (8 + 2) (8 + 2), .slice (some ⟨b2, 0, none⟩) 8 8, .slice (some ⟨b3, 0, none⟩) 2 2], 79), (b5, arr .i64 r6.cr, 3), (b6, #[.pointer (some ⟨b4, 0, none⟩), .slice (some ⟨b5, 0, none⟩) 8 8, .int .i64 r6.q], 45)] ++ (Sq7 ++ Sq8)) _ := hI5
    refine seq_one (op_val (v := .tuple #[.slice q7 ((r6.c.lst 0).length) capq7, .slice q8 ((r6.c.lst 1).length) capq8]) hf40 rfl rfl rfl rfl rfl rfl (r_move rfl) fun ac39 hf41 => ?_)
    refine seq_one (op_val (v := .slice q7 ((r6.c.lst 0).length) capq7) hf41 rfl rfl rfl rfl rfl rfl (r_extract rfl rfl) fun ac40 hf42 => ?_)
    refine seq_one (op_val (v := .slice q8 ((r6.c.lst 1).length) capq8) hf42 rfl rfl rfl rfl rfl rfl (r_extract rfl rfl) fun ac41 hf43 => ?_)
    refine seq_one (op_val (v := .slice q7 ((r6.c.lst 0).length) capq7) hf43 rfl rfl rfl rfl rfl rfl (r_assign rfl) fun ac42 hf44 => ?_)
    refine seq_one (op_val (v := .slice q8 ((r6.c.lst 1).length) capq8) hf44 rfl rfl rfl rfl rfl rfl (r_assign rfl) fun ac43 hf45 => ?_)
    refine seq_end ?_
    clear hf31 ac31 hf38 ac37 wd2 hf39 hI3 hI5 hwq7 hzq7 hzq8 ac38 hf40 ac39 hf41 ac40 hf42 ac41 hf43 ac42 hf44
    refine then_normal ?_
    refine code_seq ?_
    refine code_seq ?_
    refine seq_start (l := [0, 1, 2, 3, 4, 5, 6, 7, 8, 9, 10, 11, 12, 13, 14, 15, 16, 17, 18]) rfl ?_
    refine seq_one (op_val (v := .pointer (some ⟨b6, 0, none⟩)) hf45 rfl rfl rfl rfl rfl rfl (r_move rfl) fun ac44 hf46 => ?_)
    refine seq_one (op_val (v := .int .i64 n) hf46 rfl rfl rfl rfl rfl rfl (r_move rfl) fun ac45 hf47 => ?_)
    refine seq_one (op_val (v := .int .u16 c) hf47 rfl rfl rfl rfl rfl rfl (r_move rfl) fun ac46 hf48 => ?_)
    refine seq_one (op_val (v := .int .i64 c) hf48 rfl rfl rfl rfl rfl rfl (r_conv (c := c) ui_22 ui_3 rfl (wrap_i64 (by omega) (by omega))) fun ac47 hf49 => ?_)
    refine seq_one (op_val (v := .int .i64 m) hf49 rfl rfl rfl rfl rfl rfl (r_add (c := m) rfl rfl (by rw [em]; exact wrap_i64 (by omega) (by omega))) fun ac48 hf50 => ?_)
    refine seq_one (op_call (R := fun v w' => v = .int .i64 (r6.enterE 0 n m) ∧ Inv _ [(b1, arr .i64 ((r6.enter 0 n m).c).lk, 103), (b2, arr .i64 ((r6.enter 0 n m).c).of, 3), (b3, arr .i64 ((r6.enter 0 n m).c).mn, 3), (b4, #[.slice (some ⟨b1, 0, none⟩) (8 + 2) (8 + 2), .slice (some ⟨b2, 0, none⟩) 8 8, .slice (some ⟨b3, 0, none⟩) 2 2], 79), (b5, arr .i64 (r6.enter 0 n m).cr, 3), (b6, #[.pointer (some ⟨b4, 0, none⟩), .slice (some ⟨b5, 0, none⟩) 8 8, .int .i64 ((r6.enter 0 n m).q)], 45)] w') hf50 rfl rfl rfl rfl ca_24 ((join_any (hI6.nd6 0 rfl rfl rfl rfl rfl rfl) r6 (Has.cons (hI6.at 0 rfl) (Has.cons (hI6.at 1 rfl) (Has.cons (hI6.at 2 rfl) (Has.cons (hI6.at 3 rfl) (Has.cons (hI6.at 4 rfl) (Has.cons (hI6.at 5 rfl) Has.nil)))))) n m).mono fun _ _ h => ⟨_, h.1, rfl, h.2⟩) fun ac49 v wd5 hR9 hf51 => ?_)
    obtain ⟨rfl, hR9⟩ := hR9
    have hI7 : Inv w ([(b1, arr .i64 ((r6.enter 0 n m).c).lk, 103), (b2, arr .i64 ((r6.enter 0 n m).c).of, 3), (b3, arr .i64 ((r6.enter 0 n m).c).mn, 3), (b4, #[.slice (some ⟨b1, 0, none⟩) (8 + 2) (8 + 2), .slice (some ⟨b2, 0, none⟩) 8 8, .slice (some ⟨b3, 0, none⟩) 2 2], 79), (b5, arr .i64 (r6.enter 0 n m).cr, 3), (b6, #[.pointer (some ⟨b4, 0, none⟩), .slice (some ⟨b5, 0, none⟩) 8 8, .int .i64 ((r6.enter 0 n m).q)], 45)] ++ (Sq7 ++ Sq8)) _ := Inv.callST (A := []) (S := [(b1, arr .i64 r6.c.lk, 103), (b2, arr .i64 r6.c.of, 3), (b3, arr .i64 r6.c.mn, 3), (b4, #[.slice (some ⟨b1, 0, none⟩) (8 + 2) (8 + 2), .slice (some ⟨b2, 0, none⟩) 8 8, .slice (some ⟨b3, 0, none⟩) 2 2], 79), (b5, arr .i64 r6.cr, 3), (b6, #[.pointer (some ⟨b4, 0, none⟩), .slice (some ⟨b5, 0, none⟩) 8 8, .int .i64 r6.q], 45)]) (S' := [(b1, arr .i64 ((r6.enter 0 n m).c).lk, 103), (b2, arr .i64 ((r6.enter 0 n m).c).of, 3), (b3, arr .i64 ((r6.enter 0 n m).c).mn, 3), (b4, #[.slice (some ⟨b1, 0, none⟩) (8 + 2) (8 + 2), .slice (some ⟨b2, 0, none⟩) 8 8, .slice (some ⟨b3, 0, none⟩) 2 2], 79), (b5, arr .i64 (r6.enter 0 n m).cr, 3), (b6, #[.pointer (some ⟨b4, 0, none⟩), .slice (some ⟨b5, 0, none⟩) 8 8, .int .i64 ((r6.enter 0 n m).q)], 45)]) (L := []) (N := []) (T := (Sq7 ++ Sq8)) hI6 hR9 rfl (fun _ h => by cases h)
    obtain ⟨r10, er10⟩ : ∃ r : Ro 8, r = (r6.enter 0 n m) := ⟨_, rfl⟩
    rw [← er10] at hI7
    refine seq_one (op_val (v := .bool ((r6.enterE 0 n m) != 0)) hf51 rfl rfl rfl rfl rfl rfl (r_neq rfl rfl) fun ac50 hf52 => ?_)
    refine seq_one (op_val (v := .bool ((r6.enterE 0 n m) != 0)) hf52 rfl rfl rfl rfl rfl rfl (r_move rfl) fun ac51 hf53 => ?_)
    have hf54 := hf53.know 69 (u := .bool false) rfl (congrArg Value.bool (bne_eq_false_iff_eq.2 (Ro.j1 hn c52_1 hm)))
    refine seq_one (op_val (v := .pointer (some ⟨b6, 0, none⟩)) hf54 rfl rfl rfl rfl rfl rfl (r_move rfl) fun ac52 hf55 => ?_)
    refine seq_one (op_val (v := .int .i64 n) hf55 rfl rfl rfl rfl rfl rfl (r_move rfl) fun ac53 hf56 => ?_)
    refine seq_one (op_call (R := fun v w' => v = .int .i64 (r10.enterE 0 n 1) ∧ Inv _ [(b1, arr .i64 ((r10.enter 0 n 1).c).lk, 103), (b2, arr .i64 ((r10.enter 0 n 1).c).of, 3), (b3, arr .i64 ((r10.enter 0 n 1).c).mn, 3), (b4, #[.slice (some ⟨b1, 0, none⟩) (8 + 2) (8 + 2), .slice (some ⟨b2, 0, none⟩) 8 8, .slice (some ⟨b3, 0, none⟩) 2 2], 79), (b5, arr .i64 (r10.enter 0 n 1).cr, 3), (b6, #[.pointer (some ⟨b4, 0, none⟩), .slice (some ⟨b5, 0, none⟩) 8 8, .int .i64 ((r10.enter 0 n 1).q)], 45)] w') hf56 rfl rfl rfl rfl ca_24 ((join_any (hI7.nd6 0 rfl rfl rfl rfl rfl rfl) r10 (Has.cons (hI7.at 0 rfl) (Has.cons (hI7.at 1 rfl) (Has.cons (hI7.at 2 rfl) (Has.cons (hI7.at 3 rfl) (Has.cons (hI7.at 4 rfl) (Has.cons (hI7.at 5 rfl) Has.nil)))))) n 1).mono fun _ _ h => ⟨_, h.1, rfl, h.2⟩) fun ac54 v wd6 hR11 hf57 => ?_)
    obtain ⟨rfl, hR11⟩ := hR11
    have hI8 : Inv w ([(b1, arr .i64 ((r10.enter 0 n 1).c).lk, 103), (b2, arr .i64 ((r10.enter 0 n 1).c).of, 3), (b3, arr .i64 ((r10.enter 0 n 1).c).mn, 3), (b4, #[.slice (some ⟨b1, 0, none⟩) (8 + 2) (8 + 2), .slice (some ⟨b2, 0, none⟩) 8 8, .slice (some ⟨b3, 0, none⟩) 2 2], 79), (b5, arr .i64 (r10.enter 0 n 1).cr, 3), (b6, #[.pointer (some ⟨b4, 0, none⟩), .slice (some ⟨b5, 0, none⟩) 8 8, .int .i64 ((r10.enter 0 n 1).q)], 45)] ++ (Sq7 ++ Sq8)) _ := Inv.callST (A := []) (S := [(b1, arr .i64 r10.c.lk, 103), (b2, arr .i64 r10.c.of, 3), (b3, arr .i64 r10.c.mn, 3), (b4, #[.slice (some ⟨b1, 0, none⟩) (8 + 2) (8 + 2), .slice (some ⟨b2, 0, none⟩) 8 8, .slice (some ⟨b3, 0, none⟩) 2 2], 79), (b5, arr .i64 r10.cr, 3), (b6, #[.pointer (some ⟨b4, 0, none⟩), .slice (some ⟨b5, 0, none⟩) 8 8, .int .i64 r10.q], 45)]) (S' := [(b1, arr .i64 ((r10.enter 0 n 1).c).lk, 103), (b2, arr .i64 ((r10.enter 0 n 1).c).of, 3), (b3, arr .i64 ((r10.enter 0 n 1).c).mn, 3), (b4, #[.slice (some ⟨b1, 0, none⟩) (8 + 2) (8 + 2), .slice (some ⟨b2, 0, none⟩) 8 8, .slice (some ⟨b3, 0, none⟩) 2 2], 79), (b5, arr .i64 (r10.enter 0 n 1).cr, 3), (b6, #[.pointer (some ⟨b4, 0, none⟩), .slice (some ⟨b5, 0, none⟩) 8 8, .int .i64 ((r10.enter 0 n 1).q)], 45)]) (L := []) (N := []) (T := (Sq7 ++ Sq8)) hI7 hR11 rfl (fun _ h => by cases h)
    obtain ⟨r12, er12⟩ : ∃ r : Ro 8, r = (r10.enter 0 n 1) := ⟨_, rfl⟩
    rw [← er12] at hI8
    refine seq_one (op_val (v := .bool ((r10.enterE 0 n 1) != 50)) hf57 rfl rfl rfl rfl rfl rfl (r_neq rfl rfl) fun ac55 hf58 => ?_)
    refine seq_one (op_val (v := .bool ((r10.enterE 0 n 1) != 50)) hf58 rfl rfl rfl rfl rfl rfl (r_pickF rfl rfl) fun ac56 hf59 => ?_)
    refine seq_one (op_val (v := .bool ((r10.enterE 0 n 1) != 50)) hf59 rfl rfl rfl rfl rfl rfl (r_move rfl) fun ac57 hf60 => ?_)
    have hf61 := hf60.know 75 (u := .bool false) rfl (congrArg Value.bool (bne_eq_false_iff_eq.2 (Ro.j2 hn c52_1 hm er10)))
    refine seq_one (op_val (v := .pointer (some ⟨b6, 0, none⟩)) hf61 rfl rfl rfl rfl rfl rfl (r_move rfl) fun ac58 hf62 => ?_)
    refine seq_one (op_val (v := .int .i64 n) hf62 rfl rfl rfl rfl rfl rfl (r_move rfl) fun ac59 hf63 => ?_)
    refine seq_one (op_call (R := fun v w' => v = .int .i64 (r12.enterE 1 n 1) ∧ Inv _ [(b1, arr .i64 ((r12.enter 1 n 1).c).lk, 103), (b2, arr .i64 ((r12.enter 1 n 1).c).of, 3), (b3, arr .i64 ((r12.enter 1 n 1).c).mn, 3), (b4, #[.slice (some ⟨b1, 0, none⟩) (8 + 2) (8 + 2), .slice (some ⟨b2, 0, none⟩) 8 8, .slice (some ⟨b3, 0, none⟩) 2 2], 79), (b5, arr .i64 (r12.enter 1 n 1).cr, 3), (b6, #[.pointer (some ⟨b4, 0, none⟩), .slice (some ⟨b5, 0, none⟩) 8 8, .int .i64 ((r12.enter 1 n 1).q)], 45)] w') hf63 rfl rfl rfl rfl ca_25 ((back_any (hI8.nd6 0 rfl rfl rfl rfl rfl rfl) r12 (Has.cons (hI8.at 0 rfl) (Has.cons (hI8.at 1 rfl) (Has.cons (hI8.at 2 rfl) (Has.cons (hI8.at 3 rfl) (Has.cons (hI8.at 4 rfl) (Has.cons (hI8.at 5 rfl) Has.nil)))))) n 1).mono fun _ _ h => ⟨_, h.1, rfl, h.2⟩) fun ac60 v wd7 hR13 hf64 => ?_)
    obtain ⟨rfl, hR13⟩ := hR13
    have hI9 : Inv w ([(b1, arr .i64 ((r12.enter 1 n 1).c).lk, 103), (b2, arr .i64 ((r12.enter 1 n 1).c).of, 3), (b3, arr .i64 ((r12.enter 1 n 1).c).mn, 3), (b4, #[.slice (some ⟨b1, 0, none⟩) (8 + 2) (8 + 2), .slice (some ⟨b2, 0, none⟩) 8 8, .slice (some ⟨b3, 0, none⟩) 2 2], 79), (b5, arr .i64 (r12.enter 1 n 1).cr, 3), (b6, #[.pointer (some ⟨b4, 0, none⟩), .slice (some ⟨b5, 0, none⟩) 8 8, .int .i64 ((r12.enter 1 n 1).q)], 45)] ++ (Sq7 ++ Sq8)) _ := Inv.callST (A := []) (S := [(b1, arr .i64 r12.c.lk, 103), (b2, arr .i64 r12.c.of, 3), (b3, arr .i64 r12.c.mn, 3), (b4, #[.slice (some ⟨b1, 0, none⟩) (8 + 2) (8 + 2), .slice (some ⟨b2, 0, none⟩) 8 8, .slice (some ⟨b3, 0, none⟩) 2 2], 79), (b5, arr .i64 r12.cr, 3), (b6, #[.pointer (some ⟨b4, 0, none⟩), .slice (some ⟨b5, 0, none⟩) 8 8, .int .i64 r12.q], 45)]) (S' := [(b1, arr .i64 ((r12.enter 1 n 1).c).lk, 103), (b2, arr .i64 ((r12.enter 1 n 1).c).of, 3), (b3, arr .i64 ((r12.enter 1 n 1).c).mn, 3), (b4, #[.slice (some ⟨b1, 0, none⟩) (8 + 2) (8 + 2), .slice (some ⟨b2, 0, none⟩) 8 8, .slice (some ⟨b3, 0, none⟩) 2 2], 79), (b5, arr .i64 (r12.enter 1 n 1).cr, 3), (b6, #[.pointer (some ⟨b4, 0, none⟩), .slice (some ⟨b5, 0, none⟩) 8 8, .int .i64 ((r12.enter 1 n 1).q)], 45)]) (L := []) (N := []) (T := (Sq7 ++ Sq8)) hI8 hR13 rfl (fun _ h => by cases h)
    obtain ⟨r14, er14⟩ : ∃ r : Ro 8, r = (r12.enter 1 n 1) := ⟨_, rfl⟩
    rw [← er14] at hI9
    refine seq_one (op_val (v := .bool ((r12.enterE 1 n 1) != 50)) hf64 rfl rfl rfl rfl rfl rfl (r_neq rfl rfl) fun ac61 hf65 => ?_)
    refine seq_one (op_val (v := .bool ((r12.enterE 1 n 1) != 50)) hf65 rfl rfl rfl rfl rfl rfl (r_pickF rfl rfl) fun ac62 hf66 => ?_)
    refine seq_end ?_
    clear ac43 hf45 ac44 hf46 ac45 hf47 ac46 hf48 ac47 hf49 ac48 wd4 hf50 hI6 hR9 ac49 hf51 ac50 hf52 hf53 ac51 hf54 ac52 hf55 ac53 wd5 hf56 hI7 hR11 ac54 hf57 ac55 hf58 ac56 hf59 hf60 ac57 hf61 ac58 hf62 ac59 wd6 hf63 hI8 hR13 ac60 hf64 ac61 hf65
    refine then_normal ?_
    have hf67 := hf66.know 80 (u := .bool false) rfl (congrArg Value.bool (bne_eq_false_iff_eq.2 (Ro.j3 hn c52_1 hm er10 er12)))
    refine code_if_false hf67 rfl ?_
    refine wp_skip ?_
    refine then_normal ?_
    refine code_seq ?_
    refine seq_start (l := [0, 1, 2, 3, 4, 5, 6]) rfl ?_
    refine seq_one (op_val (v := .pointer (some ⟨b6, 0, none⟩)) hf67 rfl rfl rfl rfl rfl rfl (r_move rfl) fun ac63 hf68 => ?_)
    refine seq_one (op_call (R := fun v w' => ∃ S p cap T q caq, v = .tuple #[.slice p (r14.c.lst 0).length cap, .slice q (r14.c.lst 1).length caq] ∧ Sl 3 .i64 S p cap (r14.c.lst 0) ∧ Sl 3 .i64 T q caq (r14.c.lst 1) ∧ Inv _ (S ++ T) w' ∧ (∀ x ∈ S, Array.size (World.heap _) ≤ x.1) ∧ ∀ x ∈ T, Array.size (World.heap _) ≤ x.1) hf68 rfl rfl rfl rfl ca_16 ((lists_any (hI9.nd6 0 rfl rfl rfl rfl rfl rfl) r14 (Has.cons (hI9.at 0 rfl) (Has.cons (hI9.at 1 rfl) (Has.cons (hI9.at 2 rfl) (Has.cons (hI9.at 3 rfl) (Has.cons (hI9.at 4 rfl) (Has.cons (hI9.at 5 rfl) Has.nil))))))).mono fun _ _ ⟨S, p, cap, T, q, caq, he, h1, h2, h3, h4, h5⟩ => ⟨_, he, S, p, cap, T, q, caq, rfl, h1, h2, h3, h4, h5⟩) fun ac64 v wd8 hR hf69 => ?_)
    obtain ⟨Sq15, q15, capq15, Sq16, q16, capq16, rfl, hsq15, hsq16, hwq15, hzq15, hzq16⟩ := hR
    have hyq15 := fk_le hI9.size hzq15
    have hyq16 := fk_le hI9.size hzq16
    have hI10 := hI9.callN2 hwq15 hzq15 hzq16
    have hI11 : Inv w ([(b1, arr .i64 r14.c.lk, 103), (b2, arr .i64 r14.c.of, 3), (b3, arr .i64 r14.c.mn, 3), (b4, #[.slice (some ⟨b1, 0, none⟩) (8 + 2) (8 + 2), .slice (some ⟨b2, 0, none⟩) 8 8, .slice (some ⟨b3, 0, none⟩) 2 2], 79), (b5, arr .i64 r14.cr, 3), (b6, #[.pointer (some ⟨b4, 0, none⟩), .slice (some ⟨b5, 0, none⟩) 8 8, .int .i64 r14.q], 45)] ++ (((Sq7 ++ Sq8) ++ Sq15) ++ Sq16)) _ := hI10
    refine seq_one (op_val (v := .tuple #[.slice q15 ((r14.c.lst 0).length) capq15, .slice q16 ((r14.c.lst 1).length) capq16]) hf69 rfl rfl rfl rfl rfl rfl (r_move rfl) fun ac65 hf70 => ?_)
    refine seq_one (op_val (v := .slice q15 ((r14.c.lst 0).length) capq15) hf70 rfl rfl rfl rfl rfl rfl (r_extract rfl rfl) fun ac66 hf71 => ?_)
    refine seq_one (op_val (v := .slice q16 ((r14.c.lst 1).length) capq16) hf71 rfl rfl rfl rfl rfl rfl (r_extract rfl rfl) fun ac67 hf72 => ?_)
    refine seq_one (op_val (v := .slice q15 ((r14.c.lst 0).length) capq15) hf72 rfl rfl rfl rfl rfl rfl (r_assign rfl) fun ac68 hf73 => ?_)
    refine seq_one (op_val (v := .slice q16 ((r14.c.lst 1).length) capq16) hf73 rfl rfl rfl rfl rfl rfl (r_assign rfl) fun ac69 hf74 => ?_)
    refine seq_end ?_
    clear hf66 ac62 hf67 ac63 wd7 hf68 hI9 hI10 hwq15 hzq15 hzq16 ac64 hf69 ac65 hf70 ac66 hf71 ac67 hf72 ac68 hf73
    refine then_normal ?_
    refine code_seq ?_
    refine code_seq ?_
    refine seq_start (l := [0, 1, 2, 3, 4, 5, 6, 7, 8, 9, 10, 11, 12, 13, 14]) rfl ?_
    refine seq_one (op_val (v := .slice q15 ((r14.c.lst 0).length) capq15) hf74 rfl rfl rfl rfl rfl rfl (r_move rfl) fun ac70 hf75 => ?_)
    refine seq_one (op_bslice (s := 3) (cells := #[]) hf75 rfl rfl rfl rfl rfl (fun _ => by kernel_rfl) hI11 fun ac71 b17 wd9 hb17 hI12 hf76 => ?_)
    have hI13 : Inv w ([(b1, arr .i64 r14.c.lk, 103), (b2, arr .i64 r14.c.of, 3), (b3, arr .i64 r14.c.mn, 3), (b4, #[.slice (some ⟨b1, 0, none⟩) (8 + 2) (8 + 2), .slice (some ⟨b2, 0, none⟩) 8 8, .slice (some ⟨b3, 0, none⟩) 2 2], 79), (b5, arr .i64 r14.cr, 3), (b6, #[.pointer (some ⟨b4, 0, none⟩), .slice (some ⟨b5, 0, none⟩) 8 8, .int .i64 r14.q], 45), (b17, #[], 3)] ++ (((Sq7 ++ Sq8) ++ Sq15) ++ Sq16)) wd9 := Inv.tail (A := [(b1, arr .i64 r14.c.lk, 103), (b2, arr .i64 r14.c.of, 3), (b3, arr .i64 r14.c.mn, 3), (b4, #[.slice (some ⟨b1, 0, none⟩) (8 + 2) (8 + 2), .slice (some ⟨b2, 0, none⟩) 8 8, .slice (some ⟨b3, 0, none⟩) 2 2], 79), (b5, arr .i64 r14.cr, 3), (b6, #[.pointer (some ⟨b4, 0, none⟩), .slice (some ⟨b5, 0, none⟩) 8 8, .int .i64 r14.q], 45)]) (T := (((Sq7 ++ Sq8) ++ Sq15) ++ Sq16)) (N := [(b17, #[], 3)]) hI12
    refine seq_one (op_val (v := .slice q7 ((r6.c.lst 0).length) capq7) hf76 rfl rfl rfl rfl rfl rfl (r_move rfl) fun ac72 hf77 => ?_)
    have hI14 : Inv w ([(b1, arr .i64 r14.c.lk, 103), (b2, arr .i64 r14.c.of, 3), (b3, arr .i64 r14.c.mn, 3), (b4, #[.slice (some ⟨b1, 0, none⟩) (8 + 2) (8 + 2), .slice (some ⟨b2, 0, none⟩) 8 8, .slice (some ⟨b3, 0, none⟩) 2 2], 79), (b5, arr .i64 r14.cr, 3), (b6, #[.pointer (some ⟨b4, 0, none⟩), .slice (some ⟨b5, 0, none⟩) 8 8, .int .i64 r14.q], 45)] ++ ((((Sq7 ++ Sq8) ++ Sq15) ++ Sq16) ++ [(b17, #[], 3)])) _ := Inv.tail (A := [(b1, arr .i64 r14.c.lk, 103), (b2, arr .i64 r14.c.of, 3), (b3, arr .i64 r14.c.mn, 3), (b4, #[.slice (some ⟨b1, 0, none⟩) (8 + 2) (8 + 2), .slice (some ⟨b2, 0, none⟩) 8 8, .slice (some ⟨b3, 0, none⟩) 2 2], 79), (b5, arr .i64 r14.cr, 3), (b6, #[.pointer (some ⟨b4, 0, none⟩), .slice (some ⟨b5, 0, none⟩) 8 8, .int .i64 r14.q], 45)]) (T := [(b17, #[], 3)]) (N := (((Sq7 ++ Sq8) ++ Sq15) ++ Sq16)) hI13
    refine seq_one (op_appendN (A := ([(b1, arr .i64 r14.c.lk, 103), (b2, arr .i64 r14.c.of, 3), (b3, arr .i64 r14.c.mn, 3), (b4, #[.slice (some ⟨b1, 0, none⟩) (8 + 2) (8 + 2), .slice (some ⟨b2, 0, none⟩) 8 8, .slice (some ⟨b3, 0, none⟩) 2 2], 79), (b5, arr .i64 r14.cr, 3), (b6, #[.pointer (some ⟨b4, 0, none⟩), .slice (some ⟨b5, 0, none⟩) 8 8, .int .i64 r14.q], 45)] ++ (((Sq7 ++ Sq8) ++ Sq15) ++ Sq16))) (S := [(b17, #[], 3)]) (xs := []) (ys := (r6.c.lst 0)) rfl rfl hf77 rfl rfl rfl us_27 if_3 rfl Sl.lit0 rfl (hsq7.rd hI14 (fun x hx => List.mem_append_right _ (List.mem_append_left _ (List.mem_append_left _ (List.mem_append_left _ (List.mem_append_left _ hx)))))) hI14 (fun x hx => by simp only [List.mem_singleton] at hx; subst hx; exact hb17) (by simp only [List.length_append, List.length_nil, List.length_cons, maxLen]; have := Ch.lst_le r6.c 0; have := Ch.lst_le r6.c 1; omega) (by simp only [List.length_append, List.length_nil, List.length_cons, Nat.zero_add]; have := Ch.lst_le r6.c 0; have := Ch.lst_le r6.c 1; omega) fun ac73 p18 capp18 Sp18 wd10 hsp18 hzp18 hI15 hf78 => ?_)
    have hI16 : Inv w ([(b1, arr .i64 r14.c.lk, 103), (b2, arr .i64 r14.c.of, 3), (b3, arr .i64 r14.c.mn, 3), (b4, #[.slice (some ⟨b1, 0, none⟩) (8 + 2) (8 + 2), .slice (some ⟨b2, 0, none⟩) 8 8, .slice (some ⟨b3, 0, none⟩) 2 2], 79), (b5, arr .i64 r14.cr, 3), (b6, #[.pointer (some ⟨b4, 0, none⟩), .slice (some ⟨b5, 0, none⟩) 8 8, .int .i64 r14.q], 45)] ++ ((((Sq7 ++ Sq8) ++ Sq15) ++ Sq16) ++ Sp18)) wd10 := hI15
    refine seq_one (op_val (v := .int .i64 n) hf78 rfl rfl rfl rfl rfl rfl (r_move rfl) fun ac74 hf79 => ?_)
    refine seq_one (op_bslice (s := 3) (cells := #[.int .i64 n]) hf79 rfl rfl rfl rfl rfl (fun _ => by kernel_rfl) hI16 fun ac75 b19 wd11 hb19 hI17 hf80 => ?_)
    have hI18 : Inv w ([(b1, arr .i64 r14.c.lk, 103), (b2, arr .i64 r14.c.of, 3), (b3, arr .i64 r14.c.mn, 3), (b4, #[.slice (some ⟨b1, 0, none⟩) (8 + 2) (8 + 2), .slice (some ⟨b2, 0, none⟩) 8 8, .slice (some ⟨b3, 0, none⟩) 2 2], 79), (b5, arr .i64 r14.cr, 3), (b6, #[.pointer (some ⟨b4, 0, none⟩), .slice (some ⟨b5, 0, none⟩) 8 8, .int .i64 r14.q], 45), (b19, #[.int .i64 n], 3)] ++ ((((Sq7 ++ Sq8) ++ Sq15) ++ Sq16) ++ Sp18)) wd11 := Inv.tail (A := [(b1, arr .i64 r14.c.lk, 103), (b2, arr .i64 r14.c.of, 3), (b3, arr .i64 r14.c.mn, 3), (b4, #[.slice (some ⟨b1, 0, none⟩) (8 + 2) (8 + 2), .slice (some ⟨b2, 0, none⟩) 8 8, .slice (some ⟨b3, 0, none⟩) 2 2], 79), (b5, arr .i64 r14.cr, 3), (b6, #[.pointer (some ⟨b4, 0, none⟩), .slice (some ⟨b5, 0, none⟩) 8 8, .int .i64 r14.q], 45)]) (T := ((((Sq7 ++ Sq8) ++ Sq15) ++ Sq16) ++ Sp18)) (N := [(b19, #[.int .i64 n], 3)]) hI17
    refine seq_one (op_appendN (A := ([(b1, arr .i64 r14.c.lk, 103), (b2, arr .i64 r14.c.of, 3), (b3, arr .i64 r14.c.mn, 3), (b4, #[.slice (some ⟨b1, 0, none⟩) (8 + 2) (8 + 2), .slice (some ⟨b2, 0, none⟩) 8 8, .slice (some ⟨b3, 0, none⟩) 2 2], 79), (b5, arr .i64 r14.cr, 3), (b6, #[.pointer (some ⟨b4, 0, none⟩), .slice (some ⟨b5, 0, none⟩) 8 8, .int .i64 r14.q], 45), (b19, #[.int .i64 n], 3)] ++ (((Sq7 ++ Sq8) ++ Sq15) ++ Sq16))) (S := Sp18) (xs := ([] ++ (r6.c.lst 0))) (ys := [n]) rfl rfl hf80 rfl rfl rfl us_27 if_3 rfl hsp18 rfl (Rd.blk (xs := [n]) (hI18.at 6 rfl) rfl) hI18 hzp18 (by simp only [List.length_append, List.length_nil, List.length_cons, maxLen]; have := Ch.lst_le r6.c 0; have := Ch.lst_le r6.c 1; omega) (by simp only [List.length_append, List.length_nil, List.length_cons, Nat.zero_add]; have := Ch.lst_le r6.c 0; have := Ch.lst_le r6.c 1; omega) fun ac76 p20 capp20 Sp20 wd12 hsp20 hzp20 hI19 hf81 => ?_)
    have hI20 : Inv w ([(b1, arr .i64 r14.c.lk, 103), (b2, arr .i64 r14.c.of, 3), (b3, arr .i64 r14.c.mn, 3), (b4, #[.slice (some ⟨b1, 0, none⟩) (8 + 2) (8 + 2), .slice (some ⟨b2, 0, none⟩) 8 8, .slice (some ⟨b3, 0, none⟩) 2 2], 79), (b5, arr .i64 r14.cr, 3), (b6, #[.pointer (some ⟨b4, 0, none⟩), .slice (some ⟨b5, 0, none⟩) 8 8, .int .i64 r14.q], 45), (b19, #[.int .i64 n], 3)] ++ ((((Sq7 ++ Sq8) ++ Sq15) ++ Sq16) ++ Sp20)) wd12 := hI19
    refine seq_one (op_pureW hf81 rfl rfl rfl rfl ca_19 (ints_walk (xs := (r14.c.lst 0)) (ys := (([] ++ (r6.c.lst 0)) ++ [n])) rfl rfl (Nat.le_trans (Ch.lst_le _ _) (by omega)) (hsq15.rd hI20 (fun x hx => List.mem_append_right _ (List.mem_append_left _ (List.mem_append_left _ (List.mem_append_right _ hx))))) (hsp20.rd hI20 (fun x hx => List.mem_append_right _ (List.mem_append_right _ hx)))) hI20 fun ac77 wd13 hI21 hf82 => ?_)
    refine seq_one (op_val (v := .bool (!((r14.c.lst 0) == (([] ++ (r6.c.lst 0)) ++ [n])))) hf82 rfl rfl rfl rfl rfl rfl (r_not rfl) fun ac78 hf83 => ?_)
    refine seq_one (op_val (v := .bool (!((r14.c.lst 0) == (([] ++ (r6.c.lst 0)) ++ [n])))) hf83 rfl rfl rfl rfl rfl rfl (r_move rfl) fun ac79 hf84 => ?_)
    have hf85 := hf84.know 95 (u := .bool false) rfl (congrArg Value.bool (congrArg Bool.not (Ro.j5 (Ro.j4 hn c52_1 hm er10 er12 er14))))
    refine seq_one (op_val (v := .slice q16 ((r14.c.lst 1).length) capq16) hf85 rfl rfl rfl rfl rfl rfl (r_move rfl) fun ac80 hf86 => ?_)
    refine seq_one (op_val (v := .slice q8 ((r6.c.lst 1).length) capq8) hf86 rfl rfl rfl rfl rfl rfl (r_move rfl) fun ac81 hf87 => ?_)
    refine seq_one (op_pureW hf87 rfl rfl rfl rfl ca_19 (ints_walk (xs := (r14.c.lst 1)) (ys := (r6.c.lst 1)) rfl rfl (Nat.le_trans (Ch.lst_le _ _) (by omega)) (hsq16.rd hI21 (fun x hx => List.mem_append_right _ (List.mem_append_left _ (List.mem_append_right _ hx)))) (hsq8.rd hI21 (fun x hx => List.mem_append_right _ (List.mem_append_left _ (List.mem_append_left _ (List.mem_append_left _ (List.mem_append_right _ hx))))))) hI21 fun ac82 wd14 hI22 hf88 => ?_)
    refine seq_one (op_val (v := .bool (!((r14.c.lst 1) == (r6.c.lst 1)))) hf88 rfl rfl rfl rfl rfl rfl (r_not rfl) fun ac83 hf89 => ?_)
    refine seq_one (op_val (v := .bool (!((r14.c.lst 1) == (r6.c.lst 1)))) hf89 rfl rfl rfl rfl rfl rfl (r_pickF rfl rfl) fun ac84 hf90 => ?_)
    refine seq_end ?_
    clear ac69 hf74 ac70 wd8 hI11 hf75 hI12 ac71 hf76 hI13 ac72 wd9 hI14 hf77 hI15 ac73 hf78 ac74 wd10 hI16 hf79 hI17 ac75 wd11 hI18 hf80 hI19 ac76 wd12 hI20 hf81 ac77 hf82 ac78 hf83 hf84 ac79 hf85 ac80 hf86 ac81 wd13 hI21 hf87 ac82 hf88 ac83 hf89
    refine then_normal ?_
    have hf91 := hf90.know 100 (u := .bool false) rfl (congrArg Value.bool (congrArg Bool.not (Ro.j6 (Ro.j4 hn c52_1 hm er10 er12 er14))))
    refine code_if_false hf91 rfl ?_
    refine wp_skip ?_
    refine then_normal ?_
    refine code_seq ?_
    refine code_seq ?_
    refine seq_start (l := [0, 1, 2]) rfl ?_
    refine seq_one (op_val (v := .slice q7 ((r6.c.lst 0).length) capq7) hf91 rfl rfl rfl rfl rfl rfl (r_move rfl) fun ac85 hf92 => ?_)
    refine seq_one (op_val (v := .int .i64 ((r6.c.lst 0).length : Int)) hf92 rfl rfl rfl rfl rfl rfl (r_len sl_27 rfl) fun ac86 hf93 => ?_)
    refine seq_one (op_val (v := .int .i64 0) hf93 rfl rfl rfl rfl rfl rfl (r_move rfl) fun ac87 hf94 => ?_)
    refine seq_end ?_
    clear hf90 ac84 hf91 ac85 hf92 ac86 hf93
    refine then_normal ?_
    refine wp_block ?_
    refine code_loop (α := Nat × (Ro 8)) (fun (x : Nat × (Ro 8)) => match x with | (i, s) => [(0, .int .u16 a), (1, .slice p L cap), (2, .int .u8 b), (3, .int .u16 c), (9, .int .i64 q), (10, .pointer (some ⟨b6, 0, none⟩)), (11, .bool true), (12, .int .i64 n), (13, .int .i64 (r6.crV n)), (14, .bool (r6.c.inn n)), (15, .slice q7 ((r6.c.lst 0).length) capq7), (16, .slice q8 ((r6.c.lst 1).length) capq8), (17, .slice q15 ((r14.c.lst 0).length) capq15), (18, .slice q16 ((r14.c.lst 1).length) capq16), (30, .int .u16 a), (31, .int .i64 a), (32, .int .i64 q), (33, .tuple #[.pointer (some ⟨b6, 0, none⟩), .bool true]), (34, .int .i64 q), (35, .slice p L cap), (36, .tuple #[.pointer (some ⟨b6, 0, none⟩), .bool true]), (37, .pointer (some ⟨b6, 0, none⟩)), (38, .bool true), (39, .int .u8 b), (40, .int .u8 n), (41, .int .i64 n), (42, .tuple #[.int .i64 (r6.crV n), .bool (r6.c.inn n)]), (43, .pointer (some ⟨b6, 0, none⟩)), (44, .int .i64 n), (45, .tuple #[.int .i64 (r6.crV n), .bool (r6.c.inn n)]), (46, .int .i64 (r6.crV n)), (47, .bool (r6.c.inn n)), (48, .bool true), (49, .bool false), (50, .bool false), (51, .bool (r6.c.inn n)), (52, .bool false), (57, .tuple #[.slice q7 ((r6.c.lst 0).length) capq7, .slice q8 ((r6.c.lst 1).length) capq8]), (58, .pointer (some ⟨b6, 0, none⟩)), (59, .tuple #[.slice q7 ((r6.c.lst 0).length) capq7, .slice q8 ((r6.c.lst 1).length) capq8]), (60, .slice q7 ((r6.c.lst 0).length) capq7), (61, .slice q8 ((r6.c.lst 1).length) capq8), (62, .pointer (some ⟨b6, 0, none⟩)), (63, .int .i64 n), (64, .int .u16 c), (65, .int .i64 c), (66, .int .i64 m), (67, .int .i64 (r6.enterE 0 n m)), (68, .bool ((r6.enterE 0 n m) != 0)), (69, .bool false), (70, .pointer (some ⟨b6, 0, none⟩)), (71, .int .i64 n), (72, .int .i64 (r10.enterE 0 n 1)), (73, .bool ((r10.enterE 0 n 1) != 50)), (74, .bool ((r10.enterE 0 n 1) != 50)), (75, .bool false), (76, .pointer (some ⟨b6, 0, none⟩)), (77, .int .i64 n), (78, .int .i64 (r12.enterE 1 n 1)), (79, .bool ((r12.enterE 1 n 1) != 50)), (80, .bool false), (81, .tuple #[.slice q15 ((r14.c.lst 0).length) capq15, .slice q16 ((r14.c.lst 1).length) capq16]), (82, .pointer (some ⟨b6, 0, none⟩)), (83, .tuple #[.slice q15 ((r14.c.lst 0).length) capq15, .slice q16 ((r14.c.lst 1).length) capq16]), (84, .slice q15 ((r14.c.lst 0).length) capq15), (85, .slice q16 ((r14.c.lst 1).length) capq16), (86, .slice q15 ((r14.c.lst 0).length) capq15), (87, .slice (some ⟨b17, 0, none⟩) 0 0), (88, .slice q7 ((r6.c.lst 0).length) capq7), (89, .slice p18 (([] ++ (r6.c.lst 0)).length) capp18), (90, .int .i64 n), (91, .slice (some ⟨b19, 0, none⟩) 1 1), (92, .slice p20 ((([] ++ (r6.c.lst 0)) ++ [n]).length) capp20), (93, .bool ((r14.c.lst 0) == (([] ++ (r6.c.lst 0)) ++ [n]))), (94, .bool (!((r14.c.lst 0) == (([] ++ (r6.c.lst 0)) ++ [n])))), (95, .bool false), (96, .slice q16 ((r14.c.lst 1).length) capq16), (97, .slice q8 ((r6.c.lst 1).length) capq8), (98, .bool ((r14.c.lst 1) == (r6.c.lst 1))), (99, .bool (!((r14.c.lst 1) == (r6.c.lst 1)))), (100, .bool false), (101, .slice q7 ((r6.c.lst 0).length) capq7), (102, .int .i64 ((r6.c.lst 0).length : Int)), (103, .int .i64 (i : Int))]) (fun (x : Nat × (Ro 8)) => match x with | (i, s) => fun wL => Inv w ([(b1, arr .i64 s.c.lk, 103), (b2, arr .i64 s.c.of, 3), (b3, arr .i64 s.c.mn, 3), (b4, #[.slice (some ⟨b1, 0, none⟩) (8 + 2) (8 + 2), .slice (some ⟨b2, 0, none⟩) 8 8, .slice (some ⟨b3, 0, none⟩) 2 2], 79), (b5, arr .i64 s.cr, 3), (b6, #[.pointer (some ⟨b4, 0, none⟩), .slice (some ⟨b5, 0, none⟩) 8 8, .int .i64 s.q], 45), (b19, #[.int .i64 n], 3)] ++ ((((Sq7 ++ Sq8) ++ Sq15) ++ Sq16) ++ Sp20)) wL ∧ (i ≤ (r6.c.lst 0).length ∧ Ro.NewI r6 s n m i)) (fun (x : Nat × (Ro 8)) => match x with | (i, s) => (r6.c.lst 0).length - i) (0, r14) (hf94.cons 0 rfl (hf94.cons 1 rfl (hf94.cons 2 rfl (hf94.cons 3 rfl (hf94.cons 9 rfl (hf94.cons 10 rfl (hf94.cons 11 rfl (hf94.cons 12 rfl (hf94.cons 13 rfl (hf94.cons 14 rfl (hf94.cons 15 rfl (hf94.cons 16 rfl (hf94.cons 17 rfl (hf94.cons 18 rfl (hf94.cons 30 rfl (hf94.cons 31 rfl (hf94.cons 32 rfl (hf94.cons 33 rfl (hf94.cons 34 rfl (hf94.cons 35 rfl (hf94.cons 36 rfl (hf94.cons 37 rfl (hf94.cons 38 rfl (hf94.cons 39 rfl (hf94.cons 40 rfl (hf94.cons 41 rfl (hf94.cons 42 rfl (hf94.cons 43 rfl (hf94.cons 44 rfl (hf94.cons 45 rfl (hf94.cons 46 rfl (hf94.cons 47 rfl (hf94.cons 48 rfl (hf94.cons 49 rfl (hf94.cons 50 rfl (hf94.cons 51 rfl (hf94.cons 52 rfl (hf94.cons 57 rfl (hf94.cons 58 rfl (hf94.cons 59 rfl (hf94.cons 60 rfl (hf94.cons 61 rfl (hf94.cons 62 rfl (hf94.cons 63 rfl (hf94.cons 64 rfl (hf94.cons 65 rfl (hf94.cons 66 rfl (hf94.cons 67 rfl (hf94.cons 68 rfl (hf94.cons 69 rfl (hf94.cons 70 rfl (hf94.cons 71 rfl (hf94.cons 72 rfl (hf94.cons 73 rfl (hf94.cons 74 rfl (hf94.cons 75 rfl (hf94.cons 76 rfl (hf94.cons 77 rfl (hf94.cons 78 rfl (hf94.cons 79 rfl (hf94.cons 80 rfl (hf94.cons 81 rfl (hf94.cons 82 rfl (hf94.cons 83 rfl (hf94.cons 84 rfl (hf94.cons 85 rfl (hf94.cons 86 rfl (hf94.cons 87 rfl (hf94.cons 88 rfl (hf94.cons 89 rfl (hf94.cons 90 rfl (hf94.cons 91 rfl (hf94.cons 92 rfl (hf94.cons 93 rfl (hf94.cons 94 rfl (hf94.cons 95 rfl (hf94.cons 96 rfl (hf94.cons 97 rfl (hf94.cons 98 rfl (hf94.cons 99 rfl (hf94.cons 100 rfl (hf94.cons 101 rfl (hf94.cons 102 rfl (hf94.cons 103 rfl hf94.nil)))))))))))))))))))))))))))))))))))))))))))))))))))))))))))))))))))))))))))))))))))) ⟨hI22, ⟨Nat.zero_le _, (Ro.j4 hn c52_1 hm er10 er12 er14)⟩⟩ ?_
    intro ⟨i, s⟩ ac88 wd15 hf95 hL1
    obtain ⟨hI23, hx1⟩ := hL1
    dsimp only at hf95 hI23 hx1
    clear ac87 wd14 hf94 hI22
    refine code_seq ?_
    refine seq_start (l := [0]) rfl ?_
    refine seq_one (op_val (v := .bool (decide ((i : Int) < ((r6.c.lst 0).length : Int)))) hf95 rfl rfl rfl rfl rfl rfl (r_lss rfl rfl) fun ac89 hf96 => ?_)
    refine seq_end ?_
    clear ac88 hf95
    refine then_normal ?_
    refine code_seq ?_
    refine code_if hf96 rfl (fun c104_2 => ?_) (fun c104_2 => ?_)
    · have hf97 := hf96.know 104 (u := .bool true) rfl (congrArg Value.bool c104_2)
      refine wp_skip ?_
      refine then_normal ?_
      refine code_seq ?_
      refine wp_block ?_
      refine code_seq ?_
      refine seq_start (l := [0, 1, 2, 3, 4, 5, 6, 7, 8]) rfl ?_
      refine seq_one (op_val (v := .pointer (some ⟨b6, 0, none⟩)) hf97 rfl rfl rfl rfl rfl rfl (r_move rfl) fun ac90 hf98 => ?_)
      refine seq_one (op_call (R := fun v w' => v = .tuple #[.int .i64 s.f, .int .i64 s.leaveC, .bool s.ok] ∧ Inv _ [(b1, arr .i64 s.leave.c.lk, 103), (b2, arr .i64 s.leave.c.of, 3), (b3, arr .i64 s.leave.c.mn, 3), (b4, #[.slice (some ⟨b1, 0, none⟩) (8 + 2) (8 + 2), .slice (some ⟨b2, 0, none⟩) 8 8, .slice (some ⟨b3, 0, none⟩) 2 2], 79), (b5, arr .i64 s.leave.cr, 3), (b6, #[.pointer (some ⟨b4, 0, none⟩), .slice (some ⟨b5, 0, none⟩) 8 8, .int .i64 s.leave.q], 45)] w') hf98 rfl rfl rfl rfl ca_18 ((leave_any (hI23.nd6 0 rfl rfl rfl rfl rfl rfl) s (Has.cons (hI23.at 0 rfl) (Has.cons (hI23.at 1 rfl) (Has.cons (hI23.at 2 rfl) (Has.cons (hI23.at 3 rfl) (Has.cons (hI23.at 4 rfl) (Has.cons (hI23.at 5 rfl) Has.nil)))))) ).mono fun _ _ h => ⟨_, h.1, rfl, h.2⟩) fun ac91 v wd16 hR21 hf99 => ?_)
      obtain ⟨rfl, hR21⟩ := hR21
      have hI24 : Inv w ([(b1, arr .i64 s.leave.c.lk, 103), (b2, arr .i64 s.leave.c.of, 3), (b3, arr .i64 s.leave.c.mn, 3), (b4, #[.slice (some ⟨b1, 0, none⟩) (8 + 2) (8 + 2), .slice (some ⟨b2, 0, none⟩) 8 8, .slice (some ⟨b3, 0, none⟩) 2 2], 79), (b5, arr .i64 s.leave.cr, 3), (b6, #[.pointer (some ⟨b4, 0, none⟩), .slice (some ⟨b5, 0, none⟩) 8 8, .int .i64 s.leave.q], 45), (b19, #[.int .i64 n], 3)] ++ ((((Sq7 ++ Sq8) ++ Sq15) ++ Sq16) ++ Sp20)) _ := Inv.callST (A := []) (S := [(b1, arr .i64 s.c.lk, 103), (b2, arr .i64 s.c.of, 3), (b3, arr .i64 s.c.mn, 3), (b4, #[.slice (some ⟨b1, 0, none⟩) (8 + 2) (8 + 2), .slice (some ⟨b2, 0, none⟩) 8 8, .slice (some ⟨b3, 0, none⟩) 2 2], 79), (b5, arr .i64 s.cr, 3), (b6, #[.pointer (some ⟨b4, 0, none⟩), .slice (some ⟨b5, 0, none⟩) 8 8, .int .i64 s.q], 45)]) (S' := [(b1, arr .i64 s.leave.c.lk, 103), (b2, arr .i64 s.leave.c.of, 3), (b3, arr .i64 s.leave.c.mn, 3), (b4, #[.slice (some ⟨b1, 0, none⟩) (8 + 2) (8 + 2), .slice (some ⟨b2, 0, none⟩) 8 8, .slice (some ⟨b3, 0, none⟩) 2 2], 79), (b5, arr .i64 s.leave.cr, 3), (b6, #[.pointer (some ⟨b4, 0, none⟩), .slice (some ⟨b5, 0, none⟩) 8 8, .int .i64 s.leave.q], 45)]) (L := [(b19, #[.int .i64 n], 3)]) (N := []) (T := ((((Sq7 ++ Sq8) ++ Sq15) ++ Sq16) ++ Sp20)) hI23 hR21 rfl (fun _ h => by cases h)
      obtain ⟨r22, er22⟩ : ∃ r : Ro 8, r = s.leave := ⟨_, rfl⟩
      rw [← er22] at hI24
      refine seq_one (op_val (v := .tuple #[.int .i64 s.f, .int .i64 s.leaveC, .bool s.ok]) hf99 rfl rfl rfl rfl rfl rfl (r_move rfl) fun ac92 hf100 => ?_)
      refine seq_one (op_val (v := .int .i64 s.f) hf100 rfl rfl rfl rfl rfl rfl (r_extract rfl rfl) fun ac93 hf101 => ?_)
      refine seq_one (op_val (v := .int .i64 s.leaveC) hf101 rfl rfl rfl rfl rfl rfl (r_extract rfl rfl) fun ac94 hf102 => ?_)
      refine seq_one (op_val (v := .bool s.ok) hf102 rfl rfl rfl rfl rfl rfl (r_extract rfl rfl) fun ac95 hf103 => ?_)
      refine seq_one (op_val (v := .int .i64 s.f) hf103 rfl rfl rfl rfl rfl rfl (r_assign rfl) fun ac96 hf104 => ?_)
      refine seq_one (op_val (v := .int .i64 s.leaveC) hf104 rfl rfl rfl rfl rfl rfl (r_assign rfl) fun ac97 hf105 => ?_)
      refine seq_one (op_val (v := .bool s.ok) hf105 rfl rfl rfl rfl rfl rfl (r_assign rfl) fun ac98 hf106 => ?_)
      refine seq_end ?_
      clear hf96 ac89 hf97 ac90 wd15 hf98 hI23 hR21 ac91 hf99 ac92 hf100 ac93 hf101 ac94 hf102 ac95 hf103 ac96 hf104 ac97 hf105
      refine then_normal ?_
      refine code_seq ?_
      refine seq_start (l := [0, 1]) rfl ?_
      refine seq_one (op_val (v := .bool s.ok) hf106 rfl rfl rfl rfl rfl rfl (r_move rfl) fun ac99 hf107 => ?_)
      refine seq_one (op_val (v := .bool (!s.ok)) hf107 rfl rfl rfl rfl rfl rfl (r_not rfl) fun ac100 hf108 => ?_)
      refine seq_end ?_
      clear ac98 hf106 ac99 hf107
      refine then_normal ?_
      have hf109 := hf108.know 112 (u := .bool false) rfl (congrArg Value.bool (by rw [(hx1.2.leave (by have := of_decide_eq_true c104_2; omega)).1]; rfl))
      refine code_if_false hf109 rfl ?_
      refine wp_skip ?_
      refine block_normal ?_
      refine then_normal ?_
      refine seq_start (l := [0, 1]) rfl ?_
      refine seq_one (op_val (v := .int .i64 ((i + 1 : Nat) : Int)) hf109 rfl rfl rfl rfl rfl rfl (r_add (c := ((i + 1 : Nat) : Int)) rfl rfl (wrap_i64 (by omega) (by have := hx1.1; have := Ch.lst_le r6.c 0; omega))) fun ac101 hf110 => ?_)
      refine seq_one (op_val (v := .int .i64 ((i + 1 : Nat) : Int)) hf110 rfl rfl rfl rfl rfl rfl (r_move rfl) fun ac102 hf111 => ?_)
      refine seq_end ?_
      clear hf108 ac100 hf109 ac101 hf110
      refine then_normal ?_
      exact ⟨(i + 1, r22), (hf111.cons 0 rfl (hf111.cons 1 rfl (hf111.cons 2 rfl (hf111.cons 3 rfl (hf111.cons 9 rfl (hf111.cons 10 rfl (hf111.cons 11 rfl (hf111.cons 12 rfl (hf111.cons 13 rfl (hf111.cons 14 rfl (hf111.cons 15 rfl (hf111.cons 16 rfl (hf111.cons 17 rfl (hf111.cons 18 rfl (hf111.cons 30 rfl (hf111.cons 31 rfl (hf111.cons 32 rfl (hf111.cons 33 rfl (hf111.cons 34 rfl (hf111.cons 35 rfl (hf111.cons 36 rfl (hf111.cons 37 rfl (hf111.cons 38 rfl (hf111.cons 39 rfl (hf111.cons 40 rfl (hf111.cons 41 rfl (hf111.cons 42 rfl (hf111.cons 43 rfl (hf111.cons 44 rfl (hf111.cons 45 rfl (hf111.cons 46 rfl (hf111.cons 47 rfl (hf111.cons 48 rfl (hf111.cons 49 rfl (hf111.cons 50 rfl (hf111.cons 51 rfl (hf111.cons 52 rfl (hf111.cons 57 rfl (hf111.cons 58 rfl (hf111.cons 59 rfl (hf111.cons 60 rfl (hf111.cons 61 rfl (hf111.cons 62 rfl (hf111.cons 63 rfl (hf111.cons 64 rfl (hf111.cons 65 rfl (hf111.cons 66 rfl (hf111.cons 67 rfl (hf111.cons 68 rfl (hf111.cons 69 rfl (hf111.cons 70 rfl (hf111.cons 71 rfl (hf111.cons 72 rfl (hf111.cons 73 rfl (hf111.cons 74 rfl (hf111.cons 75 rfl (hf111.cons 76 rfl (hf111.cons 77 rfl (hf111.cons 78 rfl (hf111.cons 79 rfl (hf111.cons 80 rfl (hf111.cons 81 rfl (hf111.cons 82 rfl (hf111.cons 83 rfl (hf111.cons 84 rfl (hf111.cons 85 rfl (hf111.cons 86 rfl (hf111.cons 87 rfl (hf111.cons 88 rfl (hf111.cons 89 rfl (hf111.cons 90 rfl (hf111.cons 91 rfl (hf111.cons 92 rfl (hf111.cons 93 rfl (hf111.cons 94 rfl (hf111.cons 95 rfl (hf111.cons 96 rfl (hf111.cons 97 rfl (hf111.cons 98 rfl (hf111.cons 99 rfl (hf111.cons 100 rfl (hf111.cons 101 rfl (hf111.cons 102 rfl (hf111.cons 103 rfl hf111.nil)))))))))))))))))))))))))))))))))))))))))))))))))))))))))))))))))))))))))))))))))))), ⟨hI24, ⟨by have := of_decide_eq_true c104_2; omega, by rw [er22]; exact (hx1.2.leave (by have := of_decide_eq_true c104_2; omega)).2⟩⟩, (by have := of_decide_eq_true c104_2; show (r6.c.lst 0).length - (i + 1) < (r6.c.lst 0).length - i; omega)⟩
    · have hf112 := hf96.know 104 (u := .bool false) rfl (congrArg Value.bool c104_2)
      refine wp_exit ?_
      refine then_exit ?_
      refine then_exit ?_
      refine block_here ?_
      refine then_normal ?_
      refine code_seq ?_
      refine seq_start (l := [0, 1, 2, 3, 4, 5, 6, 7, 8]) rfl ?_
      refine seq_one (op_val (v := .pointer (some ⟨b6, 0, none⟩)) hf112 rfl rfl rfl rfl rfl rfl (r_move rfl) fun ac103 hf113 => ?_)
      refine seq_one (op_call (R := fun v w' => v = .tuple #[.int .i64 s.head.f, .int .i64 s.headC, .bool s.head.ok] ∧ Inv _ [(b1, arr .i64 s.head.c.lk, 103), (b2, arr .i64 s.head.c.of, 3), (b3, arr .i64 s.head.c.mn, 3), (b4, #[.slice (some ⟨b1, 0, none⟩) (8 + 2) (8 + 2), .slice (some ⟨b2, 0, none⟩) 8 8, .slice (some ⟨b3, 0, none⟩) 2 2], 79), (b5, arr .i64 s.head.cr, 3), (b6, #[.pointer (some ⟨b4, 0, none⟩), .slice (some ⟨b5, 0, none⟩) 8 8, .int .i64 s.head.q], 45)] w') hf113 rfl rfl rfl rfl ca_20 ((head_any (hI23.nd6 0 rfl rfl rfl rfl rfl rfl) s (Has.cons (hI23.at 0 rfl) (Has.cons (hI23.at 1 rfl) (Has.cons (hI23.at 2 rfl) (Has.cons (hI23.at 3 rfl) (Has.cons (hI23.at 4 rfl) (Has.cons (hI23.at 5 rfl) Has.nil)))))) ).mono fun _ _ h => ⟨_, h.1, rfl, h.2⟩) fun ac104 v wd17 hR21 hf114 => ?_)
      obtain ⟨rfl, hR21⟩ := hR21
      have hI25 : Inv w ([(b1, arr .i64 s.head.c.lk, 103), (b2, arr .i64 s.head.c.of, 3), (b3, arr .i64 s.head.c.mn, 3), (b4, #[.slice (some ⟨b1, 0, none⟩) (8 + 2) (8 + 2), .slice (some ⟨b2, 0, none⟩) 8 8, .slice (some ⟨b3, 0, none⟩) 2 2], 79), (b5, arr .i64 s.head.cr, 3), (b6, #[.pointer (some ⟨b4, 0, none⟩), .slice (some ⟨b5, 0, none⟩) 8 8, .int .i64 s.head.q], 45), (b19, #[.int .i64 n], 3)] ++ ((((Sq7 ++ Sq8) ++ Sq15) ++ Sq16) ++ Sp20)) _ := Inv.callST (A := []) (S := [(b1, arr .i64 s.c.lk, 103), (b2, arr .i64 s.c.of, 3), (b3, arr .i64 s.c.mn, 3), (b4, #[.slice (some ⟨b1, 0, none⟩) (8 + 2) (8 + 2), .slice (some ⟨b2, 0, none⟩) 8 8, .slice (some ⟨b3, 0, none⟩) 2 2], 79), (b5, arr .i64 s.cr, 3), (b6, #[.pointer (some ⟨b4, 0, none⟩), .slice (some ⟨b5, 0, none⟩) 8 8, .int .i64 s.q], 45)]) (S' := [(b1, arr .i64 s.head.c.lk, 103), (b2, arr .i64 s.head.c.of, 3), (b3, arr .i64 s.head.c.mn, 3), (b4, #[.slice (some ⟨b1, 0, none⟩) (8 + 2) (8 + 2), .slice (some ⟨b2, 0, none⟩) 8 8, .slice (some ⟨b3, 0, none⟩) 2 2], 79), (b5, arr .i64 s.head.cr, 3), (b6, #[.pointer (some ⟨b4, 0, none⟩), .slice (some ⟨b5, 0, none⟩) 8 8, .int .i64 s.head.q], 45)]) (L := [(b19, #[.int .i64 n], 3)]) (N := []) (T := ((((Sq7 ++ Sq8) ++ Sq15) ++ Sq16) ++ Sp20)) hI23 hR21 rfl (fun _ h => by cases h)
      obtain ⟨r22, er22⟩ : ∃ r : Ro 8, r = s.head := ⟨_, rfl⟩
      rw [← er22] at hI25
      refine seq_one (op_val (v := .tuple #[.int .i64 s.head.f, .int .i64 s.headC, .bool s.head.ok]) hf114 rfl rfl rfl rfl rfl rfl (r_move rfl) fun ac105 hf115 => ?_)
      refine seq_one (op_val (v := .int .i64 s.head.f) hf115 rfl rfl rfl rfl rfl rfl (r_extract rfl rfl) fun ac106 hf116 => ?_)
      refine seq_one (op_val (v := .int .i64 s.headC) hf116 rfl rfl rfl rfl rfl rfl (r_extract rfl rfl) fun ac107 hf117 => ?_)
      refine seq_one (op_val (v := .bool s.head.ok) hf117 rfl rfl rfl rfl rfl rfl (r_extract rfl rfl) fun ac108 hf118 => ?_)
      refine seq_one (op_val (v := .int .i64 s.head.f) hf118 rfl rfl rfl rfl rfl rfl (r_assign rfl) fun ac109 hf119 => ?_)
      refine seq_one (op_val (v := .int .i64 s.headC) hf119 rfl rfl rfl rfl rfl rfl (r_assign rfl) fun ac110 hf120 => ?_)
      refine seq_one (op_val (v := .bool s.head.ok) hf120 rfl rfl rfl rfl rfl rfl (r_assign rfl) fun ac111 hf121 => ?_)
      refine seq_end ?_
      clear hf96 ac89 hf112 ac103 wd15 hf113 hI23 hR21 ac104 hf114 ac105 hf115 ac106 hf116 ac107 hf117 ac108 hf118 ac109 hf119 ac110 hf120
      refine then_normal ?_
      refine code_seq ?_
      refine code_seq ?_
      refine seq_start (l := [0, 1, 2, 3, 4, 5, 6, 7, 8, 9, 10, 11, 12, 13]) rfl ?_
      refine seq_one (op_val (v := .int .i64 s.head.f) hf121 rfl rfl rfl rfl rfl rfl (r_move rfl) fun ac112 hf122 => ?_)
      refine seq_one (op_val (v := .int .i64 n) hf122 rfl rfl rfl rfl rfl rfl (r_move rfl) fun ac113 hf123 => ?_)
      refine seq_one (op_val (v := .bool (s.head.f != n)) hf123 rfl rfl rfl rfl rfl rfl (r_neq rfl rfl) fun ac114 hf124 => ?_)
      refine seq_one (op_val (v := .bool (s.head.f != n)) hf124 rfl rfl rfl rfl rfl rfl (r_move rfl) fun ac115 hf125 => ?_)
      have hf126 := hf125.know 123 (u := .bool false) rfl (congrArg Value.bool (bne_eq_false_iff_eq.2 (by rw [(hx1.2.last (by have := of_decide_eq_false c104_2; omega) hm.1).1]; exact (hx1.2.last (by have := of_decide_eq_false c104_2; omega) hm.1).2.2.1)))
      refine seq_one (op_val (v := .int .i64 s.headC) hf126 rfl rfl rfl rfl rfl rfl (r_move rfl) fun ac116 hf127 => ?_)
      refine seq_one (op_val (v := .int .u16 c) hf127 rfl rfl rfl rfl rfl rfl (r_move rfl) fun ac117 hf128 => ?_)
      refine seq_one (op_val (v := .int .i64 c) hf128 rfl rfl rfl rfl rfl rfl (r_conv (c := c) ui_22 ui_3 rfl (wrap_i64 (by omega) (by omega))) fun ac118 hf129 => ?_)
      refine seq_one (op_val (v := .int .i64 m) hf129 rfl rfl rfl rfl rfl rfl (r_add (c := m) rfl rfl (by rw [em]; exact wrap_i64 (by omega) (by omega))) fun ac119 hf130 => ?_)
      refine seq_one (op_val (v := .bool (s.headC != m)) hf130 rfl rfl rfl rfl rfl rfl (r_neq rfl rfl) fun ac120 hf131 => ?_)
      refine seq_one (op_val (v := .bool (s.headC != m)) hf131 rfl rfl rfl rfl rfl rfl (r_pickF rfl rfl) fun ac121 hf132 => ?_)
      refine seq_one (op_val (v := .bool (s.headC != m)) hf132 rfl rfl rfl rfl rfl rfl (r_move rfl) fun ac122 hf133 => ?_)
      have hf134 := hf133.know 130 (u := .bool false) rfl (congrArg Value.bool (bne_eq_false_iff_eq.2 (hx1.2.last (by have := of_decide_eq_false c104_2; omega) hm.1).2.2.2))
      refine seq_one (op_val (v := .bool s.head.ok) hf134 rfl rfl rfl rfl rfl rfl (r_move rfl) fun ac123 hf135 => ?_)
      refine seq_one (op_val (v := .bool (!s.head.ok)) hf135 rfl rfl rfl rfl rfl rfl (r_not rfl) fun ac124 hf136 => ?_)
      refine seq_one (op_val (v := .bool (!s.head.ok)) hf136 rfl rfl rfl rfl rfl rfl (r_pickF rfl rfl) fun ac125 hf137 => ?_)
      refine seq_end ?_
      clear ac111 hf121 ac112 hf122 ac113 hf123 ac114 hf124 hf125 ac115 hf126 ac116 hf127 ac117 hf128 ac118 hf129 ac119 hf130 ac120 hf131 ac121 hf132 hf133 ac122 hf134 ac123 hf135 ac124 hf136
      refine then_normal ?_
      have hf138 := hf137.know 133 (u := .bool false) rfl (congrArg Value.bool (by rw [(hx1.2.last (by have := of_decide_eq_false c104_2; omega) hm.1).1, (hx1.2.last (by have := of_decide_eq_false c104_2; omega) hm.1).2.1]; rfl))
      refine code_if_false hf138 rfl ?_
      refine wp_skip ?_
      refine then_normal ?_
      refine code_seq ?_
      refine seq_start (l := [0, 1, 2, 3, 4, 5, 6, 7, 8]) rfl ?_
      refine seq_one (op_val (v := .pointer (some ⟨b6, 0, none⟩)) hf138 rfl rfl rfl rfl rfl rfl (r_move rfl) fun ac126 hf139 => ?_)
      refine seq_one (op_call (R := fun v w' => v = .tuple #[.int .i64 r22.f, .bool r22.idleL, .bool r22.ok] ∧ Inv _ [(b1, arr .i64 r22.idle.c.lk, 103), (b2, arr .i64 r22.idle.c.of, 3), (b3, arr .i64 r22.idle.c.mn, 3), (b4, #[.slice (some ⟨b1, 0, none⟩) (8 + 2) (8 + 2), .slice (some ⟨b2, 0, none⟩) 8 8, .slice (some ⟨b3, 0, none⟩) 2 2], 79), (b5, arr .i64 r22.idle.cr, 3), (b6, #[.pointer (some ⟨b4, 0, none⟩), .slice (some ⟨b5, 0, none⟩) 8 8, .int .i64 r22.idle.q], 45)] w') hf139 rfl rfl rfl rfl ca_21 ((idle_any (hI25.nd6 0 rfl rfl rfl rfl rfl rfl) r22 (Has.cons (hI25.at 0 rfl) (Has.cons (hI25.at 1 rfl) (Has.cons (hI25.at 2 rfl) (Has.cons (hI25.at 3 rfl) (Has.cons (hI25.at 4 rfl) (Has.cons (hI25.at 5 rfl) Has.nil)))))) ).mono fun _ _ h => ⟨_, h.1, rfl, h.2⟩) fun ac127 v wd18 hR23 hf140 => ?_)
      obtain ⟨rfl, hR23⟩ := hR23
      have hI26 : Inv w ([(b1, arr .i64 r22.idle.c.lk, 103), (b2, arr .i64 r22.idle.c.of, 3), (b3, arr .i64 r22.idle.c.mn, 3), (b4, #[.slice (some ⟨b1, 0, none⟩) (8 + 2) (8 + 2), .slice (some ⟨b2, 0, none⟩) 8 8, .slice (some ⟨b3, 0, none⟩) 2 2], 79), (b5, arr .i64 r22.idle.cr, 3), (b6, #[.pointer (some ⟨b4, 0, none⟩), .slice (some ⟨b5, 0, none⟩) 8 8, .int .i64 r22.idle.q], 45), (b19, #[.int .i64 n], 3)] ++ ((((Sq7 ++ Sq8) ++ Sq15) ++ Sq16) ++ Sp20)) _ := Inv.callST (A := []) (S := [(b1, arr .i64 r22.c.lk, 103), (b2, arr .i64 r22.c.of, 3), (b3, arr .i64 r22.c.mn, 3), (b4, #[.slice (some ⟨b1, 0, none⟩) (8 + 2) (8 + 2), .slice (some ⟨b2, 0, none⟩) 8 8, .slice (some ⟨b3, 0, none⟩) 2 2], 79), (b5, arr .i64 r22.cr, 3), (b6, #[.pointer (some ⟨b4, 0, none⟩), .slice (some ⟨b5, 0, none⟩) 8 8, .int .i64 r22.q], 45)]) (S' := [(b1, arr .i64 r22.idle.c.lk, 103), (b2, arr .i64 r22.idle.c.of, 3), (b3, arr .i64 r22.idle.c.mn, 3), (b4, #[.slice (some ⟨b1, 0, none⟩) (8 + 2) (8 + 2), .slice (some ⟨b2, 0, none⟩) 8 8, .slice (some ⟨b3, 0, none⟩) 2 2], 79), (b5, arr .i64 r22.idle.cr, 3), (b6, #[.pointer (some ⟨b4, 0, none⟩), .slice (some ⟨b5, 0, none⟩) 8 8, .int .i64 r22.idle.q], 45)]) (L := [(b19, #[.int .i64 n], 3)]) (N := []) (T := ((((Sq7 ++ Sq8) ++ Sq15) ++ Sq16) ++ Sp20)) hI25 hR23 rfl (fun _ h => by cases h)
      obtain ⟨r24, er24⟩ : ∃ r : Ro 8, r = r22.idle := ⟨_, rfl⟩
      rw [← er24] at hI26
      refine seq_one (op_val (v := .tuple #[.int .i64 r22.f, .bool r22.idleL, .bool r22.ok]) hf140 rfl rfl rfl rfl rfl rfl (r_move rfl) fun ac128 hf141 => ?_)
      refine seq_one (op_val (v := .int .i64 r22.f) hf141 rfl rfl rfl rfl rfl rfl (r_extract rfl rfl) fun ac129 hf142 => ?_)
      refine seq_one (op_val (v := .bool r22.idleL) hf142 rfl rfl rfl rfl rfl rfl (r_extract rfl rfl) fun ac130 hf143 => ?_)
      refine seq_one (op_val (v := .bool r22.ok) hf143 rfl rfl rfl rfl rfl rfl (r_extract rfl rfl) fun ac131 hf144 => ?_)
      refine seq_one (op_val (v := .int .i64 r22.f) hf144 rfl rfl rfl rfl rfl rfl (r_assign rfl) fun ac132 hf145 => ?_)
      refine seq_one (op_val (v := .bool r22.idleL) hf145 rfl rfl rfl rfl rfl rfl (r_assign rfl) fun ac133 hf146 => ?_)
      refine seq_one (op_val (v := .bool r22.ok) hf146 rfl rfl rfl rfl rfl rfl (r_assign rfl) fun ac134 hf147 => ?_)
      refine seq_end ?_
      clear hf137 ac125 hf138 ac126 wd17 hf139 hI25 hR23 ac127 hf140 ac128 hf141 ac129 hf142 ac130 hf143 ac131 hf144 ac132 hf145 ac133 hf146
      refine then_normal ?_
      refine code_seq ?_
      refine seq_start (l := [0, 1, 2, 3, 4, 5, 6]) rfl ?_
      refine seq_one (op_val (v := .pointer (some ⟨b6, 0, none⟩)) hf147 rfl rfl rfl rfl rfl rfl (r_move rfl) fun ac135 hf148 => ?_)
      refine seq_one (op_call (R := fun v w' => ∃ S p cap T q caq, v = .tuple #[.slice p (r24.c.lst 0).length cap, .slice q (r24.c.lst 1).length caq] ∧ Sl 3 .i64 S p cap (r24.c.lst 0) ∧ Sl 3 .i64 T q caq (r24.c.lst 1) ∧ Inv _ (S ++ T) w' ∧ (∀ x ∈ S, Array.size (World.heap _) ≤ x.1) ∧ ∀ x ∈ T, Array.size (World.heap _) ≤ x.1) hf148 rfl rfl rfl rfl ca_16 ((lists_any (hI26.nd6 0 rfl rfl rfl rfl rfl rfl) r24 (Has.cons (hI26.at 0 rfl) (Has.cons (hI26.at 1 rfl) (Has.cons (hI26.at 2 rfl) (Has.cons (hI26.at 3 rfl) (Has.cons (hI26.at 4 rfl) (Has.cons (hI26.at 5 rfl) Has.nil))))))).mono fun _ _ ⟨S, p, cap, T, q, caq, he, h1, h2, h3, h4, h5⟩ => ⟨_, he, S, p, cap, T, q, caq, rfl, h1, h2, h3, h4, h5⟩) fun ac136 v wd19 hR hf149 => ?_)
      obtain ⟨Sq25, q25, capq25, Sq26, q26, capq26, rfl, hsq25, hsq26, hwq25, hzq25, hzq26⟩ := hR
      have hyq25 := fk_le hI26.size hzq25
      have hyq26 := fk_le hI26.size hzq26
      have hI27 := hI26.callN2 hwq25 hzq25 hzq26
      have hI28 : Inv w ([(b1, arr .i64 r24.c.lk, 103), (b2, arr .i64 r24.c.of, 3), (b3, arr .i64 r24.c.mn, 3), (b4, #[.slice (some ⟨b1, 0, none⟩) (8 + 2) (8 + 2), .slice (some ⟨b2, 0, none⟩) 8 8, .slice (some ⟨b3, 0, none⟩) 2 2], 79), (b5, arr .i64 r24.cr, 3), (b6, #[.pointer (some ⟨b4, 0, none⟩), .slice (some ⟨b5, 0, none⟩) 8 8, .int .i64 r24.q], 45), (b19, #[.int .i64 n], 3)] ++ ((((((Sq7 ++ Sq8) ++ Sq15) ++ Sq16) ++ Sp20) ++ Sq25) ++ Sq26)) _ := hI27
      refine seq_one (op_val (v := .tuple #[.slice q25 ((r24.c.lst 0).length) capq25, .slice q26 ((r24.c.lst 1).length) capq26]) hf149 rfl rfl rfl rfl rfl rfl (r_move rfl) fun ac137 hf150 => ?_)
      refine seq_one (op_val (v := .slice q25 ((r24.c.lst 0).length) capq25) hf150 rfl rfl rfl rfl rfl rfl (r_extract rfl rfl) fun ac138 hf151 => ?_)
      refine seq_one (op_val (v := .slice q26 ((r24.c.lst 1).length) capq26) hf151 rfl rfl rfl rfl rfl rfl (r_extract rfl rfl) fun ac139 hf152 => ?_)
      refine seq_one (op_val (v := .slice q25 ((r24.c.lst 0).length) capq25) hf152 rfl rfl rfl rfl rfl rfl (r_assign rfl) fun ac140 hf153 => ?_)
      refine seq_one (op_val (v := .slice q26 ((r24.c.lst 1).length) capq26) hf153 rfl rfl rfl rfl rfl rfl (r_assign rfl) fun ac141 hf154 => ?_)
      refine seq_end ?_
      clear ac134 hf147 ac135 wd18 hf148 hI26 hI27 hwq25 hzq25 hzq26 ac136 hf149 ac137 hf150 ac138 hf151 ac139 hf152 ac140 hf153
      refine then_normal ?_
      refine code_seq ?_
      refine seq_start (l := [0, 1, 2, 3, 4, 5, 6, 7, 8, 9, 10, 11, 12, 13, 14, 15, 16, 17, 18, 19, 20, 21, 22, 23, 24, 25, 26, 27, 28, 29, 30, 31, 32, 33, 34, 35]) rfl ?_
      refine seq_one (op_val (v := .int .i64 r22.f) hf154 rfl rfl rfl rfl rfl rfl (r_move rfl) fun ac142 hf155 => ?_)
      refine seq_one (op_val (v := .int .i64 n) hf155 rfl rfl rfl rfl rfl rfl (r_move rfl) fun ac143 hf156 => ?_)
      refine seq_one (op_val (v := .bool (r22.f == n)) hf156 rfl rfl rfl rfl rfl rfl (r_eql rfl rfl) fun ac144 hf157 => ?_)
      refine seq_one (op_val (v := .bool (r22.f == n)) hf157 rfl rfl rfl rfl rfl rfl (r_move rfl) fun ac145 hf158 => ?_)
      have hf159 := hf158.know 148 (u := .bool true) rfl (congrArg Value.bool (beq_iff_eq.2 (by rw [(er22.trans (hx1.2.last (by have := of_decide_eq_false c104_2; omega) hm.1).1)]; exact (hx1.2.last (by have := of_decide_eq_false c104_2; omega) hm.1).2.2.1)))
      refine seq_one (op_val (v := .bool r22.idleL) hf159 rfl rfl rfl rfl rfl rfl (r_move rfl) fun ac146 hf160 => ?_)
      refine seq_one (op_val (v := .bool (!r22.idleL)) hf160 rfl rfl rfl rfl rfl rfl (r_not rfl) fun ac147 hf161 => ?_)
      refine seq_one (op_val (v := .bool (!r22.idleL)) hf161 rfl rfl rfl rfl rfl rfl (r_pickT rfl rfl) fun ac148 hf162 => ?_)
      refine seq_one (op_val (v := .bool (!r22.idleL)) hf162 rfl rfl rfl rfl rfl rfl (r_move rfl) fun ac149 hf163 => ?_)
      have hf164 := hf163.know 152 (u := .bool true) rfl (congrArg Value.bool (by rw [(er22.trans (hx1.2.last (by have := of_decide_eq_false c104_2; omega) hm.1).1), (hx1.2.idle (by have := of_decide_eq_false c104_2; omega)).1]; rfl))
      refine seq_one (op_val (v := .bool r22.ok) hf164 rfl rfl rfl rfl rfl rfl (r_move rfl) fun ac150 hf165 => ?_)
      refine seq_one (op_val (v := .bool r22.ok) hf165 rfl rfl rfl rfl rfl rfl (r_pickT rfl rfl) fun ac151 hf166 => ?_)
      refine seq_one (op_val (v := .bool r22.ok) hf166 rfl rfl rfl rfl rfl rfl (r_move rfl) fun ac152 hf167 => ?_)
      have hf168 := hf167.know 155 (u := .bool true) rfl (congrArg Value.bool (by rw [(er22.trans (hx1.2.last (by have := of_decide_eq_false c104_2; omega) hm.1).1)]; exact (hx1.2.last (by have := of_decide_eq_false c104_2; omega) hm.1).2.1))
      refine seq_one (op_val (v := .slice q25 ((r24.c.lst 0).length) capq25) hf168 rfl rfl rfl rfl rfl rfl (r_move rfl) fun ac153 hf169 => ?_)
      refine seq_one (op_val (v := .int .i64 ((r24.c.lst 0).length : Int)) hf169 rfl rfl rfl rfl rfl rfl (r_len sl_27 rfl) fun ac154 hf170 => ?_)
      refine seq_one (op_val (v := .bool (((r24.c.lst 0).length : Int) == 0)) hf170 rfl rfl rfl rfl rfl rfl (r_eql rfl rfl) fun ac155 hf171 => ?_)
      refine seq_one (op_val (v := .bool (((r24.c.lst 0).length : Int) == 0)) hf171 rfl rfl rfl rfl rfl rfl (r_pickT rfl rfl) fun ac156 hf172 => ?_)
      refine seq_one (op_val (v := .bool (((r24.c.lst 0).length : Int) == 0)) hf172 rfl rfl rfl rfl rfl rfl (r_move rfl) fun ac157 hf173 => ?_)
      have hf174 := hf173.know 160 (u := .bool true) rfl (congrArg Value.bool (beq_iff_eq.2 (by rw [er24, (er22.trans (hx1.2.last (by have := of_decide_eq_false c104_2; omega) hm.1).1), (hx1.2.idle (by have := of_decide_eq_false c104_2; omega)).2.1]; rfl)))
      refine seq_one (op_val (v := .slice q26 ((r24.c.lst 1).length) capq26) hf174 rfl rfl rfl rfl rfl rfl (r_move rfl) fun ac158 hf175 => ?_)
      refine seq_one (op_val (v := .int .i64 ((r24.c.lst 1).length : Int)) hf175 rfl rfl rfl rfl rfl rfl (r_len sl_27 rfl) fun ac159 hf176 => ?_)
      refine seq_one (op_val (v := .slice q8 ((r6.c.lst 1).length) capq8) hf176 rfl rfl rfl rfl rfl rfl (r_move rfl) fun ac160 hf177 => ?_)
      refine seq_one (op_val (v := .int .i64 ((r6.c.lst 1).length : Int)) hf177 rfl rfl rfl rfl rfl rfl (r_len sl_27 rfl) fun ac161 hf178 => ?_)
      refine seq_one (op_val (v := .int .i64 (((r6.c.lst 1).length + 1 : Nat) : Int)) hf178 rfl rfl rfl rfl rfl rfl (r_add (c := (((r6.c.lst 1).length + 1 : Nat) : Int)) rfl rfl (wrap_i64 (by omega) (by have := Ch.lst_le r6.c 1; omega))) fun ac162 hf179 => ?_)
      refine seq_one (op_val (v := .bool (((r24.c.lst 1).length : Int) == (((r6.c.lst 1).length + 1 : Nat) : Int))) hf179 rfl rfl rfl rfl rfl rfl (r_eql rfl rfl) fun ac163 hf180 => ?_)
      refine seq_one (op_val (v := .bool (((r24.c.lst 1).length : Int) == (((r6.c.lst 1).length + 1 : Nat) : Int))) hf180 rfl rfl rfl rfl rfl rfl (r_pickT rfl rfl) fun ac164 hf181 => ?_)
      refine seq_one (op_val (v := .bool (((r24.c.lst 1).length : Int) == (((r6.c.lst 1).length + 1 : Nat) : Int))) hf181 rfl rfl rfl rfl rfl rfl (r_move rfl) fun ac165 hf182 => ?_)
      have hf183 := hf182.know 168 (u := .bool true) rfl (congrArg Value.bool (beq_iff_eq.2 (by rw [er24, (er22.trans (hx1.2.last (by have := of_decide_eq_false c104_2; omega) hm.1).1), (hx1.2.idle (by have := of_decide_eq_false c104_2; omega)).2.2]; simp)))
      refine seq_one (op_val (v := .slice q26 ((r24.c.lst 1).length) capq26) hf183 rfl rfl rfl rfl rfl rfl (r_move rfl) fun ac166 hf184 => ?_)
      refine seq_one (op_val (v := .slice q8 ((r6.c.lst 1).length) capq8) hf184 rfl rfl rfl rfl rfl rfl (r_move rfl) fun ac167 hf185 => ?_)
      refine seq_one (op_val (v := .int .i64 ((r6.c.lst 1).length : Int)) hf185 rfl rfl rfl rfl rfl rfl (r_len sl_27 rfl) fun ac168 hf186 => ?_)
      refine seq_one (op_val (v := .pointer (slAt q26 ((r6.c.lst 1).length))) hf186 rfl rfl rfl rfl rfl rfl (r_indexAddrV (i := (r6.c.lst 1).length) sl_27 rfl rfl rfl (by rw [er24, (er22.trans (hx1.2.last (by have := of_decide_eq_false c104_2; omega) hm.1).1), (hx1.2.idle (by have := of_decide_eq_false c104_2; omega)).2.2]; simp) (let r := (hsq26.rd hI28 (fun x hx => List.mem_append_right _ (List.mem_append_right _ hx))) ((r6.c.lst 1).length) (by rw [er24, (er22.trans (hx1.2.last (by have := of_decide_eq_false c104_2; omega) hm.1).1), (hx1.2.idle (by have := of_decide_eq_false c104_2; omega)).2.2]; simp); ⟨r.choose, r.choose_spec.1⟩)) fun ac169 hf187 => ?_)
      refine seq_one (op_val (v := .int .i64 ((r24.c.lst 1).getD ((r6.c.lst 1).length) 0)) hf187 rfl rfl rfl rfl rfl rfl (r_loadV ag_3 rfl (hsq26.rd hI28 (fun x hx => List.mem_append_right _ (List.mem_append_right _ hx))) (by rw [er24, (er22.trans (hx1.2.last (by have := of_decide_eq_false c104_2; omega) hm.1).1), (hx1.2.idle (by have := of_decide_eq_false c104_2; omega)).2.2]; simp)) fun ac170 hf188 => ?_)
      refine seq_one (op_val (v := .int .i64 n) hf188 rfl rfl rfl rfl rfl rfl (r_move rfl) fun ac171 hf189 => ?_)
      refine seq_one (op_val (v := .bool (((r24.c.lst 1).getD ((r6.c.lst 1).length) 0) == n)) hf189 rfl rfl rfl rfl rfl rfl (r_eql rfl rfl) fun ac172 hf190 => ?_)
      refine seq_one (op_val (v := .bool (((r24.c.lst 1).getD ((r6.c.lst 1).length) 0) == n)) hf190 rfl rfl rfl rfl rfl rfl (r_pickT rfl rfl) fun ac173 hf191 => ?_)
      refine seq_one (op_val (v := .bool (((r24.c.lst 1).getD ((r6.c.lst 1).length) 0) == n)) hf191 rfl rfl rfl rfl rfl rfl (r_move rfl) fun ac174 hf192 => ?_)
      have hf193 := hf192.know 177 (u := .bool true) rfl (congrArg Value.bool (beq_iff_eq.2 (by rw [er24, (er22.trans (hx1.2.last (by have := of_decide_eq_false c104_2; omega) hm.1).1), (hx1.2.idle (by have := of_decide_eq_false c104_2; omega)).2.2]; simp)))
      refine seq_one (op_pure hf193 rfl rfl rfl rfl ca_23 awake17_pur hI28 fun ac175 wd20 hI29 hf194 => ?_)
      refine seq_one (op_val (v := .bool true) hf194 rfl rfl rfl rfl rfl rfl (r_pickT rfl rfl) fun ac176 hf195 => ?_)
      refine seq_one (op_val (v := .bool true) hf195 rfl rfl rfl rfl rfl rfl (r_assign rfl) fun ac177 hf196 => ?_)
      refine seq_end ?_
      clear ac141 hf154 ac142 hf155 ac143 hf156 ac144 hf157 hf158 ac145 hf159 ac146 hf160 ac147 hf161 ac148 hf162 hf163 ac149 hf164 ac150 hf165 ac151 hf166 hf167 ac152 hf168 ac153 hf169 ac154 hf170 ac155 hf171 ac156 hf172 hf173 ac157 hf174 ac158 hf175 ac159 hf176 ac160 hf177 ac161 hf178 ac162 hf179 ac163 hf180 ac164 hf181 hf182 ac165 hf183 ac166 hf184 ac167 hf185 ac168 hf186 ac169 hf187 ac170 hf188 ac171 hf189 ac172 hf190 ac173 hf191 hf192 ac174 wd19 hI28 hf193 ac175 hf194 ac176 hf195
      refine then_normal ?_
      refine wp_ret ?_
      refine post1 rfl hf196 rfl ⟨?_, hI29.done (fk_app (fresh_keys (ks := [b1, b2, b3, b4, b5, b6, b19]) rfl (fk_cons hb1 (fk_cons hb2 (fk_cons hb3 (fk_cons hb4 (fk_cons hb5 (fk_cons hb6 (fk_cons hb19 fk_nil)))))))) (fk_app (fk_app (fk_app (fk_app (fk_app (fk_app hyq7 hyq8) hyq15) hyq16) hzp20) hyq25) hyq26))⟩
      rfl
end Go.Proofs.Ytjelaoblpchmmaa
