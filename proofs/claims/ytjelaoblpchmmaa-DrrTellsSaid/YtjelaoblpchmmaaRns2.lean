/-
  Join and Back of a round: what each call comes to.
-/
import Derived.Test.YtjelaoblpchmmaaRns
namespace Go.Proofs.Ytjelaoblpchmmaa
set_option linter.unusedVariables false
set_option linter.unusedSimpArgs false
set_option maxRecDepth 100000
open Go.RowKit
set_option maxHeartbeats 8000000 in
theorem enter_walk {N : Nat} {lb ob mb cb rc rb : Nat} (hd : [lb, ob, mb, cb, rc, rb].Nodup) (r : Ro N) {w : World} (h0_ : Has [(lb, arr .i64 r.c.lk, 103), (ob, arr .i64 r.c.of, 3), (mb, arr .i64 r.c.mn, 3), (cb, #[.slice (some ⟨lb, 0, none⟩) (N + 2) (N + 2), .slice (some ⟨ob, 0, none⟩) N N, .slice (some ⟨mb, 0, none⟩) 2 2], 79), (rc, arr .i64 r.cr, 3), (rb, #[.pointer (some ⟨cb, 0, none⟩), .slice (some ⟨rc, 0, none⟩) N N, .int .i64 r.q], 45)] w) (l f x : Int) : Calls Try.prog 55 [.pointer (some ⟨rb, 0, none⟩), .int .i64 l, .int .i64 f, .int .i64 x].toArray w fun e w' => e = .returned (.int .i64 (r.enterE l f x)) ∧ Inv w [(lb, arr .i64 ((r.enter l f x).c).lk, 103), (ob, arr .i64 ((r.enter l f x).c).of, 3), (mb, arr .i64 ((r.enter l f x).c).mn, 3), (cb, #[.slice (some ⟨lb, 0, none⟩) (N + 2) (N + 2), .slice (some ⟨ob, 0, none⟩) N N, .slice (some ⟨mb, 0, none⟩) 2 2], 79), (rc, arr .i64 (r.enter l f x).cr, 3), (rb, #[.pointer (some ⟨cb, 0, none⟩), .slice (some ⟨rc, 0, none⟩) N N, .int .i64 ((r.enter l f x).q)], 45)] w' := by
  have hI1 := Inv.startS h0_ (pw_keys hd)
  have hN := r.hN
  have hq := r.hq
  refine enter (n := 35) Try.func55 rfl rfl rfl ?_
  intro ac1 hf1
  refine code_seq ?_
  refine seq_start (l := [0]) rfl ?_
  refine seq_one (op_val (v := .int .i64 0) hf1 rfl rfl rfl rfl rfl rfl (r_assign rfl) fun ac2 hf2 => ?_)
  refine seq_end ?_
  clear ac1 hf1
  refine then_normal ?_
  refine code_seq ?_
  refine wp_block ?_
  refine code_seq ?_
  refine seq_start (l := [0, 1, 2]) rfl ?_
  refine seq_one (op_val (v := .pointer (some ⟨rb, 0, none⟩)) hf2 rfl rfl rfl rfl rfl rfl (r_move rfl) fun ac3 hf3 => ?_)
  refine seq_one (op_pureW hf3 rfl rfl rfl rfl ca_51 (none_walk (hI1.nd6 0 rfl rfl rfl rfl rfl rfl) r (Has.cons (hI1.at 0 rfl) (Has.cons (hI1.at 1 rfl) (Has.cons (hI1.at 2 rfl) (Has.cons (hI1.at 3 rfl) (Has.cons (hI1.at 4 rfl) (Has.cons (hI1.at 5 rfl) Has.nil))))))) hI1 fun ac4 wd1 hI2 hf4 => ?_)
  refine seq_one (op_val (v := .bool false) hf4 rfl rfl rfl rfl rfl rfl (r_assign rfl) fun ac5 hf5 => ?_)
  refine seq_end ?_
  clear ac2 hf2 ac3 hI1 hf3 ac4 hf4
  refine then_normal ?_
  refine code_if_false hf5 rfl ?_
  refine code_seq ?_
  refine seq_start (l := [0, 1, 2, 3]) rfl ?_
  refine seq_one (op_val (v := .int .i64 x) hf5 rfl rfl rfl rfl rfl rfl (r_move rfl) fun ac6 hf6 => ?_)
  refine seq_one (op_pure hf6 rfl rfl rfl rfl ca_54 may_pur hI2 fun ac7 wd2 hI3 hf7 => ?_)
  refine seq_one (op_val (v := .bool (!(mayB x))) hf7 rfl rfl rfl rfl rfl rfl (r_not rfl) fun ac8 hf8 => ?_)
  refine seq_one (op_val (v := .bool (!(mayB x))) hf8 rfl rfl rfl rfl rfl rfl (r_assign rfl) fun ac9 hf9 => ?_)
  refine seq_end ?_
  clear ac5 hf5 ac6 wd1 hI2 hf6 ac7 hf7 ac8 hf8
  refine then_normal ?_
  refine code_if hf9 rfl (fun c13_1 => ?_) (fun c13_1 => ?_)
  · have hf10 := hf9.know 13 (u := .bool true) rfl (congrArg Value.bool c13_1)
    refine code_seq ?_
    refine seq_start (l := [0]) rfl ?_
    refine seq_one (op_val (v := .int .i64 2) hf10 rfl rfl rfl rfl rfl rfl (r_assign rfl) fun ac10 hf11 => ?_)
    refine seq_end ?_
    clear hf9 ac9 hf10
    refine then_normal ?_
    refine wp_ret ?_
    refine block_ret ?_
    refine then_ret ?_
    have hm : mayB x = false := by simpa using c13_1
    exact post1 rfl hf11 rfl ⟨by rw [Ro.enterE_f hm], by rw [Ro.enter_f hm]; exact hI3⟩
  · have hf12 := hf9.know 13 (u := .bool false) rfl (congrArg Value.bool c13_1)
    refine wp_skip ?_
    refine block_normal ?_
    refine then_normal ?_
    refine code_seq ?_
    refine seq_start (l := [0, 1, 2, 3, 4, 5, 6, 7, 8]) rfl ?_
    refine seq_one (op_val (v := .pointer (some ⟨rb, 0, none⟩)) hf12 rfl rfl rfl rfl rfl rfl (r_move rfl) fun ac11 hf13 => ?_)
    refine seq_one (op_val (v := .pointer (some ⟨rb, 0, none⟩)) hf13 rfl rfl rfl rfl rfl rfl (r_nilCheck rfl) fun ac12 hf14 => ?_)
    refine seq_one (op_val (v := .pointer (some ⟨rb, 0, none⟩)) hf14 rfl rfl rfl rfl rfl rfl (r_fieldAddr fi_45_0 rfl rfl) fun ac13 hf15 => ?_)
    refine seq_one (op_val (v := .pointer (some ⟨rb, 0, none⟩)) hf15 rfl rfl rfl rfl rfl rfl (r_fieldAddr fi_43_0 rfl rfl) fun ac14 hf16 => ?_)
    refine seq_one (op_val (v := .pointer (some ⟨cb, 0, none⟩)) hf16 rfl rfl rfl rfl rfl rfl (r_load ag_41 rfl (hI3.at 5 rfl) rfl) fun ac15 hf17 => ?_)
    refine seq_one (op_val (v := .int .i64 l) hf17 rfl rfl rfl rfl rfl rfl (r_move rfl) fun ac16 hf18 => ?_)
    refine seq_one (op_val (v := .int .i64 f) hf18 rfl rfl rfl rfl rfl rfl (r_move rfl) fun ac17 hf19 => ?_)
    refine seq_one (op_call (R := fun v w' => v = .int .i64 (r.c.pushE l f) ∧ Inv _ [(lb, arr .i64 (r.c.push l f).lk, 103), (ob, arr .i64 (r.c.push l f).of, 3), (mb, arr .i64 (r.c.push l f).mn, 3), (cb, #[.slice (some ⟨lb, 0, none⟩) (N + 2) (N + 2), .slice (some ⟨ob, 0, none⟩) N N, .slice (some ⟨mb, 0, none⟩) 2 2], 79)] w') hf19 rfl rfl rfl rfl ca_30 ((push_any (hI3.nd 0 rfl rfl rfl rfl) r.c (Has.cons (hI3.at 0 rfl) (Has.cons (hI3.at 1 rfl) (Has.cons (hI3.at 2 rfl) (Has.cons (hI3.at 3 rfl) Has.nil)))) l f).mono fun _ _ h => ⟨_, h.1, rfl, h.2⟩) fun ac18 v wd3 hR1 hf20 => ?_)
    obtain ⟨rfl, hR1⟩ := hR1
    have hI4 : Inv w [(lb, arr .i64 (r.c.push l f).lk, 103), (ob, arr .i64 (r.c.push l f).of, 3), (mb, arr .i64 (r.c.push l f).mn, 3), (cb, #[.slice (some ⟨lb, 0, none⟩) (N + 2) (N + 2), .slice (some ⟨ob, 0, none⟩) N N, .slice (some ⟨mb, 0, none⟩) 2 2], 79), (rc, arr .i64 r.cr, 3), (rb, #[.pointer (some ⟨cb, 0, none⟩), .slice (some ⟨rc, 0, none⟩) N N, .int .i64 r.q], 45)] _ := Inv.callS (A := []) (S := [(lb, arr .i64 r.c.lk, 103), (ob, arr .i64 r.c.of, 3), (mb, arr .i64 r.c.mn, 3), (cb, #[.slice (some ⟨lb, 0, none⟩) (N + 2) (N + 2), .slice (some ⟨ob, 0, none⟩) N N, .slice (some ⟨mb, 0, none⟩) 2 2], 79)]) (S' := [(lb, arr .i64 (r.c.push l f).lk, 103), (ob, arr .i64 (r.c.push l f).of, 3), (mb, arr .i64 (r.c.push l f).mn, 3), (cb, #[.slice (some ⟨lb, 0, none⟩) (N + 2) (N + 2), .slice (some ⟨ob, 0, none⟩) N N, .slice (some ⟨mb, 0, none⟩) 2 2], 79)]) (L := [(rc, arr .i64 r.cr, 3), (rb, #[.pointer (some ⟨cb, 0, none⟩), .slice (some ⟨rc, 0, none⟩) N N, .int .i64 r.q], 45)]) (N := []) hI3 hR1 rfl (fun _ h => by cases h)
    refine seq_one (op_val (v := .int .i64 (r.c.pushE l f)) hf20 rfl rfl rfl rfl rfl rfl (r_assign rfl) fun ac19 hf21 => ?_)
    refine seq_end ?_
    clear hf9 ac9 hf12 ac11 hf13 ac12 hf14 ac13 hf15 ac14 hf16 ac15 hf17 ac16 hf18 ac17 wd2 hf19 hI3 hR1 ac18 hf20
    refine then_normal ?_
    refine code_seq ?_
    refine code_seq ?_
    refine seq_start (l := [0, 1]) rfl ?_
    refine seq_one (op_val (v := .int .i64 (r.c.pushE l f)) hf21 rfl rfl rfl rfl rfl rfl (r_move rfl) fun ac20 hf22 => ?_)
    refine seq_one (op_val (v := .bool ((r.c.pushE l f) == 0)) hf22 rfl rfl rfl rfl rfl rfl (r_eql rfl rfl) fun ac21 hf23 => ?_)
    refine seq_end ?_
    clear ac19 hf21 ac20 hf22
    refine then_normal ?_
    refine code_if hf23 rfl (fun c26_2 => ?_) (fun c26_2 => ?_)
    · have hf24 := hf23.know 26 (u := .bool true) rfl (congrArg Value.bool c26_2)
      refine seq_start (l := [0, 1, 2, 3, 4, 5, 6, 7]) rfl ?_
      refine seq_one (op_val (v := .pointer (some ⟨rb, 0, none⟩)) hf24 rfl rfl rfl rfl rfl rfl (r_move rfl) fun ac22 hf25 => ?_)
      refine seq_one (op_val (v := .pointer (some ⟨rb, 0, none⟩)) hf25 rfl rfl rfl rfl rfl rfl (r_nilCheck rfl) fun ac23 hf26 => ?_)
      refine seq_one (op_val (v := .pointer (some ⟨rb, 1, none⟩)) hf26 rfl rfl rfl rfl rfl rfl (r_fieldAddr fi_45_1 rfl rfl) fun ac24 hf27 => ?_)
      refine seq_one (op_val (v := .slice (some ⟨rc, 0, none⟩) N N) hf27 rfl rfl rfl rfl rfl rfl (r_load ag_27 rfl (hI4.at 5 rfl) rfl) fun ac25 hf28 => ?_)
      refine seq_one (op_val (v := .int .i64 f) hf28 rfl rfl rfl rfl rfl rfl (r_move rfl) fun ac26 hf29 => ?_)
      refine seq_one (op_val (v := .int .i64 x) hf29 rfl rfl rfl rfl rfl rfl (r_move rfl) fun ac27 hf30 => ?_)
      refine seq_one (op_val (v := .pointer (some ⟨rc, f.toNat, none⟩)) hf30 rfl rfl rfl rfl rfl rfl (r_indexAddrS (i := f.toNat) sl_27 rfl rfl (by have := (Ch.pushE_iff.1 (beq_iff_eq.1 c26_2)).2.1; omega) (by have := (Ch.pushE_iff.1 (beq_iff_eq.1 c26_2)).2.1; omega) (by rw [Nat.mul_one, Nat.zero_add])) fun ac28 hf31 => ?_)
      refine seq_one (op_store (cs' := arr .i64 (r.cr.set f.toNat x)) 4 hf31 rfl rfl rfl rfl rfl sz_3 hI4 rfl (Nat.lt_of_lt_of_eq (by have := (Ch.pushE_iff.1 (beq_iff_eq.1 c26_2)).2.1; omega) (Eq.symm (arr_size r.hl))) arr_set fun wd4 hI5 => ?_)
      have hI6 : Inv w [(lb, arr .i64 (r.c.push l f).lk, 103), (ob, arr .i64 (r.c.push l f).of, 3), (mb, arr .i64 (r.c.push l f).mn, 3), (cb, #[.slice (some ⟨lb, 0, none⟩) (N + 2) (N + 2), .slice (some ⟨ob, 0, none⟩) N N, .slice (some ⟨mb, 0, none⟩) 2 2], 79), (rc, arr .i64 (r.cr.set f.toNat x), 3), (rb, #[.pointer (some ⟨cb, 0, none⟩), .slice (some ⟨rc, 0, none⟩) N N, .int .i64 r.q], 45)] wd4 := hI5
      refine seq_end ?_
      clear hf23 ac21 hf24 ac22 hf25 ac23 hf26 ac24 hf27 ac25 hf28 ac26 hf29 ac27 hf30 wd3 hI4 hI5
      refine then_normal ?_
      refine code_seq ?_
      refine seq_start (l := [0, 1]) rfl ?_
      refine seq_one (op_val (v := .int .i64 (r.c.pushE l f)) hf31 rfl rfl rfl rfl rfl rfl (r_move rfl) fun ac29 hf32 => ?_)
      refine seq_one (op_val (v := .int .i64 (r.c.pushE l f)) hf32 rfl rfl rfl rfl rfl rfl (r_assign rfl) fun ac30 hf33 => ?_)
      refine seq_end ?_
      clear ac28 hf31 ac29 hf32
      refine then_normal ?_
      refine wp_ret ?_
      have hm : mayB x = true := by simpa using c13_1
      have hp := Ch.pushE_iff.1 (beq_iff_eq.1 c26_2)
      exact post1 rfl hf33 rfl ⟨by rw [Ro.enterE_t hm], by rw [Ro.enter_t hm hp]; exact hI6⟩
    · have hf34 := hf23.know 26 (u := .bool false) rfl (congrArg Value.bool c26_2)
      refine wp_skip ?_
      refine then_normal ?_
      refine code_seq ?_
      refine seq_start (l := [0, 1]) rfl ?_
      refine seq_one (op_val (v := .int .i64 (r.c.pushE l f)) hf34 rfl rfl rfl rfl rfl rfl (r_move rfl) fun ac31 hf35 => ?_)
      refine seq_one (op_val (v := .int .i64 (r.c.pushE l f)) hf35 rfl rfl rfl rfl rfl rfl (r_assign rfl) fun ac32 hf36 => ?_)
      refine seq_end ?_
      clear hf23 ac21 hf34 ac31 hf35
      refine then_normal ?_
      refine wp_ret ?_
      have hm : mayB x = true := by simpa using c13_1
      have hp : ¬ r.c.pok l f := fun g => beq_eq_false_iff_ne.1 c26_2 (Ch.pushE_iff.2 g)
      rw [Ch.push_no hp] at hI4
      exact post1 rfl hf36 rfl ⟨by rw [Ro.enterE_t hm], by rw [Ro.enter_n hp]; exact hI4⟩
set_option maxHeartbeats 8000000 in
theorem join_any {N : Nat} {lb ob mb cb rc rb : Nat} (hd : [lb, ob, mb, cb, rc, rb].Nodup) (r : Ro N) {w : World} (h0_ : Has [(lb, arr .i64 r.c.lk, 103), (ob, arr .i64 r.c.of, 3), (mb, arr .i64 r.c.mn, 3), (cb, #[.slice (some ⟨lb, 0, none⟩) (N + 2) (N + 2), .slice (some ⟨ob, 0, none⟩) N N, .slice (some ⟨mb, 0, none⟩) 2 2], 79), (rc, arr .i64 r.cr, 3), (rb, #[.pointer (some ⟨cb, 0, none⟩), .slice (some ⟨rc, 0, none⟩) N N, .int .i64 r.q], 45)] w) (f x : Int) : Calls Try.prog 24 [.pointer (some ⟨rb, 0, none⟩), .int .i64 f, .int .i64 x].toArray w fun e w' => e = .returned (.int .i64 (r.enterE 0 f x)) ∧ Inv w [(lb, arr .i64 ((r.enter 0 f x).c).lk, 103), (ob, arr .i64 ((r.enter 0 f x).c).of, 3), (mb, arr .i64 ((r.enter 0 f x).c).mn, 3), (cb, #[.slice (some ⟨lb, 0, none⟩) (N + 2) (N + 2), .slice (some ⟨ob, 0, none⟩) N N, .slice (some ⟨mb, 0, none⟩) 2 2], 79), (rc, arr .i64 (r.enter 0 f x).cr, 3), (rb, #[.pointer (some ⟨cb, 0, none⟩), .slice (some ⟨rc, 0, none⟩) N N, .int .i64 ((r.enter 0 f x).q)], 45)] w' := by
  have hI1 := Inv.startS h0_ (pw_keys hd)
  have hN := r.hN
  have hq := r.hq
  refine enter (n := 11) Try.func24 rfl rfl rfl ?_
  intro ac1 hf1
  refine code_seq ?_
  refine seq_start (l := [0]) rfl ?_
  refine seq_one (op_val (v := .int .i64 0) hf1 rfl rfl rfl rfl rfl rfl (r_assign rfl) fun ac2 hf2 => ?_)
  refine seq_end ?_
  clear ac1 hf1
  refine then_normal ?_
  refine code_seq ?_
  refine seq_start (l := [0, 1, 2, 3, 4]) rfl ?_
  refine seq_one (op_val (v := .pointer (some ⟨rb, 0, none⟩)) hf2 rfl rfl rfl rfl rfl rfl (r_move rfl) fun ac3 hf3 => ?_)
  refine seq_one (op_val (v := .int .i64 f) hf3 rfl rfl rfl rfl rfl rfl (r_move rfl) fun ac4 hf4 => ?_)
  refine seq_one (op_val (v := .int .i64 x) hf4 rfl rfl rfl rfl rfl rfl (r_move rfl) fun ac5 hf5 => ?_)
  refine seq_one (op_call (R := fun v w' => v = .int .i64 (r.enterE 0 f x) ∧ Inv _ [(lb, arr .i64 ((r.enter 0 f x).c).lk, 103), (ob, arr .i64 ((r.enter 0 f x).c).of, 3), (mb, arr .i64 ((r.enter 0 f x).c).mn, 3), (cb, #[.slice (some ⟨lb, 0, none⟩) (N + 2) (N + 2), .slice (some ⟨ob, 0, none⟩) N N, .slice (some ⟨mb, 0, none⟩) 2 2], 79), (rc, arr .i64 (r.enter 0 f x).cr, 3), (rb, #[.pointer (some ⟨cb, 0, none⟩), .slice (some ⟨rc, 0, none⟩) N N, .int .i64 ((r.enter 0 f x).q)], 45)] w') hf5 rfl rfl rfl rfl ca_55 ((enter_walk (hI1.nd6 0 rfl rfl rfl rfl rfl rfl) r (Has.cons (hI1.at 0 rfl) (Has.cons (hI1.at 1 rfl) (Has.cons (hI1.at 2 rfl) (Has.cons (hI1.at 3 rfl) (Has.cons (hI1.at 4 rfl) (Has.cons (hI1.at 5 rfl) Has.nil)))))) 0 f x).mono fun _ _ h => ⟨_, h.1, rfl, h.2⟩) fun ac6 v wd1 hR1 hf6 => ?_)
  obtain ⟨rfl, hR1⟩ := hR1
  have hI2 : Inv w [(lb, arr .i64 ((r.enter 0 f x).c).lk, 103), (ob, arr .i64 ((r.enter 0 f x).c).of, 3), (mb, arr .i64 ((r.enter 0 f x).c).mn, 3), (cb, #[.slice (some ⟨lb, 0, none⟩) (N + 2) (N + 2), .slice (some ⟨ob, 0, none⟩) N N, .slice (some ⟨mb, 0, none⟩) 2 2], 79), (rc, arr .i64 (r.enter 0 f x).cr, 3), (rb, #[.pointer (some ⟨cb, 0, none⟩), .slice (some ⟨rc, 0, none⟩) N N, .int .i64 ((r.enter 0 f x).q)], 45)] _ := Inv.callS (A := []) (S := [(lb, arr .i64 r.c.lk, 103), (ob, arr .i64 r.c.of, 3), (mb, arr .i64 r.c.mn, 3), (cb, #[.slice (some ⟨lb, 0, none⟩) (N + 2) (N + 2), .slice (some ⟨ob, 0, none⟩) N N, .slice (some ⟨mb, 0, none⟩) 2 2], 79), (rc, arr .i64 r.cr, 3), (rb, #[.pointer (some ⟨cb, 0, none⟩), .slice (some ⟨rc, 0, none⟩) N N, .int .i64 r.q], 45)]) (S' := [(lb, arr .i64 ((r.enter 0 f x).c).lk, 103), (ob, arr .i64 ((r.enter 0 f x).c).of, 3), (mb, arr .i64 ((r.enter 0 f x).c).mn, 3), (cb, #[.slice (some ⟨lb, 0, none⟩) (N + 2) (N + 2), .slice (some ⟨ob, 0, none⟩) N N, .slice (some ⟨mb, 0, none⟩) 2 2], 79), (rc, arr .i64 (r.enter 0 f x).cr, 3), (rb, #[.pointer (some ⟨cb, 0, none⟩), .slice (some ⟨rc, 0, none⟩) N N, .int .i64 ((r.enter 0 f x).q)], 45)]) (L := []) (N := []) hI1 hR1 rfl (fun _ h => by cases h)
  refine seq_one (op_val (v := .int .i64 (r.enterE 0 f x)) hf6 rfl rfl rfl rfl rfl rfl (r_assign rfl) fun ac7 hf7 => ?_)
  refine seq_end ?_
  clear ac2 hf2 ac3 hf3 ac4 hf4 ac5 hf5 hI1 hR1 ac6 hf6
  refine then_normal ?_
  refine wp_ret ?_
  exact post1 rfl hf7 rfl ⟨rfl, hI2⟩
set_option maxHeartbeats 8000000 in
theorem back_any {N : Nat} {lb ob mb cb rc rb : Nat} (hd : [lb, ob, mb, cb, rc, rb].Nodup) (r : Ro N) {w : World} (h0_ : Has [(lb, arr .i64 r.c.lk, 103), (ob, arr .i64 r.c.of, 3), (mb, arr .i64 r.c.mn, 3), (cb, #[.slice (some ⟨lb, 0, none⟩) (N + 2) (N + 2), .slice (some ⟨ob, 0, none⟩) N N, .slice (some ⟨mb, 0, none⟩) 2 2], 79), (rc, arr .i64 r.cr, 3), (rb, #[.pointer (some ⟨cb, 0, none⟩), .slice (some ⟨rc, 0, none⟩) N N, .int .i64 r.q], 45)] w) (f x : Int) : Calls Try.prog 25 [.pointer (some ⟨rb, 0, none⟩), .int .i64 f, .int .i64 x].toArray w fun e w' => e = .returned (.int .i64 (r.enterE 1 f x)) ∧ Inv w [(lb, arr .i64 ((r.enter 1 f x).c).lk, 103), (ob, arr .i64 ((r.enter 1 f x).c).of, 3), (mb, arr .i64 ((r.enter 1 f x).c).mn, 3), (cb, #[.slice (some ⟨lb, 0, none⟩) (N + 2) (N + 2), .slice (some ⟨ob, 0, none⟩) N N, .slice (some ⟨mb, 0, none⟩) 2 2], 79), (rc, arr .i64 (r.enter 1 f x).cr, 3), (rb, #[.pointer (some ⟨cb, 0, none⟩), .slice (some ⟨rc, 0, none⟩) N N, .int .i64 ((r.enter 1 f x).q)], 45)] w' := by
  have hI1 := Inv.startS h0_ (pw_keys hd)
  have hN := r.hN
  have hq := r.hq
  refine enter (n := 11) Try.func25 rfl rfl rfl ?_
  intro ac1 hf1
  refine code_seq ?_
  refine seq_start (l := [0]) rfl ?_
  refine seq_one (op_val (v := .int .i64 0) hf1 rfl rfl rfl rfl rfl rfl (r_assign rfl) fun ac2 hf2 => ?_)
  refine seq_end ?_
  clear ac1 hf1
  refine then_normal ?_
  refine code_seq ?_
  refine seq_start (l := [0, 1, 2, 3, 4]) rfl ?_
  refine seq_one (op_val (v := .pointer (some ⟨rb, 0, none⟩)) hf2 rfl rfl rfl rfl rfl rfl (r_move rfl) fun ac3 hf3 => ?_)
  refine seq_one (op_val (v := .int .i64 f) hf3 rfl rfl rfl rfl rfl rfl (r_move rfl) fun ac4 hf4 => ?_)
  refine seq_one (op_val (v := .int .i64 x) hf4 rfl rfl rfl rfl rfl rfl (r_move rfl) fun ac5 hf5 => ?_)
  refine seq_one (op_call (R := fun v w' => v = .int .i64 (r.enterE 1 f x) ∧ Inv _ [(lb, arr .i64 ((r.enter 1 f x).c).lk, 103), (ob, arr .i64 ((r.enter 1 f x).c).of, 3), (mb, arr .i64 ((r.enter 1 f x).c).mn, 3), (cb, #[.slice (some ⟨lb, 0, none⟩) (N + 2) (N + 2), .slice (some ⟨ob, 0, none⟩) N N, .slice (some ⟨mb, 0, none⟩) 2 2], 79), (rc, arr .i64 (r.enter 1 f x).cr, 3), (rb, #[.pointer (some ⟨cb, 0, none⟩), .slice (some ⟨rc, 0, none⟩) N N, .int .i64 ((r.enter 1 f x).q)], 45)] w') hf5 rfl rfl rfl rfl ca_55 ((enter_walk (hI1.nd6 0 rfl rfl rfl rfl rfl rfl) r (Has.cons (hI1.at 0 rfl) (Has.cons (hI1.at 1 rfl) (Has.cons (hI1.at 2 rfl) (Has.cons (hI1.at 3 rfl) (Has.cons (hI1.at 4 rfl) (Has.cons (hI1.at 5 rfl) Has.nil)))))) 1 f x).mono fun _ _ h => ⟨_, h.1, rfl, h.2⟩) fun ac6 v wd1 hR1 hf6 => ?_)
  obtain ⟨rfl, hR1⟩ := hR1
  have hI2 : Inv w [(lb, arr .i64 ((r.enter 1 f x).c).lk, 103), (ob, arr .i64 ((r.enter 1 f x).c).of, 3), (mb, arr .i64 ((r.enter 1 f x).c).mn, 3), (cb, #[.slice (some ⟨lb, 0, none⟩) (N + 2) (N + 2), .slice (some ⟨ob, 0, none⟩) N N, .slice (some ⟨mb, 0, none⟩) 2 2], 79), (rc, arr .i64 (r.enter 1 f x).cr, 3), (rb, #[.pointer (some ⟨cb, 0, none⟩), .slice (some ⟨rc, 0, none⟩) N N, .int .i64 ((r.enter 1 f x).q)], 45)] _ := Inv.callS (A := []) (S := [(lb, arr .i64 r.c.lk, 103), (ob, arr .i64 r.c.of, 3), (mb, arr .i64 r.c.mn, 3), (cb, #[.slice (some ⟨lb, 0, none⟩) (N + 2) (N + 2), .slice (some ⟨ob, 0, none⟩) N N, .slice (some ⟨mb, 0, none⟩) 2 2], 79), (rc, arr .i64 r.cr, 3), (rb, #[.pointer (some ⟨cb, 0, none⟩), .slice (some ⟨rc, 0, none⟩) N N, .int .i64 r.q], 45)]) (S' := [(lb, arr .i64 ((r.enter 1 f x).c).lk, 103), (ob, arr .i64 ((r.enter 1 f x).c).of, 3), (mb, arr .i64 ((r.enter 1 f x).c).mn, 3), (cb, #[.slice (some ⟨lb, 0, none⟩) (N + 2) (N + 2), .slice (some ⟨ob, 0, none⟩) N N, .slice (some ⟨mb, 0, none⟩) 2 2], 79), (rc, arr .i64 (r.enter 1 f x).cr, 3), (rb, #[.pointer (some ⟨cb, 0, none⟩), .slice (some ⟨rc, 0, none⟩) N N, .int .i64 ((r.enter 1 f x).q)], 45)]) (L := []) (N := []) hI1 hR1 rfl (fun _ h => by cases h)
  refine seq_one (op_val (v := .int .i64 (r.enterE 1 f x)) hf6 rfl rfl rfl rfl rfl rfl (r_assign rfl) fun ac7 hf7 => ?_)
  refine seq_end ?_
  clear ac2 hf2 ac3 hf3 ac4 hf4 ac5 hf5 hI1 hR1 ac6 hf6
  refine then_normal ?_
  refine wp_ret ?_
  exact post1 rfl hf7 rfl ⟨rfl, hI2⟩
set_option maxHeartbeats 8000000 in
theorem turn_any {N : Nat} {lb ob mb cb rc rb : Nat} (hd : [lb, ob, mb, cb, rc, rb].Nodup) (r : Ro N) {w : World} (h0_ : Has [(lb, arr .i64 r.c.lk, 103), (ob, arr .i64 r.c.of, 3), (mb, arr .i64 r.c.mn, 3), (cb, #[.slice (some ⟨lb, 0, none⟩) (N + 2) (N + 2), .slice (some ⟨ob, 0, none⟩) N N, .slice (some ⟨mb, 0, none⟩) 2 2], 79), (rc, arr .i64 r.cr, 3), (rb, #[.pointer (some ⟨cb, 0, none⟩), .slice (some ⟨rc, 0, none⟩) N N, .int .i64 r.q], 45)] w) (f : Int) : Calls Try.prog 53 [.pointer (some ⟨rb, 0, none⟩), .int .i64 f].toArray w fun e w' => e = .returned (.tuple #[]) ∧ Inv w [(lb, arr .i64 ((r.turn f).c).lk, 103), (ob, arr .i64 ((r.turn f).c).of, 3), (mb, arr .i64 ((r.turn f).c).mn, 3), (cb, #[.slice (some ⟨lb, 0, none⟩) (N + 2) (N + 2), .slice (some ⟨ob, 0, none⟩) N N, .slice (some ⟨mb, 0, none⟩) 2 2], 79), (rc, arr .i64 (r.turn f).cr, 3), (rb, #[.pointer (some ⟨cb, 0, none⟩), .slice (some ⟨rc, 0, none⟩) N N, .int .i64 ((r.turn f).q)], 45)] w' := by
  have hI1 := Inv.startS h0_ (pw_keys hd)
  have hN := r.hN
  have hq := r.hq
  refine enter (n := 18) Try.func53 rfl rfl rfl ?_
  intro ac1 hf1
  refine code_seq ?_
  refine seq_start (l := [0, 1, 2, 3, 4, 5, 6]) rfl ?_
  refine seq_one (op_val (v := .pointer (some ⟨rb, 0, none⟩)) hf1 rfl rfl rfl rfl rfl rfl (r_move rfl) fun ac2 hf2 => ?_)
  refine seq_one (op_val (v := .pointer (some ⟨rb, 0, none⟩)) hf2 rfl rfl rfl rfl rfl rfl (r_nilCheck rfl) fun ac3 hf3 => ?_)
  refine seq_one (op_val (v := .pointer (some ⟨rb, 0, none⟩)) hf3 rfl rfl rfl rfl rfl rfl (r_fieldAddr fi_45_0 rfl rfl) fun ac4 hf4 => ?_)
  refine seq_one (op_val (v := .pointer (some ⟨rb, 0, none⟩)) hf4 rfl rfl rfl rfl rfl rfl (r_fieldAddr fi_43_0 rfl rfl) fun ac5 hf5 => ?_)
  refine seq_one (op_val (v := .pointer (some ⟨cb, 0, none⟩)) hf5 rfl rfl rfl rfl rfl rfl (r_load ag_41 rfl (hI1.at 5 rfl) rfl) fun ac6 hf6 => ?_)
  refine seq_one (op_val (v := .int .i64 f) hf6 rfl rfl rfl rfl rfl rfl (r_move rfl) fun ac7 hf7 => ?_)
  refine seq_one (op_call (R := fun v w' => v = .bool (r.c.inn f) ∧ Inv _ [(lb, arr .i64 (r.c.drop f).lk, 103), (ob, arr .i64 (r.c.drop f).of, 3), (mb, arr .i64 (r.c.drop f).mn, 3), (cb, #[.slice (some ⟨lb, 0, none⟩) (N + 2) (N + 2), .slice (some ⟨ob, 0, none⟩) N N, .slice (some ⟨mb, 0, none⟩) 2 2], 79)] w') hf7 rfl rfl rfl rfl ca_32 ((drop_any (hI1.nd 0 rfl rfl rfl rfl) r.c (Has.cons (hI1.at 0 rfl) (Has.cons (hI1.at 1 rfl) (Has.cons (hI1.at 2 rfl) (Has.cons (hI1.at 3 rfl) Has.nil)))) f).mono fun _ _ h => ⟨_, h.1, rfl, h.2⟩) fun ac8 v wd1 hR1 hf8 => ?_)
  obtain ⟨rfl, hR1⟩ := hR1
  have hI2 : Inv w [(lb, arr .i64 (r.c.drop f).lk, 103), (ob, arr .i64 (r.c.drop f).of, 3), (mb, arr .i64 (r.c.drop f).mn, 3), (cb, #[.slice (some ⟨lb, 0, none⟩) (N + 2) (N + 2), .slice (some ⟨ob, 0, none⟩) N N, .slice (some ⟨mb, 0, none⟩) 2 2], 79), (rc, arr .i64 r.cr, 3), (rb, #[.pointer (some ⟨cb, 0, none⟩), .slice (some ⟨rc, 0, none⟩) N N, .int .i64 r.q], 45)] _ := Inv.callS (A := []) (S := [(lb, arr .i64 r.c.lk, 103), (ob, arr .i64 r.c.of, 3), (mb, arr .i64 r.c.mn, 3), (cb, #[.slice (some ⟨lb, 0, none⟩) (N + 2) (N + 2), .slice (some ⟨ob, 0, none⟩) N N, .slice (some ⟨mb, 0, none⟩) 2 2], 79)]) (S' := [(lb, arr .i64 (r.c.drop f).lk, 103), (ob, arr .i64 (r.c.drop f).of, 3), (mb, arr .i64 (r.c.drop f).mn, 3), (cb, #[.slice (some ⟨lb, 0, none⟩) (N + 2) (N + 2), .slice (some ⟨ob, 0, none⟩) N N, .slice (some ⟨mb, 0, none⟩) 2 2], 79)]) (L := [(rc, arr .i64 r.cr, 3), (rb, #[.pointer (some ⟨cb, 0, none⟩), .slice (some ⟨rc, 0, none⟩) N N, .int .i64 r.q], 45)]) (N := []) hI1 hR1 rfl (fun _ h => by cases h)
  refine seq_end ?_
  clear ac1 hf1 ac2 hf2 ac3 hf3 ac4 hf4 ac5 hf5 ac6 hf6 ac7 hf7 hI1 hR1
  refine then_normal ?_
  refine seq_start (l := [0, 1, 2, 3, 4, 5, 6]) rfl ?_
  refine seq_one (op_val (v := .pointer (some ⟨rb, 0, none⟩)) hf8 rfl rfl rfl rfl rfl rfl (r_move rfl) fun ac9 hf9 => ?_)
  refine seq_one (op_val (v := .pointer (some ⟨rb, 0, none⟩)) hf9 rfl rfl rfl rfl rfl rfl (r_nilCheck rfl) fun ac10 hf10 => ?_)
  refine seq_one (op_val (v := .pointer (some ⟨rb, 0, none⟩)) hf10 rfl rfl rfl rfl rfl rfl (r_fieldAddr fi_45_0 rfl rfl) fun ac11 hf11 => ?_)
  refine seq_one (op_val (v := .pointer (some ⟨rb, 0, none⟩)) hf11 rfl rfl rfl rfl rfl rfl (r_fieldAddr fi_43_0 rfl rfl) fun ac12 hf12 => ?_)
  refine seq_one (op_val (v := .pointer (some ⟨cb, 0, none⟩)) hf12 rfl rfl rfl rfl rfl rfl (r_load ag_41 rfl (hI2.at 5 rfl) rfl) fun ac13 hf13 => ?_)
  refine seq_one (op_val (v := .int .i64 f) hf13 rfl rfl rfl rfl rfl rfl (r_move rfl) fun ac14 hf14 => ?_)
  refine seq_one (op_call (R := fun v w' => v = .int .i64 ((r.c.drop f).pushE 1 f) ∧ Inv _ [(lb, arr .i64 ((r.c.drop f).push 1 f).lk, 103), (ob, arr .i64 ((r.c.drop f).push 1 f).of, 3), (mb, arr .i64 ((r.c.drop f).push 1 f).mn, 3), (cb, #[.slice (some ⟨lb, 0, none⟩) (N + 2) (N + 2), .slice (some ⟨ob, 0, none⟩) N N, .slice (some ⟨mb, 0, none⟩) 2 2], 79)] w') hf14 rfl rfl rfl rfl ca_30 ((push_any (hI2.nd 0 rfl rfl rfl rfl) (r.c.drop f) (Has.cons (hI2.at 0 rfl) (Has.cons (hI2.at 1 rfl) (Has.cons (hI2.at 2 rfl) (Has.cons (hI2.at 3 rfl) Has.nil)))) 1 f).mono fun _ _ h => ⟨_, h.1, rfl, h.2⟩) fun ac15 v wd2 hR2 hf15 => ?_)
  obtain ⟨rfl, hR2⟩ := hR2
  have hI3 : Inv w [(lb, arr .i64 ((r.c.drop f).push 1 f).lk, 103), (ob, arr .i64 ((r.c.drop f).push 1 f).of, 3), (mb, arr .i64 ((r.c.drop f).push 1 f).mn, 3), (cb, #[.slice (some ⟨lb, 0, none⟩) (N + 2) (N + 2), .slice (some ⟨ob, 0, none⟩) N N, .slice (some ⟨mb, 0, none⟩) 2 2], 79), (rc, arr .i64 r.cr, 3), (rb, #[.pointer (some ⟨cb, 0, none⟩), .slice (some ⟨rc, 0, none⟩) N N, .int .i64 r.q], 45)] _ := Inv.callS (A := []) (S := [(lb, arr .i64 (r.c.drop f).lk, 103), (ob, arr .i64 (r.c.drop f).of, 3), (mb, arr .i64 (r.c.drop f).mn, 3), (cb, #[.slice (some ⟨lb, 0, none⟩) (N + 2) (N + 2), .slice (some ⟨ob, 0, none⟩) N N, .slice (some ⟨mb, 0, none⟩) 2 2], 79)]) (S' := [(lb, arr .i64 ((r.c.drop f).push 1 f).lk, 103), (ob, arr .i64 ((r.c.drop f).push 1 f).of, 3), (mb, arr .i64 ((r.c.drop f).push 1 f).mn, 3), (cb, #[.slice (some ⟨lb, 0, none⟩) (N + 2) (N + 2), .slice (some ⟨ob, 0, none⟩) N N, .slice (some ⟨mb, 0, none⟩) 2 2], 79)]) (L := [(rc, arr .i64 r.cr, 3), (rb, #[.pointer (some ⟨cb, 0, none⟩), .slice (some ⟨rc, 0, none⟩) N N, .int .i64 r.q], 45)]) (N := []) hI2 hR2 rfl (fun _ h => by cases h)
  refine seq_end ?_
  clear ac8 hf8 ac9 hf9 ac10 hf10 ac11 hf11 ac12 hf12 ac13 hf13 ac14 wd1 hf14 hI2 hR2
  exact post0 rfl hf15 ⟨rfl, hI3⟩
end Go.Proofs.Ytjelaoblpchmmaa
