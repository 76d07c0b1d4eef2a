/-
  Head, Set, Leave, Idle and Credit of a round: what each call comes to.
-/
import Derived.Test.YtjelaoblpchmmaaRns2
namespace Go.Proofs.Ytjelaoblpchmmaa
set_option linter.unusedVariables false
set_option linter.unusedSimpArgs false
set_option maxRecDepth 100000
open Go.RowKit
set_option maxHeartbeats 8000000 in
theorem head_any {N : Nat} {lb ob mb cb rc rb : Nat} (hd : [lb, ob, mb, cb, rc, rb].Nodup) (r : Ro N) {w : World} (h0_ : Has [(lb, arr .i64 r.c.lk, 103), (ob, arr .i64 r.c.of, 3), (mb, arr .i64 r.c.mn, 3), (cb, #[.slice (some ⟨lb, 0, none⟩) (N + 2) (N + 2), .slice (some ⟨ob, 0, none⟩) N N, .slice (some ⟨mb, 0, none⟩) 2 2], 79), (rc, arr .i64 r.cr, 3), (rb, #[.pointer (some ⟨cb, 0, none⟩), .slice (some ⟨rc, 0, none⟩) N N, .int .i64 r.q], 45)] w)  : Calls Try.prog 20 [.pointer (some ⟨rb, 0, none⟩)].toArray w fun e w' => e = .returned (.tuple #[.int .i64 r.head.f, .int .i64 r.headC, .bool r.head.ok]) ∧ Inv w [(lb, arr .i64 r.head.c.lk, 103), (ob, arr .i64 r.head.c.of, 3), (mb, arr .i64 r.head.c.mn, 3), (cb, #[.slice (some ⟨lb, 0, none⟩) (N + 2) (N + 2), .slice (some ⟨ob, 0, none⟩) N N, .slice (some ⟨mb, 0, none⟩) 2 2], 79), (rc, arr .i64 r.head.cr, 3), (rb, #[.pointer (some ⟨cb, 0, none⟩), .slice (some ⟨rc, 0, none⟩) N N, .int .i64 r.head.q], 45)] w' := by
  have hI1 := Inv.startS h0_ (pw_keys hd)
  have hN := r.hN
  have hq := r.hq
  refine enter (n := 65) Try.func20 rfl rfl rfl ?_
  intro ac1 hf1
  refine code_seq ?_
  refine seq_start (l := [0, 1, 2]) rfl ?_
  refine seq_one (op_val (v := .int .i64 0) hf1 rfl rfl rfl rfl rfl rfl (r_assign rfl) fun ac2 hf2 => ?_)
  refine seq_one (op_val (v := .int .i64 0) hf2 rfl rfl rfl rfl rfl rfl (r_assign rfl) fun ac3 hf3 => ?_)
  refine seq_one (op_val (v := .bool false) hf3 rfl rfl rfl rfl rfl rfl (r_assign rfl) fun ac4 hf4 => ?_)
  refine seq_end ?_
  clear ac1 hf1 ac2 hf2 ac3 hf3
  refine then_normal ?_
  refine code_seq ?_
  refine code_seq ?_
  refine seq_start (l := [0, 1]) rfl ?_
  refine seq_one (op_val (v := .pointer (some ⟨rb, 0, none⟩)) hf4 rfl rfl rfl rfl rfl rfl (r_move rfl) fun ac5 hf5 => ?_)
  refine seq_one (op_pureW hf5 rfl rfl rfl rfl ca_51 (none_walk (hI1.nd6 0 rfl rfl rfl rfl rfl rfl) r (Has.cons (hI1.at 0 rfl) (Has.cons (hI1.at 1 rfl) (Has.cons (hI1.at 2 rfl) (Has.cons (hI1.at 3 rfl) (Has.cons (hI1.at 4 rfl) (Has.cons (hI1.at 5 rfl) Has.nil))))))) hI1 fun ac6 wd1 hI2 hf6 => ?_)
  refine seq_end ?_
  clear ac4 hf4 ac5 hI1 hf5
  refine then_normal ?_
  refine code_if_false hf6 rfl ?_
  refine wp_skip ?_
  refine then_normal ?_
  refine code_seq ?_
  refine seq_start (l := [0, 1, 2, 3, 4, 5, 6, 7, 8, 9, 10, 11]) rfl ?_
  refine seq_one (op_val (v := .pointer (some ⟨rb, 0, none⟩)) hf6 rfl rfl rfl rfl rfl rfl (r_move rfl) fun ac7 hf7 => ?_)
  refine seq_one (op_val (v := .pointer (some ⟨rb, 0, none⟩)) hf7 rfl rfl rfl rfl rfl rfl (r_nilCheck rfl) fun ac8 hf8 => ?_)
  refine seq_one (op_val (v := .pointer (some ⟨rb, 0, none⟩)) hf8 rfl rfl rfl rfl rfl rfl (r_fieldAddr fi_45_0 rfl rfl) fun ac9 hf9 => ?_)
  refine seq_one (op_val (v := .agg #[.pointer (some ⟨cb, 0, none⟩)]) hf9 rfl rfl rfl rfl rfl rfl (r_loadP (sz := 1) ag_43 sz_43 rfl (hI2.at 5 rfl) (leb rfl) (by kernel_rfl)) fun ac10 hf10 => ?_)
  refine seq_one (op_pureW hf10 rfl rfl rfl rfl ca_52 (first_walk (hI2.nd6 0 rfl rfl rfl rfl rfl rfl) r (Has.cons (hI2.at 0 rfl) (Has.cons (hI2.at 1 rfl) (Has.cons (hI2.at 2 rfl) (Has.cons (hI2.at 3 rfl) (Has.cons (hI2.at 4 rfl) (Has.cons (hI2.at 5 rfl) Has.nil))))))) hI2 fun ac11 wd2 hI3 hf11 => ?_)
  refine seq_one (op_val (v := .tuple #[.int .i64 r.li, .int .i64 r.f, .bool r.ok]) hf11 rfl rfl rfl rfl rfl rfl (r_move rfl) fun ac12 hf12 => ?_)
  refine seq_one (op_val (v := .int .i64 r.li) hf12 rfl rfl rfl rfl rfl rfl (r_extract rfl rfl) fun ac13 hf13 => ?_)
  refine seq_one (op_val (v := .int .i64 r.f) hf13 rfl rfl rfl rfl rfl rfl (r_extract rfl rfl) fun ac14 hf14 => ?_)
  refine seq_one (op_val (v := .bool r.ok) hf14 rfl rfl rfl rfl rfl rfl (r_extract rfl rfl) fun ac15 hf15 => ?_)
  refine seq_one (op_val (v := .int .i64 r.li) hf15 rfl rfl rfl rfl rfl rfl (r_assign rfl) fun ac16 hf16 => ?_)
  refine seq_one (op_val (v := .int .i64 r.f) hf16 rfl rfl rfl rfl rfl rfl (r_assign rfl) fun ac17 hf17 => ?_)
  refine seq_one (op_val (v := .bool r.ok) hf17 rfl rfl rfl rfl rfl rfl (r_assign rfl) fun ac18 hf18 => ?_)
  refine seq_end ?_
  clear ac6 hf6 ac7 hf7 ac8 hf8 ac9 hf9 ac10 wd1 hI2 hf10 ac11 hf11 ac12 hf12 ac13 hf13 ac14 hf14 ac15 hf15 ac16 hf16 ac17 hf17
  refine then_normal ?_
  refine code_seq ?_
  refine wp_block ?_
  refine code_loop (α := (Ro N)) (fun (s : (Ro N)) => [(0, .pointer (some ⟨rb, 0, none⟩)), (2, .int .i64 0), (3, .int .i64 0), (4, .bool false), (8, .pointer (some ⟨rb, 0, none⟩)), (9, .bool false), (6, .int .i64 s.f), (7, .bool s.ok)]) (fun (s : (Ro N)) => fun wL => Inv w [(lb, arr .i64 s.c.lk, 103), (ob, arr .i64 s.c.of, 3), (mb, arr .i64 s.c.mn, 3), (cb, #[.slice (some ⟨lb, 0, none⟩) (N + 2) (N + 2), .slice (some ⟨ob, 0, none⟩) N N, .slice (some ⟨mb, 0, none⟩) 2 2], 79), (rc, arr .i64 s.cr, 3), (rb, #[.pointer (some ⟨cb, 0, none⟩), .slice (some ⟨rc, 0, none⟩) N N, .int .i64 s.q], 45)] wL ∧ (s.head = r.head)) (fun (s : (Ro N)) => s.lack) r (hf18.cons 0 rfl (hf18.cons 2 rfl (hf18.cons 3 rfl (hf18.cons 4 rfl (hf18.cons 8 rfl (hf18.cons 9 rfl (hf18.cons 6 rfl (hf18.cons 7 rfl hf18.nil)))))))) ⟨hI3, rfl⟩ ?_
  intro s ac19 wd3 hf19 hL1
  obtain ⟨hI4, hx1⟩ := hL1
  clear ac18 wd2 hf18 hI3
  refine code_seq ?_
  refine code_seq ?_
  refine seq_start (l := [0, 1, 2, 3, 4, 5, 6, 7, 8, 9, 10]) rfl ?_
  refine seq_one (op_val (v := .bool s.ok) hf19 rfl rfl rfl rfl rfl rfl (r_move rfl) fun ac20 hf20 => ?_)
  refine seq_one (op_val (v := .bool s.ok) hf20 rfl rfl rfl rfl rfl rfl (r_move rfl) fun ac21 hf21 => ?_)
  rcases Bool.eq_false_or_eq_true (s.ok : Bool) with g20_1 | g20_1
  · have hf22 := hf21.know 20 (u := .bool true) rfl (congrArg Value.bool g20_1)
    refine seq_one (op_val (v := .pointer (some ⟨rb, 0, none⟩)) hf22 rfl rfl rfl rfl rfl rfl (r_move rfl) fun ac22 hf23 => ?_)
    refine seq_one (op_val (v := .pointer (some ⟨rb, 0, none⟩)) hf23 rfl rfl rfl rfl rfl rfl (r_nilCheck rfl) fun ac23 hf24 => ?_)
    refine seq_one (op_val (v := .pointer (some ⟨rb, 1, none⟩)) hf24 rfl rfl rfl rfl rfl rfl (r_fieldAddr fi_45_1 rfl rfl) fun ac24 hf25 => ?_)
    refine seq_one (op_val (v := .slice (some ⟨rc, 0, none⟩) N N) hf25 rfl rfl rfl rfl rfl rfl (r_load ag_27 rfl (hI4.at 5 rfl) rfl) fun ac25 hf26 => ?_)
    refine seq_one (op_val (v := .int .i64 s.f) hf26 rfl rfl rfl rfl rfl rfl (r_move rfl) fun ac26 hf27 => ?_)
    refine seq_one (op_val (v := .pointer (some ⟨rc, (s.f).toNat, none⟩)) hf27 rfl rfl rfl rfl rfl rfl (r_indexAddrS (i := (s.f).toNat) sl_27 rfl rfl (by have := (Ro.f_in g20_1).2; omega) (by have := (Ro.f_in g20_1).2; omega) (by rw [Nat.mul_one, Nat.zero_add])) fun ac27 hf28 => ?_)
    refine seq_one (op_val (v := .int .i64 (s.cr.getD ((s.f).toNat) 0)) hf28 rfl rfl rfl rfl rfl rfl (r_load ag_3 rfl (hI4.at 4 rfl) (arr_get (Nat.lt_of_lt_of_eq (by have := (Ro.f_in g20_1).2; omega) (Eq.symm s.hl)))) fun ac28 hf29 => ?_)
    refine seq_one (op_val (v := .bool (decide ((s.cr.getD ((s.f).toNat) 0) ≤ 0))) hf29 rfl rfl rfl rfl rfl rfl (r_leq rfl rfl) fun ac29 hf30 => ?_)
    refine seq_one (op_val (v := .bool (decide ((s.cr.getD ((s.f).toNat) 0) ≤ 0))) hf30 rfl rfl rfl rfl rfl rfl (r_pickT rfl rfl) fun ac30 hf31 => ?_)
    refine seq_end ?_
    clear ac19 hf19 ac20 hf20 hf21 ac21 hf22 ac22 hf23 ac23 hf24 ac24 hf25 ac25 hf26 ac26 hf27 ac27 hf28 ac28 hf29 ac29 hf30
    refine then_normal ?_
    refine code_if hf31 rfl (fun c29_2 => ?_) (fun c29_2 => ?_)
    · have hf32 := hf31.know 29 (u := .bool true) rfl (congrArg Value.bool c29_2)
      refine wp_skip ?_
      refine then_normal ?_
      refine wp_block ?_
      refine code_seq ?_
      refine any_start (fun w => Has [(rb, #[.pointer (some ⟨cb, 0, none⟩), .slice (some ⟨rc, 0, none⟩) N N, .int .i64 s.q], 45)] w) follows (Has.drew (Has.cons (hI4.at 5 rfl) Has.nil)) ?_
      have hS1 : Has [(rb, #[.pointer (some ⟨cb, 0, none⟩), .slice (some ⟨rc, 0, none⟩) N N, .int .i64 s.q], 45)] _ := Has.drew (Has.cons (hI4.at 5 rfl) Has.nil)
      have hI5 := hI4.drew
      refine any_val (i := 0) (v := .pointer (some ⟨rb, 0, none⟩)) hf32 rfl rfl rfl rfl rfl rfl (fun _ _ _ h => h) (by kernel_rfl) (by kernel_rfl) (by kernel_rfl) (fun wd3 hS1 => (r_move rfl)) hS1 fun ac31 hf33 => ?_
      refine any_val (i := 1) (v := .pointer (some ⟨rb, 0, none⟩)) hf33 rfl rfl rfl rfl rfl rfl (fun _ _ _ h => h) (by kernel_rfl) (by kernel_rfl) (by kernel_rfl) (fun wd3 hS1 => (r_nilCheck rfl)) hS1 fun ac32 hf34 => ?_
      refine any_val (i := 2) (v := .pointer (some ⟨rb, 1, none⟩)) hf34 rfl rfl rfl rfl rfl rfl (fun _ _ _ h => h) (by kernel_rfl) (by kernel_rfl) (by kernel_rfl) (fun wd3 hS1 => (r_fieldAddr fi_45_1 rfl rfl)) hS1 fun ac33 hf35 => ?_
      refine any_val (i := 3) (v := .slice (some ⟨rc, 0, none⟩) N N) hf35 rfl rfl rfl rfl rfl rfl (fun _ _ _ h => h) (by kernel_rfl) (by kernel_rfl) (by kernel_rfl) (fun wd3 hS1 => (r_load ag_27 rfl (hS1.at 0 rfl) rfl)) hS1 fun ac34 hf36 => ?_
      refine any_val (i := 4) (v := .int .i64 s.f) hf36 rfl rfl rfl rfl rfl rfl (fun _ _ _ h => h) (by kernel_rfl) (by kernel_rfl) (by kernel_rfl) (fun wd3 hS1 => (r_move rfl)) hS1 fun ac35 hf37 => ?_
      refine any_val (i := 5) (v := .pointer (some ⟨rc, (s.f).toNat, none⟩)) hf37 rfl rfl rfl rfl rfl rfl (fun _ _ _ h => h) (by kernel_rfl) (by kernel_rfl) (by kernel_rfl) (fun wd3 hS1 => (r_indexAddrS (i := (s.f).toNat) sl_27 rfl rfl (by have := (Ro.f_in g20_1).2; omega) (by have := (Ro.f_in g20_1).2; omega) (by rw [Nat.mul_one, Nat.zero_add]))) hS1 fun ac36 hf38 => ?_
      refine any_val (i := 7) (v := .pointer (some ⟨rb, 0, none⟩)) hf38 rfl rfl rfl rfl rfl rfl (fun _ _ _ h => h) (by kernel_rfl) (by kernel_rfl) (by kernel_rfl) (fun wd3 hS1 => (r_move rfl)) hS1 fun ac37 hf39 => ?_
      refine any_val (i := 8) (v := .pointer (some ⟨rb, 0, none⟩)) hf39 rfl rfl rfl rfl rfl rfl (fun _ _ _ h => h) (by kernel_rfl) (by kernel_rfl) (by kernel_rfl) (fun wd3 hS1 => (r_nilCheck rfl)) hS1 fun ac38 hf40 => ?_
      refine any_val (i := 9) (v := .pointer (some ⟨rb, 2, none⟩)) hf40 rfl rfl rfl rfl rfl rfl (fun _ _ _ h => h) (by kernel_rfl) (by kernel_rfl) (by kernel_rfl) (fun wd3 hS1 => (r_fieldAddr fi_45_2 rfl rfl)) hS1 fun ac39 hf41 => ?_
      refine any_val (i := 10) (v := .int .i64 s.q) hf41 rfl rfl rfl rfl rfl rfl (fun _ _ _ h => h) (by kernel_rfl) (by kernel_rfl) (by kernel_rfl) (fun wd3 hS1 => (r_load ag_3 rfl (hS1.at 0 rfl) rfl)) hS1 fun ac40 hf42 => ?_
      refine any_one (i := 6) (by kernel_rfl) ?_
      refine op_val (v := .int .i64 (s.cr.getD ((s.f).toNat) 0)) hf42 rfl rfl rfl rfl rfl rfl (r_load ag_3 rfl (hI5.at 4 rfl) (arr_get (Nat.lt_of_lt_of_eq (by have := (Ro.f_in g20_1).2; omega) (Eq.symm s.hl)))) fun ac41 hf43 => ⟨?_, ?_⟩
      · exact (Has.cons (hI5.at 5 rfl) Has.nil)
      have hS2 : Has [(rb, #[.pointer (some ⟨cb, 0, none⟩), .slice (some ⟨rc, 0, none⟩) N N, .int .i64 s.q], 45)] _ := (Has.cons (hI5.at 5 rfl) Has.nil)
      have hdue := (⟨g20_1, of_decide_eq_true c29_2⟩ : s.due)
      refine any_val (i := 11) (v := .int .i64 (s.cd s.f + s.q)) hf43 rfl rfl rfl rfl rfl rfl (fun _ _ _ h => h) (by kernel_rfl) (by kernel_rfl) (by kernel_rfl) (fun wd3 hS2 => (r_add (c := (s.cd s.f + s.q)) rfl rfl (wrap_i64 (x := s.cd s.f + s.q) (by have := Ro.due_b hdue; omega) (by have := Ro.due_b hdue; omega)))) hS2 fun ac42 hf44 => ?_
      refine any_val (i := 12) (v := .pointer (some ⟨rc, (s.f).toNat, none⟩)) hf44 rfl rfl rfl rfl rfl rfl (fun _ _ _ h => h) (by kernel_rfl) (by kernel_rfl) (by kernel_rfl) (fun wd3 hS2 => (r_indexAddrS (i := (s.f).toNat) sl_27 rfl rfl (by have := (Ro.f_in g20_1).2; omega) (by have := (Ro.f_in g20_1).2; omega) (by rw [Nat.mul_one, Nat.zero_add]))) hS2 fun ac43 hf45 => ?_
      refine any_one (i := 13) (by kernel_rfl) ?_
      refine (op_store (cs' := arr .i64 (s.cr.set ((s.f).toNat) (s.cd s.f + s.q))) 4 hf45 rfl rfl rfl rfl rfl sz_3 hI5 rfl (Nat.lt_of_lt_of_eq (by have := (Ro.f_in g20_1).2; omega) (Eq.symm (arr_size s.hl))) arr_set fun wd4 hI6 => ⟨?_, ?_⟩)
      · exact (Has.cons (hI6.at 5 rfl) Has.nil)
      have hI7 : Inv w [(lb, arr .i64 s.c.lk, 103), (ob, arr .i64 s.c.of, 3), (mb, arr .i64 s.c.mn, 3), (cb, #[.slice (some ⟨lb, 0, none⟩) (N + 2) (N + 2), .slice (some ⟨ob, 0, none⟩) N N, .slice (some ⟨mb, 0, none⟩) 2 2], 79), (rc, arr .i64 (s.cr.set ((s.f).toNat) (s.cd s.f + s.q)), 3), (rb, #[.pointer (some ⟨cb, 0, none⟩), .slice (some ⟨rc, 0, none⟩) N N, .int .i64 s.q], 45)] wd4 := hI6
      have hS3 : Has [(rb, #[.pointer (some ⟨cb, 0, none⟩), .slice (some ⟨rc, 0, none⟩) N N, .int .i64 s.q], 45)] _ := (Has.cons (hI7.at 5 rfl) Has.nil)
      refine any_end (by kernel_rfl) ?_
      clear hf31 hI4 ac30 hf32 ac31 hf33 ac32 hf34 ac33 hf35 ac34 hf36 ac35 hf37 ac36 hf38 ac37 hf39 ac38 hf40 ac39 hf41 ac40 hf42 hS1 ac41 hf43 ac42 hf44 wd3 hI5 hI6 hS2 hS3
      refine then_normal ?_
      refine code_seq ?_
      refine seq_start (l := [0, 1, 2]) rfl ?_
      refine seq_one (op_val (v := .pointer (some ⟨rb, 0, none⟩)) hf45 rfl rfl rfl rfl rfl rfl (r_move rfl) fun ac44 hf46 => ?_)
      refine seq_one (op_val (v := .int .i64 s.f) hf46 rfl rfl rfl rfl rfl rfl (r_move rfl) fun ac45 hf47 => ?_)
      refine seq_one (op_call (R := fun v w' => v = .tuple #[] ∧ Inv _ [(lb, arr .i64 (((s.put s.f (s.cd s.f + s.q) (Ro.due_b hdue)).turn s.f).c).lk, 103), (ob, arr .i64 (((s.put s.f (s.cd s.f + s.q) (Ro.due_b hdue)).turn s.f).c).of, 3), (mb, arr .i64 (((s.put s.f (s.cd s.f + s.q) (Ro.due_b hdue)).turn s.f).c).mn, 3), (cb, #[.slice (some ⟨lb, 0, none⟩) (N + 2) (N + 2), .slice (some ⟨ob, 0, none⟩) N N, .slice (some ⟨mb, 0, none⟩) 2 2], 79), (rc, arr .i64 ((s.put s.f (s.cd s.f + s.q) (Ro.due_b hdue)).turn s.f).cr, 3), (rb, #[.pointer (some ⟨cb, 0, none⟩), .slice (some ⟨rc, 0, none⟩) N N, .int .i64 (((s.put s.f (s.cd s.f + s.q) (Ro.due_b hdue)).turn s.f).q)], 45)] w') hf47 rfl rfl rfl rfl ca_53 ((turn_any (hI7.nd6 0 rfl rfl rfl rfl rfl rfl) (s.put s.f (s.cd s.f + s.q) (Ro.due_b hdue)) (Has.cons (hI7.at 0 rfl) (Has.cons (hI7.at 1 rfl) (Has.cons (hI7.at 2 rfl) (Has.cons (hI7.at 3 rfl) (Has.cons (hI7.at 4 rfl) (Has.cons (hI7.at 5 rfl) Has.nil)))))) s.f).mono fun _ _ h => ⟨_, h.1, rfl, h.2⟩) fun ac46 v wd5 hR1 hf48 => ?_)
      obtain ⟨rfl, hR1⟩ := hR1
      have hI8 : Inv w [(lb, arr .i64 (((s.put s.f (s.cd s.f + s.q) (Ro.due_b hdue)).turn s.f).c).lk, 103), (ob, arr .i64 (((s.put s.f (s.cd s.f + s.q) (Ro.due_b hdue)).turn s.f).c).of, 3), (mb, arr .i64 (((s.put s.f (s.cd s.f + s.q) (Ro.due_b hdue)).turn s.f).c).mn, 3), (cb, #[.slice (some ⟨lb, 0, none⟩) (N + 2) (N + 2), .slice (some ⟨ob, 0, none⟩) N N, .slice (some ⟨mb, 0, none⟩) 2 2], 79), (rc, arr .i64 ((s.put s.f (s.cd s.f + s.q) (Ro.due_b hdue)).turn s.f).cr, 3), (rb, #[.pointer (some ⟨cb, 0, none⟩), .slice (some ⟨rc, 0, none⟩) N N, .int .i64 (((s.put s.f (s.cd s.f + s.q) (Ro.due_b hdue)).turn s.f).q)], 45)] _ := Inv.callS (A := []) (S := [(lb, arr .i64 s.c.lk, 103), (ob, arr .i64 s.c.of, 3), (mb, arr .i64 s.c.mn, 3), (cb, #[.slice (some ⟨lb, 0, none⟩) (N + 2) (N + 2), .slice (some ⟨ob, 0, none⟩) N N, .slice (some ⟨mb, 0, none⟩) 2 2], 79), (rc, arr .i64 (s.cr.set ((s.f).toNat) (s.cd s.f + s.q)), 3), (rb, #[.pointer (some ⟨cb, 0, none⟩), .slice (some ⟨rc, 0, none⟩) N N, .int .i64 s.q], 45)]) (S' := [(lb, arr .i64 (((s.put s.f (s.cd s.f + s.q) (Ro.due_b hdue)).turn s.f).c).lk, 103), (ob, arr .i64 (((s.put s.f (s.cd s.f + s.q) (Ro.due_b hdue)).turn s.f).c).of, 3), (mb, arr .i64 (((s.put s.f (s.cd s.f + s.q) (Ro.due_b hdue)).turn s.f).c).mn, 3), (cb, #[.slice (some ⟨lb, 0, none⟩) (N + 2) (N + 2), .slice (some ⟨ob, 0, none⟩) N N, .slice (some ⟨mb, 0, none⟩) 2 2], 79), (rc, arr .i64 ((s.put s.f (s.cd s.f + s.q) (Ro.due_b hdue)).turn s.f).cr, 3), (rb, #[.pointer (some ⟨cb, 0, none⟩), .slice (some ⟨rc, 0, none⟩) N N, .int .i64 (((s.put s.f (s.cd s.f + s.q) (Ro.due_b hdue)).turn s.f).q)], 45)]) (L := []) (N := []) hI7 hR1 rfl (fun _ h => by cases h)
      rw [← Ro.step_eq hdue] at hI8
      refine seq_end ?_
      clear ac43 hf45 ac44 hf46 ac45 wd4 hf47 hI7 hR1
      refine then_normal ?_
      refine seq_start (l := [0, 1, 2, 3, 4, 5, 6, 7, 8, 9, 10]) rfl ?_
      refine seq_one (op_val (v := .pointer (some ⟨rb, 0, none⟩)) hf48 rfl rfl rfl rfl rfl rfl (r_move rfl) fun ac47 hf49 => ?_)
      refine seq_one (op_val (v := .pointer (some ⟨rb, 0, none⟩)) hf49 rfl rfl rfl rfl rfl rfl (r_nilCheck rfl) fun ac48 hf50 => ?_)
      refine seq_one (op_val (v := .pointer (some ⟨rb, 0, none⟩)) hf50 rfl rfl rfl rfl rfl rfl (r_fieldAddr fi_45_0 rfl rfl) fun ac49 hf51 => ?_)
      refine seq_one (op_val (v := .agg #[.pointer (some ⟨cb, 0, none⟩)]) hf51 rfl rfl rfl rfl rfl rfl (r_loadP (sz := 1) ag_43 sz_43 rfl (hI8.at 5 rfl) (leb rfl) (by kernel_rfl)) fun ac50 hf52 => ?_)
      refine seq_one (op_pureW hf52 rfl rfl rfl rfl ca_52 (first_walk (hI8.nd6 0 rfl rfl rfl rfl rfl rfl) s.step (Has.cons (hI8.at 0 rfl) (Has.cons (hI8.at 1 rfl) (Has.cons (hI8.at 2 rfl) (Has.cons (hI8.at 3 rfl) (Has.cons (hI8.at 4 rfl) (Has.cons (hI8.at 5 rfl) Has.nil))))))) hI8 fun ac51 wd6 hI9 hf53 => ?_)
      refine seq_one (op_val (v := .tuple #[.int .i64 s.step.li, .int .i64 s.step.f, .bool s.step.ok]) hf53 rfl rfl rfl rfl rfl rfl (r_move rfl) fun ac52 hf54 => ?_)
      refine seq_one (op_val (v := .int .i64 s.step.li) hf54 rfl rfl rfl rfl rfl rfl (r_extract rfl rfl) fun ac53 hf55 => ?_)
      refine seq_one (op_val (v := .int .i64 s.step.f) hf55 rfl rfl rfl rfl rfl rfl (r_extract rfl rfl) fun ac54 hf56 => ?_)
      refine seq_one (op_val (v := .bool s.step.ok) hf56 rfl rfl rfl rfl rfl rfl (r_extract rfl rfl) fun ac55 hf57 => ?_)
      refine seq_one (op_val (v := .int .i64 s.step.f) hf57 rfl rfl rfl rfl rfl rfl (r_assign rfl) fun ac56 hf58 => ?_)
      refine seq_one (op_val (v := .bool s.step.ok) hf58 rfl rfl rfl rfl rfl rfl (r_assign rfl) fun ac57 hf59 => ?_)
      refine seq_end ?_
      clear ac46 hf48 ac47 hf49 ac48 hf50 ac49 hf51 ac50 wd5 hI8 hf52 ac51 hf53 ac52 hf54 ac53 hf55 ac54 hf56 ac55 hf57 ac56 hf58
      refine block_normal ?_
      refine then_normal ?_
      exact ⟨s.step, (hf59.cons 0 rfl (hf59.cons 2 rfl (hf59.cons 3 rfl (hf59.cons 4 rfl (hf59.cons 8 rfl (hf59.cons 9 rfl (hf59.cons 6 rfl (hf59.cons 7 rfl hf59.nil)))))))), ⟨hI9, ((Ro.head_due hdue).trans hx1)⟩, (Ro.lack_step hdue)⟩
    · have hf60 := hf31.know 29 (u := .bool false) rfl (congrArg Value.bool c29_2)
      refine wp_exit ?_
      refine then_exit ?_
      refine then_exit ?_
      refine block_here ?_
      refine then_normal ?_
      refine code_seq ?_
      refine code_seq ?_
      refine seq_start (l := [0, 1]) rfl ?_
      refine seq_one (op_val (v := .bool s.ok) hf60 rfl rfl rfl rfl rfl rfl (r_move rfl) fun ac58 hf61 => ?_)
      refine seq_one (op_val (v := .bool (!s.ok)) hf61 rfl rfl rfl rfl rfl rfl (r_not rfl) fun ac59 hf62 => ?_)
      refine seq_end ?_
      clear hf31 ac30 hf60 ac58 hf61
      refine then_normal ?_
      have hf63 := hf62.know 56 (u := .bool false) rfl (congrArg Value.bool (by rw [g20_1]; rfl))
      refine code_if_false hf63 rfl ?_
      refine wp_skip ?_
      refine then_normal ?_
      refine code_seq ?_
      refine any_start (fun w => Has [(rb, #[.pointer (some ⟨cb, 0, none⟩), .slice (some ⟨rc, 0, none⟩) N N, .int .i64 s.q], 45)] w) follows (Has.drew (Has.cons (hI4.at 5 rfl) Has.nil)) ?_
      have hS4 : Has [(rb, #[.pointer (some ⟨cb, 0, none⟩), .slice (some ⟨rc, 0, none⟩) N N, .int .i64 s.q], 45)] _ := Has.drew (Has.cons (hI4.at 5 rfl) Has.nil)
      have hI10 := hI4.drew
      refine any_val (i := 0) (v := .int .i64 s.f) hf63 rfl rfl rfl rfl rfl rfl (fun _ _ _ h => h) (by kernel_rfl) (by kernel_rfl) (by kernel_rfl) (fun wd3 hS4 => (r_move rfl)) hS4 fun ac60 hf64 => ?_
      refine any_val (i := 1) (v := .pointer (some ⟨rb, 0, none⟩)) hf64 rfl rfl rfl rfl rfl rfl (fun _ _ _ h => h) (by kernel_rfl) (by kernel_rfl) (by kernel_rfl) (fun wd3 hS4 => (r_move rfl)) hS4 fun ac61 hf65 => ?_
      refine any_val (i := 2) (v := .pointer (some ⟨rb, 0, none⟩)) hf65 rfl rfl rfl rfl rfl rfl (fun _ _ _ h => h) (by kernel_rfl) (by kernel_rfl) (by kernel_rfl) (fun wd3 hS4 => (r_nilCheck rfl)) hS4 fun ac62 hf66 => ?_
      refine any_val (i := 3) (v := .pointer (some ⟨rb, 1, none⟩)) hf66 rfl rfl rfl rfl rfl rfl (fun _ _ _ h => h) (by kernel_rfl) (by kernel_rfl) (by kernel_rfl) (fun wd3 hS4 => (r_fieldAddr fi_45_1 rfl rfl)) hS4 fun ac63 hf67 => ?_
      refine any_val (i := 4) (v := .slice (some ⟨rc, 0, none⟩) N N) hf67 rfl rfl rfl rfl rfl rfl (fun _ _ _ h => h) (by kernel_rfl) (by kernel_rfl) (by kernel_rfl) (fun wd3 hS4 => (r_load ag_27 rfl (hS4.at 0 rfl) rfl)) hS4 fun ac64 hf68 => ?_
      refine any_val (i := 5) (v := .int .i64 s.f) hf68 rfl rfl rfl rfl rfl rfl (fun _ _ _ h => h) (by kernel_rfl) (by kernel_rfl) (by kernel_rfl) (fun wd3 hS4 => (r_move rfl)) hS4 fun ac65 hf69 => ?_
      refine any_val (i := 6) (v := .pointer (some ⟨rc, (s.f).toNat, none⟩)) hf69 rfl rfl rfl rfl rfl rfl (fun _ _ _ h => h) (by kernel_rfl) (by kernel_rfl) (by kernel_rfl) (fun wd3 hS4 => (r_indexAddrS (i := (s.f).toNat) sl_27 rfl rfl (by have := (Ro.f_in g20_1).2; omega) (by have := (Ro.f_in g20_1).2; omega) (by rw [Nat.mul_one, Nat.zero_add]))) hS4 fun ac66 hf70 => ?_
      refine any_val (i := 8) (v := .int .i64 s.f) hf70 rfl rfl rfl rfl rfl rfl (fun _ _ _ h => h) (by kernel_rfl) (by kernel_rfl) (by kernel_rfl) (fun wd3 hS4 => (r_assign rfl)) hS4 fun ac67 hf71 => ?_
      refine any_one (i := 7) (by kernel_rfl) ?_
      refine op_val (v := .int .i64 (s.cr.getD ((s.f).toNat) 0)) hf71 rfl rfl rfl rfl rfl rfl (r_load ag_3 rfl (hI10.at 4 rfl) (arr_get (Nat.lt_of_lt_of_eq (by have := (Ro.f_in g20_1).2; omega) (Eq.symm s.hl)))) fun ac68 hf72 => ⟨?_, ?_⟩
      · exact (Has.cons (hI10.at 5 rfl) Has.nil)
      have hS5 : Has [(rb, #[.pointer (some ⟨cb, 0, none⟩), .slice (some ⟨rc, 0, none⟩) N N, .int .i64 s.q], 45)] _ := (Has.cons (hI10.at 5 rfl) Has.nil)
      refine any_val (i := 9) (v := .int .i64 (s.cr.getD ((s.f).toNat) 0)) hf72 rfl rfl rfl rfl rfl rfl (fun _ _ _ h => h) (by kernel_rfl) (by kernel_rfl) (by kernel_rfl) (fun wd3 hS5 => (r_assign rfl)) hS5 fun ac69 hf73 => ?_
      refine any_val (i := 10) (v := .bool true) hf73 rfl rfl rfl rfl rfl rfl (fun _ _ _ h => h) (by kernel_rfl) (by kernel_rfl) (by kernel_rfl) (fun wd3 hS5 => (r_assign rfl)) hS5 fun ac70 hf74 => ?_
      refine any_end (by kernel_rfl) ?_
      clear hf62 hI4 ac59 hf63 ac60 hf64 ac61 hf65 ac62 hf66 ac63 hf67 ac64 hf68 ac65 hf69 ac66 hf70 ac67 hf71 hS4 ac68 hf72 ac69 hf73 hS5
      refine then_normal ?_
      refine wp_ret ?_
      have e := Ro.head_t hx1 (fun (h : s.due) => of_decide_eq_false c29_2 h.2)
      exact post3 rfl hf74 rfl rfl rfl ⟨by rw [Ro.headC_t e g20_1, e, g20_1]; rfl, by rw [e]; exact hI10⟩
  · have hf75 := hf21.know 20 (u := .bool false) rfl (congrArg Value.bool g20_1)
    refine seq_one (op_skip hf75 rfl rfl rfl rfl fun ac71 hf76 => ?_)
    refine seq_one (op_skip hf76 rfl rfl rfl rfl fun ac72 hf77 => ?_)
    refine seq_one (op_skip hf77 rfl rfl rfl rfl fun ac73 hf78 => ?_)
    refine seq_one (op_skip hf78 rfl rfl rfl rfl fun ac74 hf79 => ?_)
    refine seq_one (op_skip hf79 rfl rfl rfl rfl fun ac75 hf80 => ?_)
    refine seq_one (op_skip hf80 rfl rfl rfl rfl fun ac76 hf81 => ?_)
    refine seq_one (op_skip hf81 rfl rfl rfl rfl fun ac77 hf82 => ?_)
    refine seq_one (op_skip hf82 rfl rfl rfl rfl fun ac78 hf83 => ?_)
    refine seq_one (op_val (v := .bool false) hf83 rfl rfl rfl rfl rfl rfl (r_pickF rfl rfl) fun ac79 hf84 => ?_)
    refine seq_end ?_
    clear ac19 hf19 ac20 hf20 hf21 ac21 hf75 ac71 hf76 ac72 hf77 ac73 hf78 ac74 hf79 ac75 hf80 ac76 hf81 ac77 hf82 ac78 hf83
    refine then_normal ?_
    refine code_if_false hf84 rfl ?_
    refine wp_exit ?_
    refine then_exit ?_
    refine then_exit ?_
    refine block_here ?_
    refine then_normal ?_
    refine code_seq ?_
    refine code_seq ?_
    refine seq_start (l := [0, 1]) rfl ?_
    refine seq_one (op_val (v := .bool s.ok) hf84 rfl rfl rfl rfl rfl rfl (r_move rfl) fun ac80 hf85 => ?_)
    refine seq_one (op_val (v := .bool (!s.ok)) hf85 rfl rfl rfl rfl rfl rfl (r_not rfl) fun ac81 hf86 => ?_)
    refine seq_end ?_
    clear ac79 hf84 ac80 hf85
    refine then_normal ?_
    have hf87 := hf86.know 56 (u := .bool true) rfl (congrArg Value.bool (by rw [g20_1]; rfl))
    refine code_if_true hf87 rfl ?_
    refine code_seq ?_
    refine seq_start (l := [0, 1, 2]) rfl ?_
    refine seq_one (op_val (v := .int .i64 0) hf87 rfl rfl rfl rfl rfl rfl (r_assign rfl) fun ac82 hf88 => ?_)
    refine seq_one (op_val (v := .int .i64 0) hf88 rfl rfl rfl rfl rfl rfl (r_assign rfl) fun ac83 hf89 => ?_)
    refine seq_one (op_val (v := .bool false) hf89 rfl rfl rfl rfl rfl rfl (r_assign rfl) fun ac84 hf90 => ?_)
    refine seq_end ?_
    clear hf86 ac81 hf87 ac82 hf88 ac83 hf89
    refine then_normal ?_
    refine wp_ret ?_
    refine then_ret ?_
    have e := Ro.head_t hx1 (fun (h : s.due) => Bool.false_ne_true ((g20_1).symm.trans h.1))
    exact post3 rfl hf90 rfl rfl rfl ⟨by rw [Ro.headC_f e g20_1, e, g20_1, Ro.f_no g20_1], by rw [e]; exact hI4⟩
set_option maxHeartbeats 8000000 in
theorem set_any {N : Nat} {lb ob mb cb rc rb : Nat} (hd : [lb, ob, mb, cb, rc, rb].Nodup) (r : Ro N) {w : World} (h0_ : Has [(lb, arr .i64 r.c.lk, 103), (ob, arr .i64 r.c.of, 3), (mb, arr .i64 r.c.mn, 3), (cb, #[.slice (some ⟨lb, 0, none⟩) (N + 2) (N + 2), .slice (some ⟨ob, 0, none⟩) N N, .slice (some ⟨mb, 0, none⟩) 2 2], 79), (rc, arr .i64 r.cr, 3), (rb, #[.pointer (some ⟨cb, 0, none⟩), .slice (some ⟨rc, 0, none⟩) N N, .int .i64 r.q], 45)] w) (x : Int) : Calls Try.prog 22 [.pointer (some ⟨rb, 0, none⟩), .int .i64 x].toArray w fun e w' => e = .returned (.int .i64 (r.setE x)) ∧ Inv w [(lb, arr .i64 ((r.set x).c).lk, 103), (ob, arr .i64 ((r.set x).c).of, 3), (mb, arr .i64 ((r.set x).c).mn, 3), (cb, #[.slice (some ⟨lb, 0, none⟩) (N + 2) (N + 2), .slice (some ⟨ob, 0, none⟩) N N, .slice (some ⟨mb, 0, none⟩) 2 2], 79), (rc, arr .i64 (r.set x).cr, 3), (rb, #[.pointer (some ⟨cb, 0, none⟩), .slice (some ⟨rc, 0, none⟩) N N, .int .i64 ((r.set x).q)], 45)] w' := by
  have hI1 := Inv.startS h0_ (pw_keys hd)
  have hN := r.hN
  have hq := r.hq
  refine enter (n := 33) Try.func22 rfl rfl rfl ?_
  intro ac1 hf1
  refine code_seq ?_
  refine seq_start (l := [0]) rfl ?_
  refine seq_one (op_val (v := .int .i64 0) hf1 rfl rfl rfl rfl rfl rfl (r_assign rfl) fun ac2 hf2 => ?_)
  refine seq_end ?_
  clear ac1 hf1
  refine then_normal ?_
  refine code_seq ?_
  refine code_seq ?_
  refine seq_start (l := [0, 1]) rfl ?_
  refine seq_one (op_val (v := .pointer (some ⟨rb, 0, none⟩)) hf2 rfl rfl rfl rfl rfl rfl (r_move rfl) fun ac3 hf3 => ?_)
  refine seq_one (op_pureW hf3 rfl rfl rfl rfl ca_51 (none_walk (hI1.nd6 0 rfl rfl rfl rfl rfl rfl) r (Has.cons (hI1.at 0 rfl) (Has.cons (hI1.at 1 rfl) (Has.cons (hI1.at 2 rfl) (Has.cons (hI1.at 3 rfl) (Has.cons (hI1.at 4 rfl) (Has.cons (hI1.at 5 rfl) Has.nil))))))) hI1 fun ac4 wd1 hI2 hf4 => ?_)
  refine seq_end ?_
  clear ac2 hf2 ac3 hI1 hf3
  refine then_normal ?_
  refine code_if_false hf4 rfl ?_
  refine wp_skip ?_
  refine then_normal ?_
  refine code_seq ?_
  refine seq_start (l := [0, 1, 2, 3, 4, 5, 6, 7, 8, 9, 10, 11]) rfl ?_
  refine seq_one (op_val (v := .pointer (some ⟨rb, 0, none⟩)) hf4 rfl rfl rfl rfl rfl rfl (r_move rfl) fun ac5 hf5 => ?_)
  refine seq_one (op_val (v := .pointer (some ⟨rb, 0, none⟩)) hf5 rfl rfl rfl rfl rfl rfl (r_nilCheck rfl) fun ac6 hf6 => ?_)
  refine seq_one (op_val (v := .pointer (some ⟨rb, 0, none⟩)) hf6 rfl rfl rfl rfl rfl rfl (r_fieldAddr fi_45_0 rfl rfl) fun ac7 hf7 => ?_)
  refine seq_one (op_val (v := .agg #[.pointer (some ⟨cb, 0, none⟩)]) hf7 rfl rfl rfl rfl rfl rfl (r_loadP (sz := 1) ag_43 sz_43 rfl (hI2.at 5 rfl) (leb rfl) (by kernel_rfl)) fun ac8 hf8 => ?_)
  refine seq_one (op_pureW hf8 rfl rfl rfl rfl ca_52 (first_walk (hI2.nd6 0 rfl rfl rfl rfl rfl rfl) r (Has.cons (hI2.at 0 rfl) (Has.cons (hI2.at 1 rfl) (Has.cons (hI2.at 2 rfl) (Has.cons (hI2.at 3 rfl) (Has.cons (hI2.at 4 rfl) (Has.cons (hI2.at 5 rfl) Has.nil))))))) hI2 fun ac9 wd2 hI3 hf9 => ?_)
  refine seq_one (op_val (v := .tuple #[.int .i64 r.li, .int .i64 r.f, .bool r.ok]) hf9 rfl rfl rfl rfl rfl rfl (r_move rfl) fun ac10 hf10 => ?_)
  refine seq_one (op_val (v := .int .i64 r.li) hf10 rfl rfl rfl rfl rfl rfl (r_extract rfl rfl) fun ac11 hf11 => ?_)
  refine seq_one (op_val (v := .int .i64 r.f) hf11 rfl rfl rfl rfl rfl rfl (r_extract rfl rfl) fun ac12 hf12 => ?_)
  refine seq_one (op_val (v := .bool r.ok) hf12 rfl rfl rfl rfl rfl rfl (r_extract rfl rfl) fun ac13 hf13 => ?_)
  refine seq_one (op_val (v := .int .i64 r.li) hf13 rfl rfl rfl rfl rfl rfl (r_assign rfl) fun ac14 hf14 => ?_)
  refine seq_one (op_val (v := .int .i64 r.f) hf14 rfl rfl rfl rfl rfl rfl (r_assign rfl) fun ac15 hf15 => ?_)
  refine seq_one (op_val (v := .bool r.ok) hf15 rfl rfl rfl rfl rfl rfl (r_assign rfl) fun ac16 hf16 => ?_)
  refine seq_end ?_
  clear ac4 hf4 ac5 hf5 ac6 hf6 ac7 hf7 ac8 wd1 hI2 hf8 ac9 hf9 ac10 hf10 ac11 hf11 ac12 hf12 ac13 hf13 ac14 hf14 ac15 hf15
  refine then_normal ?_
  refine code_seq ?_
  refine code_seq ?_
  refine seq_start (l := [0, 1, 2, 3, 4, 5, 6]) rfl ?_
  refine seq_one (op_val (v := .bool r.ok) hf16 rfl rfl rfl rfl rfl rfl (r_move rfl) fun ac17 hf17 => ?_)
  refine seq_one (op_val (v := .bool (!r.ok)) hf17 rfl rfl rfl rfl rfl rfl (r_not rfl) fun ac18 hf18 => ?_)
  refine seq_one (op_val (v := .bool (!r.ok)) hf18 rfl rfl rfl rfl rfl rfl (r_move rfl) fun ac19 hf19 => ?_)
  rcases Bool.eq_false_or_eq_true (!r.ok : Bool) with g21_1 | g21_1
  · have hf20 := hf19.know 21 (u := .bool true) rfl (congrArg Value.bool g21_1)
    refine seq_one (op_skip hf20 rfl rfl rfl rfl fun ac20 hf21 => ?_)
    refine seq_one (op_skip hf21 rfl rfl rfl rfl fun ac21 hf22 => ?_)
    refine seq_one (op_skip hf22 rfl rfl rfl rfl fun ac22 hf23 => ?_)
    refine seq_one (op_val (v := .bool true) hf23 rfl rfl rfl rfl rfl rfl (r_pickT rfl rfl) fun ac23 hf24 => ?_)
    refine seq_end ?_
    clear ac16 hf16 ac17 hf17 ac18 hf18 hf19 ac19 hf20 ac20 hf21 ac21 hf22 ac22 hf23
    refine then_normal ?_
    refine code_if_true hf24 rfl ?_
    refine code_seq ?_
    refine seq_start (l := [0]) rfl ?_
    refine seq_one (op_val (v := .int .i64 2) hf24 rfl rfl rfl rfl rfl rfl (r_assign rfl) fun ac24 hf25 => ?_)
    refine seq_end ?_
    clear ac23 hf24
    refine then_normal ?_
    refine wp_ret ?_
    refine then_ret ?_
    have ho : r.ok = false := by simpa using g21_1
    exact post1 rfl hf25 rfl ⟨by unfold Ro.setE; rw [ho]; rfl, by rw [Ro.set_no (fun h => by rw [ho] at h; cases h.1)]; exact hI3⟩
  · have hf26 := hf19.know 21 (u := .bool false) rfl (congrArg Value.bool g21_1)
    refine seq_one (op_val (v := .int .i64 x) hf26 rfl rfl rfl rfl rfl rfl (r_move rfl) fun ac25 hf27 => ?_)
    refine seq_one (op_pure hf27 rfl rfl rfl rfl ca_54 may_pur hI3 fun ac26 wd3 hI4 hf28 => ?_)
    refine seq_one (op_val (v := .bool (!(mayB x))) hf28 rfl rfl rfl rfl rfl rfl (r_not rfl) fun ac27 hf29 => ?_)
    refine seq_one (op_val (v := .bool (!(mayB x))) hf29 rfl rfl rfl rfl rfl rfl (r_pickF rfl rfl) fun ac28 hf30 => ?_)
    refine seq_end ?_
    clear ac16 hf16 ac17 hf17 ac18 hf18 hf19 ac19 hf26 ac25 wd2 hI3 hf27 ac26 hf28 ac27 hf29
    refine then_normal ?_
    refine code_if hf30 rfl (fun c25_2 => ?_) (fun c25_2 => ?_)
    · have hf31 := hf30.know 25 (u := .bool true) rfl (congrArg Value.bool c25_2)
      refine code_seq ?_
      refine seq_start (l := [0]) rfl ?_
      refine seq_one (op_val (v := .int .i64 2) hf31 rfl rfl rfl rfl rfl rfl (r_assign rfl) fun ac29 hf32 => ?_)
      refine seq_end ?_
      clear hf30 ac28 hf31
      refine then_normal ?_
      refine wp_ret ?_
      refine then_ret ?_
      have hm : mayB x = false := by simpa using c25_2
      exact post1 rfl hf32 rfl ⟨by unfold Ro.setE; rw [hm, Bool.and_false]; rfl, by rw [Ro.set_no (fun h => by rw [hm] at h; cases h.2)]; exact hI4⟩
    · have hf33 := hf30.know 25 (u := .bool false) rfl (congrArg Value.bool c25_2)
      refine wp_skip ?_
      refine then_normal ?_
      refine code_seq ?_
      refine seq_start (l := [0, 1, 2, 3, 4, 5, 6, 7]) rfl ?_
      refine seq_one (op_val (v := .pointer (some ⟨rb, 0, none⟩)) hf33 rfl rfl rfl rfl rfl rfl (r_move rfl) fun ac30 hf34 => ?_)
      refine seq_one (op_val (v := .pointer (some ⟨rb, 0, none⟩)) hf34 rfl rfl rfl rfl rfl rfl (r_nilCheck rfl) fun ac31 hf35 => ?_)
      refine seq_one (op_val (v := .pointer (some ⟨rb, 1, none⟩)) hf35 rfl rfl rfl rfl rfl rfl (r_fieldAddr fi_45_1 rfl rfl) fun ac32 hf36 => ?_)
      refine seq_one (op_val (v := .slice (some ⟨rc, 0, none⟩) N N) hf36 rfl rfl rfl rfl rfl rfl (r_load ag_27 rfl (hI4.at 5 rfl) rfl) fun ac33 hf37 => ?_)
      refine seq_one (op_val (v := .int .i64 r.f) hf37 rfl rfl rfl rfl rfl rfl (r_move rfl) fun ac34 hf38 => ?_)
      refine seq_one (op_val (v := .int .i64 x) hf38 rfl rfl rfl rfl rfl rfl (r_move rfl) fun ac35 hf39 => ?_)
      refine seq_one (op_val (v := .pointer (some ⟨rc, (r.f).toNat, none⟩)) hf39 rfl rfl rfl rfl rfl rfl (r_indexAddrS (i := (r.f).toNat) sl_27 rfl rfl (by have := (Ro.f_in (r := r) (by simpa using g21_1)).2; omega) (by have := (Ro.f_in (r := r) (by simpa using g21_1)).2; omega) (by rw [Nat.mul_one, Nat.zero_add])) fun ac36 hf40 => ?_)
      refine seq_one (op_store (cs' := arr .i64 (r.cr.set ((r.f).toNat) x)) 4 hf40 rfl rfl rfl rfl rfl sz_3 hI4 rfl (Nat.lt_of_lt_of_eq (by have := (Ro.f_in (r := r) (by simpa using g21_1)).2; omega) (Eq.symm (arr_size r.hl))) arr_set fun wd4 hI5 => ?_)
      have hI6 : Inv w [(lb, arr .i64 r.c.lk, 103), (ob, arr .i64 r.c.of, 3), (mb, arr .i64 r.c.mn, 3), (cb, #[.slice (some ⟨lb, 0, none⟩) (N + 2) (N + 2), .slice (some ⟨ob, 0, none⟩) N N, .slice (some ⟨mb, 0, none⟩) 2 2], 79), (rc, arr .i64 (r.cr.set ((r.f).toNat) x), 3), (rb, #[.pointer (some ⟨cb, 0, none⟩), .slice (some ⟨rc, 0, none⟩) N N, .int .i64 r.q], 45)] wd4 := hI5
      refine seq_end ?_
      clear hf30 ac28 hf33 ac30 hf34 ac31 hf35 ac32 hf36 ac33 hf37 ac34 hf38 ac35 hf39 wd3 hI4 hI5
      refine then_normal ?_
      refine code_seq ?_
      refine seq_start (l := [0]) rfl ?_
      refine seq_one (op_val (v := .int .i64 0) hf40 rfl rfl rfl rfl rfl rfl (r_assign rfl) fun ac37 hf41 => ?_)
      refine seq_end ?_
      clear ac36 hf40
      refine then_normal ?_
      refine wp_ret ?_
      have ho : r.ok = true := by simpa using g21_1
      have hm : mayB x = true := by simpa using c25_2
      exact post1 rfl hf41 rfl ⟨by unfold Ro.setE; rw [ho, hm]; rfl, by rw [Ro.set_eq ⟨ho, hm⟩]; exact hI6⟩
set_option maxHeartbeats 8000000 in
theorem leave_any {N : Nat} {lb ob mb cb rc rb : Nat} (hd : [lb, ob, mb, cb, rc, rb].Nodup) (r : Ro N) {w : World} (h0_ : Has [(lb, arr .i64 r.c.lk, 103), (ob, arr .i64 r.c.of, 3), (mb, arr .i64 r.c.mn, 3), (cb, #[.slice (some ⟨lb, 0, none⟩) (N + 2) (N + 2), .slice (some ⟨ob, 0, none⟩) N N, .slice (some ⟨mb, 0, none⟩) 2 2], 79), (rc, arr .i64 r.cr, 3), (rb, #[.pointer (some ⟨cb, 0, none⟩), .slice (some ⟨rc, 0, none⟩) N N, .int .i64 r.q], 45)] w)  : Calls Try.prog 18 [.pointer (some ⟨rb, 0, none⟩)].toArray w fun e w' => e = .returned (.tuple #[.int .i64 r.f, .int .i64 r.leaveC, .bool r.ok]) ∧ Inv w [(lb, arr .i64 r.leave.c.lk, 103), (ob, arr .i64 r.leave.c.of, 3), (mb, arr .i64 r.leave.c.mn, 3), (cb, #[.slice (some ⟨lb, 0, none⟩) (N + 2) (N + 2), .slice (some ⟨ob, 0, none⟩) N N, .slice (some ⟨mb, 0, none⟩) 2 2], 79), (rc, arr .i64 r.leave.cr, 3), (rb, #[.pointer (some ⟨cb, 0, none⟩), .slice (some ⟨rc, 0, none⟩) N N, .int .i64 r.leave.q], 45)] w' := by
  have hI1 := Inv.startS h0_ (pw_keys hd)
  have hN := r.hN
  have hq := r.hq
  refine enter (n := 39) Try.func18 rfl rfl rfl ?_
  intro ac1 hf1
  refine code_seq ?_
  refine seq_start (l := [0, 1, 2]) rfl ?_
  refine seq_one (op_val (v := .int .i64 0) hf1 rfl rfl rfl rfl rfl rfl (r_assign rfl) fun ac2 hf2 => ?_)
  refine seq_one (op_val (v := .int .i64 0) hf2 rfl rfl rfl rfl rfl rfl (r_assign rfl) fun ac3 hf3 => ?_)
  refine seq_one (op_val (v := .bool false) hf3 rfl rfl rfl rfl rfl rfl (r_assign rfl) fun ac4 hf4 => ?_)
  refine seq_end ?_
  clear ac1 hf1 ac2 hf2 ac3 hf3
  refine then_normal ?_
  refine code_seq ?_
  refine code_seq ?_
  refine seq_start (l := [0, 1]) rfl ?_
  refine seq_one (op_val (v := .pointer (some ⟨rb, 0, none⟩)) hf4 rfl rfl rfl rfl rfl rfl (r_move rfl) fun ac5 hf5 => ?_)
  refine seq_one (op_pureW hf5 rfl rfl rfl rfl ca_51 (none_walk (hI1.nd6 0 rfl rfl rfl rfl rfl rfl) r (Has.cons (hI1.at 0 rfl) (Has.cons (hI1.at 1 rfl) (Has.cons (hI1.at 2 rfl) (Has.cons (hI1.at 3 rfl) (Has.cons (hI1.at 4 rfl) (Has.cons (hI1.at 5 rfl) Has.nil))))))) hI1 fun ac6 wd1 hI2 hf6 => ?_)
  refine seq_end ?_
  clear ac4 hf4 ac5 hI1 hf5
  refine then_normal ?_
  refine code_if_false hf6 rfl ?_
  refine wp_skip ?_
  refine then_normal ?_
  refine code_seq ?_
  refine seq_start (l := [0, 1, 2, 3, 4, 5, 6, 7, 8, 9, 10, 11]) rfl ?_
  refine seq_one (op_val (v := .pointer (some ⟨rb, 0, none⟩)) hf6 rfl rfl rfl rfl rfl rfl (r_move rfl) fun ac7 hf7 => ?_)
  refine seq_one (op_val (v := .pointer (some ⟨rb, 0, none⟩)) hf7 rfl rfl rfl rfl rfl rfl (r_nilCheck rfl) fun ac8 hf8 => ?_)
  refine seq_one (op_val (v := .pointer (some ⟨rb, 0, none⟩)) hf8 rfl rfl rfl rfl rfl rfl (r_fieldAddr fi_45_0 rfl rfl) fun ac9 hf9 => ?_)
  refine seq_one (op_val (v := .agg #[.pointer (some ⟨cb, 0, none⟩)]) hf9 rfl rfl rfl rfl rfl rfl (r_loadP (sz := 1) ag_43 sz_43 rfl (hI2.at 5 rfl) (leb rfl) (by kernel_rfl)) fun ac10 hf10 => ?_)
  refine seq_one (op_pureW hf10 rfl rfl rfl rfl ca_52 (first_walk (hI2.nd6 0 rfl rfl rfl rfl rfl rfl) r (Has.cons (hI2.at 0 rfl) (Has.cons (hI2.at 1 rfl) (Has.cons (hI2.at 2 rfl) (Has.cons (hI2.at 3 rfl) (Has.cons (hI2.at 4 rfl) (Has.cons (hI2.at 5 rfl) Has.nil))))))) hI2 fun ac11 wd2 hI3 hf11 => ?_)
  refine seq_one (op_val (v := .tuple #[.int .i64 r.li, .int .i64 r.f, .bool r.ok]) hf11 rfl rfl rfl rfl rfl rfl (r_move rfl) fun ac12 hf12 => ?_)
  refine seq_one (op_val (v := .int .i64 r.li) hf12 rfl rfl rfl rfl rfl rfl (r_extract rfl rfl) fun ac13 hf13 => ?_)
  refine seq_one (op_val (v := .int .i64 r.f) hf13 rfl rfl rfl rfl rfl rfl (r_extract rfl rfl) fun ac14 hf14 => ?_)
  refine seq_one (op_val (v := .bool r.ok) hf14 rfl rfl rfl rfl rfl rfl (r_extract rfl rfl) fun ac15 hf15 => ?_)
  refine seq_one (op_val (v := .int .i64 r.li) hf15 rfl rfl rfl rfl rfl rfl (r_assign rfl) fun ac16 hf16 => ?_)
  refine seq_one (op_val (v := .int .i64 r.f) hf16 rfl rfl rfl rfl rfl rfl (r_assign rfl) fun ac17 hf17 => ?_)
  refine seq_one (op_val (v := .bool r.ok) hf17 rfl rfl rfl rfl rfl rfl (r_assign rfl) fun ac18 hf18 => ?_)
  refine seq_end ?_
  clear ac6 hf6 ac7 hf7 ac8 hf8 ac9 hf9 ac10 wd1 hI2 hf10 ac11 hf11 ac12 hf12 ac13 hf13 ac14 hf14 ac15 hf15 ac16 hf16 ac17 hf17
  refine then_normal ?_
  refine code_seq ?_
  refine code_seq ?_
  refine seq_start (l := [0, 1, 2, 3, 4, 5, 6, 7, 8, 9, 10, 11]) rfl ?_
  refine seq_one (op_val (v := .bool r.ok) hf18 rfl rfl rfl rfl rfl rfl (r_move rfl) fun ac19 hf19 => ?_)
  refine seq_one (op_val (v := .bool (!r.ok)) hf19 rfl rfl rfl rfl rfl rfl (r_not rfl) fun ac20 hf20 => ?_)
  refine seq_one (op_val (v := .bool (!r.ok)) hf20 rfl rfl rfl rfl rfl rfl (r_move rfl) fun ac21 hf21 => ?_)
  rcases Bool.eq_false_or_eq_true (!r.ok : Bool) with g21_1 | g21_1
  · have hf22 := hf21.know 21 (u := .bool true) rfl (congrArg Value.bool g21_1)
    refine seq_one (op_skip hf22 rfl rfl rfl rfl fun ac22 hf23 => ?_)
    refine seq_one (op_skip hf23 rfl rfl rfl rfl fun ac23 hf24 => ?_)
    refine seq_one (op_skip hf24 rfl rfl rfl rfl fun ac24 hf25 => ?_)
    refine seq_one (op_skip hf25 rfl rfl rfl rfl fun ac25 hf26 => ?_)
    refine seq_one (op_skip hf26 rfl rfl rfl rfl fun ac26 hf27 => ?_)
    refine seq_one (op_skip hf27 rfl rfl rfl rfl fun ac27 hf28 => ?_)
    refine seq_one (op_skip hf28 rfl rfl rfl rfl fun ac28 hf29 => ?_)
    refine seq_one (op_skip hf29 rfl rfl rfl rfl fun ac29 hf30 => ?_)
    refine seq_one (op_val (v := .bool true) hf30 rfl rfl rfl rfl rfl rfl (r_pickT rfl rfl) fun ac30 hf31 => ?_)
    refine seq_end ?_
    clear ac18 hf18 ac19 hf19 ac20 hf20 hf21 ac21 hf22 ac22 hf23 ac23 hf24 ac24 hf25 ac25 hf26 ac26 hf27 ac27 hf28 ac28 hf29 ac29 hf30
    refine then_normal ?_
    refine code_if_true hf31 rfl ?_
    refine code_seq ?_
    refine seq_start (l := [0, 1, 2]) rfl ?_
    refine seq_one (op_val (v := .int .i64 0) hf31 rfl rfl rfl rfl rfl rfl (r_assign rfl) fun ac31 hf32 => ?_)
    refine seq_one (op_val (v := .int .i64 0) hf32 rfl rfl rfl rfl rfl rfl (r_assign rfl) fun ac32 hf33 => ?_)
    refine seq_one (op_val (v := .bool false) hf33 rfl rfl rfl rfl rfl rfl (r_assign rfl) fun ac33 hf34 => ?_)
    refine seq_end ?_
    clear ac30 hf31 ac31 hf32 ac32 hf33
    refine then_normal ?_
    refine wp_ret ?_
    refine then_ret ?_
    have ho : r.ok = false := by simpa using g21_1
    exact post3 rfl hf34 rfl rfl rfl ⟨by rw [(Ro.leave_f ho).2, ho, Ro.f_no ho], by rw [(Ro.leave_f ho).1]; exact hI3⟩
  · have hf35 := hf21.know 21 (u := .bool false) rfl (congrArg Value.bool g21_1)
    refine seq_one (op_val (v := .pointer (some ⟨rb, 0, none⟩)) hf35 rfl rfl rfl rfl rfl rfl (r_move rfl) fun ac34 hf36 => ?_)
    refine seq_one (op_val (v := .pointer (some ⟨rb, 0, none⟩)) hf36 rfl rfl rfl rfl rfl rfl (r_nilCheck rfl) fun ac35 hf37 => ?_)
    refine seq_one (op_val (v := .pointer (some ⟨rb, 0, none⟩)) hf37 rfl rfl rfl rfl rfl rfl (r_fieldAddr fi_45_0 rfl rfl) fun ac36 hf38 => ?_)
    refine seq_one (op_val (v := .pointer (some ⟨rb, 0, none⟩)) hf38 rfl rfl rfl rfl rfl rfl (r_fieldAddr fi_43_0 rfl rfl) fun ac37 hf39 => ?_)
    refine seq_one (op_val (v := .pointer (some ⟨cb, 0, none⟩)) hf39 rfl rfl rfl rfl rfl rfl (r_load ag_41 rfl (hI3.at 5 rfl) rfl) fun ac38 hf40 => ?_)
    refine seq_one (op_val (v := .int .i64 r.f) hf40 rfl rfl rfl rfl rfl rfl (r_move rfl) fun ac39 hf41 => ?_)
    refine seq_one (op_call (R := fun v w' => v = .bool (r.c.inn r.f) ∧ Inv _ [(lb, arr .i64 (r.c.drop r.f).lk, 103), (ob, arr .i64 (r.c.drop r.f).of, 3), (mb, arr .i64 (r.c.drop r.f).mn, 3), (cb, #[.slice (some ⟨lb, 0, none⟩) (N + 2) (N + 2), .slice (some ⟨ob, 0, none⟩) N N, .slice (some ⟨mb, 0, none⟩) 2 2], 79)] w') hf41 rfl rfl rfl rfl ca_32 ((drop_any (hI3.nd 0 rfl rfl rfl rfl) r.c (Has.cons (hI3.at 0 rfl) (Has.cons (hI3.at 1 rfl) (Has.cons (hI3.at 2 rfl) (Has.cons (hI3.at 3 rfl) Has.nil)))) r.f).mono fun _ _ h => ⟨_, h.1, rfl, h.2⟩) fun ac40 v wd3 hR1 hf42 => ?_)
    obtain ⟨rfl, hR1⟩ := hR1
    have hI4 : Inv w [(lb, arr .i64 (r.c.drop r.f).lk, 103), (ob, arr .i64 (r.c.drop r.f).of, 3), (mb, arr .i64 (r.c.drop r.f).mn, 3), (cb, #[.slice (some ⟨lb, 0, none⟩) (N + 2) (N + 2), .slice (some ⟨ob, 0, none⟩) N N, .slice (some ⟨mb, 0, none⟩) 2 2], 79), (rc, arr .i64 r.cr, 3), (rb, #[.pointer (some ⟨cb, 0, none⟩), .slice (some ⟨rc, 0, none⟩) N N, .int .i64 r.q], 45)] _ := Inv.callS (A := []) (S := [(lb, arr .i64 r.c.lk, 103), (ob, arr .i64 r.c.of, 3), (mb, arr .i64 r.c.mn, 3), (cb, #[.slice (some ⟨lb, 0, none⟩) (N + 2) (N + 2), .slice (some ⟨ob, 0, none⟩) N N, .slice (some ⟨mb, 0, none⟩) 2 2], 79)]) (S' := [(lb, arr .i64 (r.c.drop r.f).lk, 103), (ob, arr .i64 (r.c.drop r.f).of, 3), (mb, arr .i64 (r.c.drop r.f).mn, 3), (cb, #[.slice (some ⟨lb, 0, none⟩) (N + 2) (N + 2), .slice (some ⟨ob, 0, none⟩) N N, .slice (some ⟨mb, 0, none⟩) 2 2], 79)]) (L := [(rc, arr .i64 r.cr, 3), (rb, #[.pointer (some ⟨cb, 0, none⟩), .slice (some ⟨rc, 0, none⟩) N N, .int .i64 r.q], 45)]) (N := []) hI3 hR1 rfl (fun _ h => by cases h)
    refine seq_one (op_val (v := .bool (!(r.c.inn r.f))) hf42 rfl rfl rfl rfl rfl rfl (r_not rfl) fun ac41 hf43 => ?_)
    refine seq_one (op_val (v := .bool (!(r.c.inn r.f))) hf43 rfl rfl rfl rfl rfl rfl (r_pickF rfl rfl) fun ac42 hf44 => ?_)
    refine seq_end ?_
    clear ac18 hf18 ac19 hf19 ac20 hf20 hf21 ac21 hf35 ac34 hf36 ac35 hf37 ac36 hf38 ac37 hf39 ac38 hf40 ac39 wd2 hf41 hI3 hR1 ac40 hf42 ac41 hf43
    refine then_normal ?_
    have hf45 := hf44.know 30 (u := .bool false) rfl (congrArg Value.bool (by rw [(Ro.f_in (r := r) (by simpa using g21_1)).1]; rfl))
    refine code_if_false hf45 rfl ?_
    refine wp_skip ?_
    refine then_normal ?_
    refine code_seq ?_
    refine any_start (fun w => Has [(rb, #[.pointer (some ⟨cb, 0, none⟩), .slice (some ⟨rc, 0, none⟩) N N, .int .i64 r.q], 45)] w) follows (Has.drew (Has.cons (hI4.at 5 rfl) Has.nil)) ?_
    have hS1 : Has [(rb, #[.pointer (some ⟨cb, 0, none⟩), .slice (some ⟨rc, 0, none⟩) N N, .int .i64 r.q], 45)] _ := Has.drew (Has.cons (hI4.at 5 rfl) Has.nil)
    have hI5 := hI4.drew
    refine any_val (i := 0) (v := .int .i64 r.f) hf45 rfl rfl rfl rfl rfl rfl (fun _ _ _ h => h) (by kernel_rfl) (by kernel_rfl) (by kernel_rfl) (fun wd3 hS1 => (r_move rfl)) hS1 fun ac43 hf46 => ?_
    refine any_val (i := 1) (v := .pointer (some ⟨rb, 0, none⟩)) hf46 rfl rfl rfl rfl rfl rfl (fun _ _ _ h => h) (by kernel_rfl) (by kernel_rfl) (by kernel_rfl) (fun wd3 hS1 => (r_move rfl)) hS1 fun ac44 hf47 => ?_
    refine any_val (i := 2) (v := .pointer (some ⟨rb, 0, none⟩)) hf47 rfl rfl rfl rfl rfl rfl (fun _ _ _ h => h) (by kernel_rfl) (by kernel_rfl) (by kernel_rfl) (fun wd3 hS1 => (r_nilCheck rfl)) hS1 fun ac45 hf48 => ?_
    refine any_val (i := 3) (v := .pointer (some ⟨rb, 1, none⟩)) hf48 rfl rfl rfl rfl rfl rfl (fun _ _ _ h => h) (by kernel_rfl) (by kernel_rfl) (by kernel_rfl) (fun wd3 hS1 => (r_fieldAddr fi_45_1 rfl rfl)) hS1 fun ac46 hf49 => ?_
    refine any_val (i := 4) (v := .slice (some ⟨rc, 0, none⟩) N N) hf49 rfl rfl rfl rfl rfl rfl (fun _ _ _ h => h) (by kernel_rfl) (by kernel_rfl) (by kernel_rfl) (fun wd3 hS1 => (r_load ag_27 rfl (hS1.at 0 rfl) rfl)) hS1 fun ac47 hf50 => ?_
    refine any_val (i := 5) (v := .int .i64 r.f) hf50 rfl rfl rfl rfl rfl rfl (fun _ _ _ h => h) (by kernel_rfl) (by kernel_rfl) (by kernel_rfl) (fun wd3 hS1 => (r_move rfl)) hS1 fun ac48 hf51 => ?_
    refine any_val (i := 6) (v := .pointer (some ⟨rc, (r.f).toNat, none⟩)) hf51 rfl rfl rfl rfl rfl rfl (fun _ _ _ h => h) (by kernel_rfl) (by kernel_rfl) (by kernel_rfl) (fun wd3 hS1 => (r_indexAddrS (i := (r.f).toNat) sl_27 rfl rfl (by have := (Ro.f_in (r := r) (by simpa using g21_1)).2; omega) (by have := (Ro.f_in (r := r) (by simpa using g21_1)).2; omega) (by rw [Nat.mul_one, Nat.zero_add]))) hS1 fun ac49 hf52 => ?_
    refine any_val (i := 8) (v := .int .i64 r.f) hf52 rfl rfl rfl rfl rfl rfl (fun _ _ _ h => h) (by kernel_rfl) (by kernel_rfl) (by kernel_rfl) (fun wd3 hS1 => (r_assign rfl)) hS1 fun ac50 hf53 => ?_
    refine any_one (i := 7) (by kernel_rfl) ?_
    refine op_val (v := .int .i64 (r.cr.getD ((r.f).toNat) 0)) hf53 rfl rfl rfl rfl rfl rfl (r_load ag_3 rfl (hI5.at 4 rfl) (arr_get (Nat.lt_of_lt_of_eq (by have := (Ro.f_in (r := r) (by simpa using g21_1)).2; omega) (Eq.symm r.hl)))) fun ac51 hf54 => ⟨?_, ?_⟩
    · exact (Has.cons (hI5.at 5 rfl) Has.nil)
    have hS2 : Has [(rb, #[.pointer (some ⟨cb, 0, none⟩), .slice (some ⟨rc, 0, none⟩) N N, .int .i64 r.q], 45)] _ := (Has.cons (hI5.at 5 rfl) Has.nil)
    refine any_val (i := 9) (v := .int .i64 (r.cr.getD ((r.f).toNat) 0)) hf54 rfl rfl rfl rfl rfl rfl (fun _ _ _ h => h) (by kernel_rfl) (by kernel_rfl) (by kernel_rfl) (fun wd3 hS2 => (r_assign rfl)) hS2 fun ac52 hf55 => ?_
    refine any_val (i := 10) (v := .bool true) hf55 rfl rfl rfl rfl rfl rfl (fun _ _ _ h => h) (by kernel_rfl) (by kernel_rfl) (by kernel_rfl) (fun wd3 hS2 => (r_assign rfl)) hS2 fun ac53 hf56 => ?_
    refine any_end (by kernel_rfl) ?_
    clear hf44 hI4 ac42 hf45 ac43 hf46 ac44 hf47 ac45 hf48 ac46 hf49 ac47 hf50 ac48 hf51 ac49 hf52 ac50 hf53 hS1 ac51 hf54 ac52 hf55 hS2
    refine then_normal ?_
    refine wp_ret ?_
    have ho : r.ok = true := by simpa using g21_1
    exact post3 rfl hf56 rfl rfl rfl ⟨by rw [(Ro.leave_t ho).2, ho]; rfl, by rw [(Ro.leave_t ho).1]; exact hI5⟩
set_option maxHeartbeats 8000000 in
theorem idle_any {N : Nat} {lb ob mb cb rc rb : Nat} (hd : [lb, ob, mb, cb, rc, rb].Nodup) (r : Ro N) {w : World} (h0_ : Has [(lb, arr .i64 r.c.lk, 103), (ob, arr .i64 r.c.of, 3), (mb, arr .i64 r.c.mn, 3), (cb, #[.slice (some ⟨lb, 0, none⟩) (N + 2) (N + 2), .slice (some ⟨ob, 0, none⟩) N N, .slice (some ⟨mb, 0, none⟩) 2 2], 79), (rc, arr .i64 r.cr, 3), (rb, #[.pointer (some ⟨cb, 0, none⟩), .slice (some ⟨rc, 0, none⟩) N N, .int .i64 r.q], 45)] w)  : Calls Try.prog 21 [.pointer (some ⟨rb, 0, none⟩)].toArray w fun e w' => e = .returned (.tuple #[.int .i64 r.f, .bool r.idleL, .bool r.ok]) ∧ Inv w [(lb, arr .i64 r.idle.c.lk, 103), (ob, arr .i64 r.idle.c.of, 3), (mb, arr .i64 r.idle.c.mn, 3), (cb, #[.slice (some ⟨lb, 0, none⟩) (N + 2) (N + 2), .slice (some ⟨ob, 0, none⟩) N N, .slice (some ⟨mb, 0, none⟩) 2 2], 79), (rc, arr .i64 r.idle.cr, 3), (rb, #[.pointer (some ⟨cb, 0, none⟩), .slice (some ⟨rc, 0, none⟩) N N, .int .i64 r.idle.q], 45)] w' := by
  have hI1 := Inv.startS h0_ (pw_keys hd)
  have hN := r.hN
  have hq := r.hq
  refine enter (n := 37) Try.func21 rfl rfl rfl ?_
  intro ac1 hf1
  refine code_seq ?_
  refine seq_start (l := [0, 1, 2]) rfl ?_
  refine seq_one (op_val (v := .int .i64 0) hf1 rfl rfl rfl rfl rfl rfl (r_assign rfl) fun ac2 hf2 => ?_)
  refine seq_one (op_val (v := .bool false) hf2 rfl rfl rfl rfl rfl rfl (r_assign rfl) fun ac3 hf3 => ?_)
  refine seq_one (op_val (v := .bool false) hf3 rfl rfl rfl rfl rfl rfl (r_assign rfl) fun ac4 hf4 => ?_)
  refine seq_end ?_
  clear ac1 hf1 ac2 hf2 ac3 hf3
  refine then_normal ?_
  refine code_seq ?_
  refine code_seq ?_
  refine seq_start (l := [0, 1]) rfl ?_
  refine seq_one (op_val (v := .pointer (some ⟨rb, 0, none⟩)) hf4 rfl rfl rfl rfl rfl rfl (r_move rfl) fun ac5 hf5 => ?_)
  refine seq_one (op_pureW hf5 rfl rfl rfl rfl ca_51 (none_walk (hI1.nd6 0 rfl rfl rfl rfl rfl rfl) r (Has.cons (hI1.at 0 rfl) (Has.cons (hI1.at 1 rfl) (Has.cons (hI1.at 2 rfl) (Has.cons (hI1.at 3 rfl) (Has.cons (hI1.at 4 rfl) (Has.cons (hI1.at 5 rfl) Has.nil))))))) hI1 fun ac6 wd1 hI2 hf6 => ?_)
  refine seq_end ?_
  clear ac4 hf4 ac5 hI1 hf5
  refine then_normal ?_
  refine code_if_false hf6 rfl ?_
  refine wp_skip ?_
  refine then_normal ?_
  refine code_seq ?_
  refine seq_start (l := [0, 1, 2, 3, 4, 5, 6, 7, 8, 9, 10, 11]) rfl ?_
  refine seq_one (op_val (v := .pointer (some ⟨rb, 0, none⟩)) hf6 rfl rfl rfl rfl rfl rfl (r_move rfl) fun ac7 hf7 => ?_)
  refine seq_one (op_val (v := .pointer (some ⟨rb, 0, none⟩)) hf7 rfl rfl rfl rfl rfl rfl (r_nilCheck rfl) fun ac8 hf8 => ?_)
  refine seq_one (op_val (v := .pointer (some ⟨rb, 0, none⟩)) hf8 rfl rfl rfl rfl rfl rfl (r_fieldAddr fi_45_0 rfl rfl) fun ac9 hf9 => ?_)
  refine seq_one (op_val (v := .agg #[.pointer (some ⟨cb, 0, none⟩)]) hf9 rfl rfl rfl rfl rfl rfl (r_loadP (sz := 1) ag_43 sz_43 rfl (hI2.at 5 rfl) (leb rfl) (by kernel_rfl)) fun ac10 hf10 => ?_)
  refine seq_one (op_pureW hf10 rfl rfl rfl rfl ca_52 (first_walk (hI2.nd6 0 rfl rfl rfl rfl rfl rfl) r (Has.cons (hI2.at 0 rfl) (Has.cons (hI2.at 1 rfl) (Has.cons (hI2.at 2 rfl) (Has.cons (hI2.at 3 rfl) (Has.cons (hI2.at 4 rfl) (Has.cons (hI2.at 5 rfl) Has.nil))))))) hI2 fun ac11 wd2 hI3 hf11 => ?_)
  refine seq_one (op_val (v := .tuple #[.int .i64 r.li, .int .i64 r.f, .bool r.ok]) hf11 rfl rfl rfl rfl rfl rfl (r_move rfl) fun ac12 hf12 => ?_)
  refine seq_one (op_val (v := .int .i64 r.li) hf12 rfl rfl rfl rfl rfl rfl (r_extract rfl rfl) fun ac13 hf13 => ?_)
  refine seq_one (op_val (v := .int .i64 r.f) hf13 rfl rfl rfl rfl rfl rfl (r_extract rfl rfl) fun ac14 hf14 => ?_)
  refine seq_one (op_val (v := .bool r.ok) hf14 rfl rfl rfl rfl rfl rfl (r_extract rfl rfl) fun ac15 hf15 => ?_)
  refine seq_one (op_val (v := .int .i64 r.li) hf15 rfl rfl rfl rfl rfl rfl (r_assign rfl) fun ac16 hf16 => ?_)
  refine seq_one (op_val (v := .int .i64 r.f) hf16 rfl rfl rfl rfl rfl rfl (r_assign rfl) fun ac17 hf17 => ?_)
  refine seq_one (op_val (v := .bool r.ok) hf17 rfl rfl rfl rfl rfl rfl (r_assign rfl) fun ac18 hf18 => ?_)
  refine seq_end ?_
  clear ac6 hf6 ac7 hf7 ac8 hf8 ac9 hf9 ac10 wd1 hI2 hf10 ac11 hf11 ac12 hf12 ac13 hf13 ac14 hf14 ac15 hf15 ac16 hf16 ac17 hf17
  refine then_normal ?_
  refine code_seq ?_
  refine wp_block ?_
  refine code_seq ?_
  refine seq_start (l := [0, 1, 2]) rfl ?_
  refine seq_one (op_val (v := .bool r.ok) hf18 rfl rfl rfl rfl rfl rfl (r_move rfl) fun ac19 hf19 => ?_)
  refine seq_one (op_val (v := .bool (!r.ok)) hf19 rfl rfl rfl rfl rfl rfl (r_not rfl) fun ac20 hf20 => ?_)
  refine seq_one (op_val (v := .bool (!r.ok)) hf20 rfl rfl rfl rfl rfl rfl (r_assign rfl) fun ac21 hf21 => ?_)
  refine seq_end ?_
  clear ac18 hf18 ac19 hf19 ac20 hf20
  refine then_normal ?_
  refine code_if hf21 rfl (fun c19_1 => ?_) (fun c19_1 => ?_)
  · have hf22 := hf21.know 19 (u := .bool true) rfl (congrArg Value.bool c19_1)
    refine code_seq ?_
    refine seq_start (l := [0, 1, 2]) rfl ?_
    refine seq_one (op_val (v := .int .i64 0) hf22 rfl rfl rfl rfl rfl rfl (r_assign rfl) fun ac22 hf23 => ?_)
    refine seq_one (op_val (v := .bool false) hf23 rfl rfl rfl rfl rfl rfl (r_assign rfl) fun ac23 hf24 => ?_)
    refine seq_one (op_val (v := .bool false) hf24 rfl rfl rfl rfl rfl rfl (r_assign rfl) fun ac24 hf25 => ?_)
    refine seq_end ?_
    clear hf21 ac21 hf22 ac22 hf23 ac23 hf24
    refine then_normal ?_
    refine wp_ret ?_
    refine block_ret ?_
    refine then_ret ?_
    have ho : r.ok = false := by simpa using c19_1
    exact post3 rfl hf25 rfl rfl rfl ⟨by rw [(Ro.idle_f ho).2, ho, Ro.f_no ho], by rw [(Ro.idle_f ho).1]; exact hI3⟩
  · have hf26 := hf21.know 19 (u := .bool false) rfl (congrArg Value.bool c19_1)
    refine code_seq ?_
    refine seq_start (l := [0, 1, 2]) rfl ?_
    refine seq_one (op_val (v := .int .i64 r.li) hf26 rfl rfl rfl rfl rfl rfl (r_move rfl) fun ac25 hf27 => ?_)
    refine seq_one (op_val (v := .bool (r.li == 0)) hf27 rfl rfl rfl rfl rfl rfl (r_eql rfl rfl) fun ac26 hf28 => ?_)
    refine seq_one (op_val (v := .bool (r.li == 0)) hf28 rfl rfl rfl rfl rfl rfl (r_assign rfl) fun ac27 hf29 => ?_)
    refine seq_end ?_
    clear hf21 ac21 hf26 ac25 hf27 ac26 hf28
    refine then_normal ?_
    refine code_if hf29 rfl (fun c22_2 => ?_) (fun c22_2 => ?_)
    · have hf30 := hf29.know 22 (u := .bool true) rfl (congrArg Value.bool c22_2)
      refine code_seq ?_
      refine seq_start (l := [0, 1, 2]) rfl ?_
      refine seq_one (op_val (v := .pointer (some ⟨rb, 0, none⟩)) hf30 rfl rfl rfl rfl rfl rfl (r_move rfl) fun ac28 hf31 => ?_)
      refine seq_one (op_val (v := .int .i64 r.f) hf31 rfl rfl rfl rfl rfl rfl (r_move rfl) fun ac29 hf32 => ?_)
      refine seq_one (op_call (R := fun v w' => v = .tuple #[] ∧ Inv _ [(lb, arr .i64 ((r.turn r.f).c).lk, 103), (ob, arr .i64 ((r.turn r.f).c).of, 3), (mb, arr .i64 ((r.turn r.f).c).mn, 3), (cb, #[.slice (some ⟨lb, 0, none⟩) (N + 2) (N + 2), .slice (some ⟨ob, 0, none⟩) N N, .slice (some ⟨mb, 0, none⟩) 2 2], 79), (rc, arr .i64 (r.turn r.f).cr, 3), (rb, #[.pointer (some ⟨cb, 0, none⟩), .slice (some ⟨rc, 0, none⟩) N N, .int .i64 ((r.turn r.f).q)], 45)] w') hf32 rfl rfl rfl rfl ca_53 ((turn_any (hI3.nd6 0 rfl rfl rfl rfl rfl rfl) r (Has.cons (hI3.at 0 rfl) (Has.cons (hI3.at 1 rfl) (Has.cons (hI3.at 2 rfl) (Has.cons (hI3.at 3 rfl) (Has.cons (hI3.at 4 rfl) (Has.cons (hI3.at 5 rfl) Has.nil)))))) r.f).mono fun _ _ h => ⟨_, h.1, rfl, h.2⟩) fun ac30 v wd3 hR1 hf33 => ?_)
      obtain ⟨rfl, hR1⟩ := hR1
      have hI4 : Inv w [(lb, arr .i64 ((r.turn r.f).c).lk, 103), (ob, arr .i64 ((r.turn r.f).c).of, 3), (mb, arr .i64 ((r.turn r.f).c).mn, 3), (cb, #[.slice (some ⟨lb, 0, none⟩) (N + 2) (N + 2), .slice (some ⟨ob, 0, none⟩) N N, .slice (some ⟨mb, 0, none⟩) 2 2], 79), (rc, arr .i64 (r.turn r.f).cr, 3), (rb, #[.pointer (some ⟨cb, 0, none⟩), .slice (some ⟨rc, 0, none⟩) N N, .int .i64 ((r.turn r.f).q)], 45)] _ := Inv.callS (A := []) (S := [(lb, arr .i64 r.c.lk, 103), (ob, arr .i64 r.c.of, 3), (mb, arr .i64 r.c.mn, 3), (cb, #[.slice (some ⟨lb, 0, none⟩) (N + 2) (N + 2), .slice (some ⟨ob, 0, none⟩) N N, .slice (some ⟨mb, 0, none⟩) 2 2], 79), (rc, arr .i64 r.cr, 3), (rb, #[.pointer (some ⟨cb, 0, none⟩), .slice (some ⟨rc, 0, none⟩) N N, .int .i64 r.q], 45)]) (S' := [(lb, arr .i64 ((r.turn r.f).c).lk, 103), (ob, arr .i64 ((r.turn r.f).c).of, 3), (mb, arr .i64 ((r.turn r.f).c).mn, 3), (cb, #[.slice (some ⟨lb, 0, none⟩) (N + 2) (N + 2), .slice (some ⟨ob, 0, none⟩) N N, .slice (some ⟨mb, 0, none⟩) 2 2], 79), (rc, arr .i64 (r.turn r.f).cr, 3), (rb, #[.pointer (some ⟨cb, 0, none⟩), .slice (some ⟨rc, 0, none⟩) N N, .int .i64 ((r.turn r.f).q)], 45)]) (L := []) (N := []) hI3 hR1 rfl (fun _ h => by cases h)
      refine seq_end ?_
      clear hf29 ac27 hf30 ac28 hf31 ac29 wd2 hf32 hI3 hR1
      refine then_normal ?_
      refine code_seq ?_
      refine seq_start (l := [0, 1, 2, 3]) rfl ?_
      refine seq_one (op_val (v := .int .i64 r.f) hf33 rfl rfl rfl rfl rfl rfl (r_move rfl) fun ac31 hf34 => ?_)
      refine seq_one (op_val (v := .int .i64 r.f) hf34 rfl rfl rfl rfl rfl rfl (r_assign rfl) fun ac32 hf35 => ?_)
      refine seq_one (op_val (v := .bool false) hf35 rfl rfl rfl rfl rfl rfl (r_assign rfl) fun ac33 hf36 => ?_)
      refine seq_one (op_val (v := .bool true) hf36 rfl rfl rfl rfl rfl rfl (r_assign rfl) fun ac34 hf37 => ?_)
      refine seq_end ?_
      clear ac30 hf33 ac31 hf34 ac32 hf35 ac33 hf36
      refine then_normal ?_
      refine wp_ret ?_
      refine block_ret ?_
      refine then_ret ?_
      have ho : r.ok = true := by simpa using c19_1
      exact post3 rfl hf37 rfl rfl rfl ⟨by rw [(Ro.idle_0 ho c22_2).2, ho], by rw [(Ro.idle_0 ho c22_2).1]; exact hI4⟩
    · have hf38 := hf29.know 22 (u := .bool false) rfl (congrArg Value.bool c22_2)
      refine wp_skip ?_
      refine block_normal ?_
      refine then_normal ?_
      refine code_seq ?_
      refine seq_start (l := [0, 1, 2, 3, 4, 5, 6]) rfl ?_
      refine seq_one (op_val (v := .pointer (some ⟨rb, 0, none⟩)) hf38 rfl rfl rfl rfl rfl rfl (r_move rfl) fun ac35 hf39 => ?_)
      refine seq_one (op_val (v := .pointer (some ⟨rb, 0, none⟩)) hf39 rfl rfl rfl rfl rfl rfl (r_nilCheck rfl) fun ac36 hf40 => ?_)
      refine seq_one (op_val (v := .pointer (some ⟨rb, 0, none⟩)) hf40 rfl rfl rfl rfl rfl rfl (r_fieldAddr fi_45_0 rfl rfl) fun ac37 hf41 => ?_)
      refine seq_one (op_val (v := .pointer (some ⟨rb, 0, none⟩)) hf41 rfl rfl rfl rfl rfl rfl (r_fieldAddr fi_43_0 rfl rfl) fun ac38 hf42 => ?_)
      refine seq_one (op_val (v := .pointer (some ⟨cb, 0, none⟩)) hf42 rfl rfl rfl rfl rfl rfl (r_load ag_41 rfl (hI3.at 5 rfl) rfl) fun ac39 hf43 => ?_)
      refine seq_one (op_val (v := .int .i64 r.f) hf43 rfl rfl rfl rfl rfl rfl (r_move rfl) fun ac40 hf44 => ?_)
      refine seq_one (op_call (R := fun v w' => v = .bool (r.c.inn r.f) ∧ Inv _ [(lb, arr .i64 (r.c.drop r.f).lk, 103), (ob, arr .i64 (r.c.drop r.f).of, 3), (mb, arr .i64 (r.c.drop r.f).mn, 3), (cb, #[.slice (some ⟨lb, 0, none⟩) (N + 2) (N + 2), .slice (some ⟨ob, 0, none⟩) N N, .slice (some ⟨mb, 0, none⟩) 2 2], 79)] w') hf44 rfl rfl rfl rfl ca_32 ((drop_any (hI3.nd 0 rfl rfl rfl rfl) r.c (Has.cons (hI3.at 0 rfl) (Has.cons (hI3.at 1 rfl) (Has.cons (hI3.at 2 rfl) (Has.cons (hI3.at 3 rfl) Has.nil)))) r.f).mono fun _ _ h => ⟨_, h.1, rfl, h.2⟩) fun ac41 v wd4 hR1 hf45 => ?_)
      obtain ⟨rfl, hR1⟩ := hR1
      have hI5 : Inv w [(lb, arr .i64 (r.c.drop r.f).lk, 103), (ob, arr .i64 (r.c.drop r.f).of, 3), (mb, arr .i64 (r.c.drop r.f).mn, 3), (cb, #[.slice (some ⟨lb, 0, none⟩) (N + 2) (N + 2), .slice (some ⟨ob, 0, none⟩) N N, .slice (some ⟨mb, 0, none⟩) 2 2], 79), (rc, arr .i64 r.cr, 3), (rb, #[.pointer (some ⟨cb, 0, none⟩), .slice (some ⟨rc, 0, none⟩) N N, .int .i64 r.q], 45)] _ := Inv.callS (A := []) (S := [(lb, arr .i64 r.c.lk, 103), (ob, arr .i64 r.c.of, 3), (mb, arr .i64 r.c.mn, 3), (cb, #[.slice (some ⟨lb, 0, none⟩) (N + 2) (N + 2), .slice (some ⟨ob, 0, none⟩) N N, .slice (some ⟨mb, 0, none⟩) 2 2], 79)]) (S' := [(lb, arr .i64 (r.c.drop r.f).lk, 103), (ob, arr .i64 (r.c.drop r.f).of, 3), (mb, arr .i64 (r.c.drop r.f).mn, 3), (cb, #[.slice (some ⟨lb, 0, none⟩) (N + 2) (N + 2), .slice (some ⟨ob, 0, none⟩) N N, .slice (some ⟨mb, 0, none⟩) 2 2], 79)]) (L := [(rc, arr .i64 r.cr, 3), (rb, #[.pointer (some ⟨cb, 0, none⟩), .slice (some ⟨rc, 0, none⟩) N N, .int .i64 r.q], 45)]) (N := []) hI3 hR1 rfl (fun _ h => by cases h)
      refine seq_end ?_
      clear hf29 ac27 hf38 ac35 hf39 ac36 hf40 ac37 hf41 ac38 hf42 ac39 hf43 ac40 wd2 hf44 hI3 hR1
      refine then_normal ?_
      refine code_seq ?_
      refine seq_start (l := [0, 1, 2, 3]) rfl ?_
      refine seq_one (op_val (v := .int .i64 r.f) hf45 rfl rfl rfl rfl rfl rfl (r_move rfl) fun ac42 hf46 => ?_)
      refine seq_one (op_val (v := .int .i64 r.f) hf46 rfl rfl rfl rfl rfl rfl (r_assign rfl) fun ac43 hf47 => ?_)
      refine seq_one (op_val (v := .bool true) hf47 rfl rfl rfl rfl rfl rfl (r_assign rfl) fun ac44 hf48 => ?_)
      refine seq_one (op_val (v := .bool true) hf48 rfl rfl rfl rfl rfl rfl (r_assign rfl) fun ac45 hf49 => ?_)
      refine seq_end ?_
      clear ac41 hf45 ac42 hf46 ac43 hf47 ac44 hf48
      refine then_normal ?_
      refine wp_ret ?_
      have ho : r.ok = true := by simpa using c19_1
      exact post3 rfl hf49 rfl rfl rfl ⟨by rw [(Ro.idle_1 ho c22_2).2, ho], by rw [(Ro.idle_1 ho c22_2).1]; exact hI5⟩
set_option maxHeartbeats 8000000 in
theorem credit_any {N : Nat} {lb ob mb cb rc rb : Nat} (hd : [lb, ob, mb, cb, rc, rb].Nodup) (r : Ro N) {w : World} (h0_ : Has [(lb, arr .i64 r.c.lk, 103), (ob, arr .i64 r.c.of, 3), (mb, arr .i64 r.c.mn, 3), (cb, #[.slice (some ⟨lb, 0, none⟩) (N + 2) (N + 2), .slice (some ⟨ob, 0, none⟩) N N, .slice (some ⟨mb, 0, none⟩) 2 2], 79), (rc, arr .i64 r.cr, 3), (rb, #[.pointer (some ⟨cb, 0, none⟩), .slice (some ⟨rc, 0, none⟩) N N, .int .i64 r.q], 45)] w) (f : Int) : Calls Try.prog 17 [.pointer (some ⟨rb, 0, none⟩), .int .i64 f].toArray w fun e w' => e = .returned (.tuple #[.int .i64 (r.crV f), .bool (r.c.inn f)]) ∧ Inv w [] w' := by
  have hI1 := Inv.startS h0_ (pw_keys hd)
  have hN := r.hN
  have hq := r.hq
  refine enter (n := 29) Try.func17 rfl rfl rfl ?_
  intro ac1 hf1
  refine code_seq ?_
  refine seq_start (l := [0, 1]) rfl ?_
  refine seq_one (op_val (v := .int .i64 0) hf1 rfl rfl rfl rfl rfl rfl (r_assign rfl) fun ac2 hf2 => ?_)
  refine seq_one (op_val (v := .bool false) hf2 rfl rfl rfl rfl rfl rfl (r_assign rfl) fun ac3 hf3 => ?_)
  refine seq_end ?_
  clear ac1 hf1 ac2 hf2
  refine then_normal ?_
  refine code_seq ?_
  refine code_seq ?_
  refine seq_start (l := [0, 1]) rfl ?_
  refine seq_one (op_val (v := .pointer (some ⟨rb, 0, none⟩)) hf3 rfl rfl rfl rfl rfl rfl (r_move rfl) fun ac4 hf4 => ?_)
  refine seq_one (op_pureW hf4 rfl rfl rfl rfl ca_51 (none_walk (hI1.nd6 0 rfl rfl rfl rfl rfl rfl) r (Has.cons (hI1.at 0 rfl) (Has.cons (hI1.at 1 rfl) (Has.cons (hI1.at 2 rfl) (Has.cons (hI1.at 3 rfl) (Has.cons (hI1.at 4 rfl) (Has.cons (hI1.at 5 rfl) Has.nil))))))) hI1 fun ac5 wd1 hI2 hf5 => ?_)
  refine seq_end ?_
  clear ac3 hf3 ac4 hI1 hf4
  refine then_normal ?_
  refine code_if_false hf5 rfl ?_
  refine wp_skip ?_
  refine then_normal ?_
  refine code_seq ?_
  refine code_seq ?_
  refine seq_start (l := [0, 1, 2, 3, 4, 5, 6, 7, 8, 9, 10, 11]) rfl ?_
  refine seq_one (op_val (v := .pointer (some ⟨rb, 0, none⟩)) hf5 rfl rfl rfl rfl rfl rfl (r_move rfl) fun ac6 hf6 => ?_)
  refine seq_one (op_val (v := .pointer (some ⟨rb, 0, none⟩)) hf6 rfl rfl rfl rfl rfl rfl (r_nilCheck rfl) fun ac7 hf7 => ?_)
  refine seq_one (op_val (v := .pointer (some ⟨rb, 0, none⟩)) hf7 rfl rfl rfl rfl rfl rfl (r_fieldAddr fi_45_0 rfl rfl) fun ac8 hf8 => ?_)
  refine seq_one (op_val (v := .pointer (some ⟨rb, 0, none⟩)) hf8 rfl rfl rfl rfl rfl rfl (r_fieldAddr fi_43_0 rfl rfl) fun ac9 hf9 => ?_)
  refine seq_one (op_val (v := .pointer (some ⟨cb, 0, none⟩)) hf9 rfl rfl rfl rfl rfl rfl (r_load ag_41 rfl (hI2.at 5 rfl) rfl) fun ac10 hf10 => ?_)
  refine seq_one (op_val (v := .int .i64 f) hf10 rfl rfl rfl rfl rfl rfl (r_move rfl) fun ac11 hf11 => ?_)
  refine seq_one (op_pureW hf11 rfl rfl rfl rfl ca_29 (in_any (hI2.nd 0 rfl rfl rfl rfl) r.c (Has.cons (hI2.at 0 rfl) (Has.cons (hI2.at 1 rfl) (Has.cons (hI2.at 2 rfl) (Has.cons (hI2.at 3 rfl) Has.nil)))) f) hI2 fun ac12 wd2 hI3 hf12 => ?_)
  refine seq_one (op_val (v := .tuple #[.int .i64 (r.c.atV f), .bool (r.c.inn f)]) hf12 rfl rfl rfl rfl rfl rfl (r_move rfl) fun ac13 hf13 => ?_)
  refine seq_one (op_val (v := .int .i64 (r.c.atV f)) hf13 rfl rfl rfl rfl rfl rfl (r_extract rfl rfl) fun ac14 hf14 => ?_)
  refine seq_one (op_val (v := .bool (r.c.inn f)) hf14 rfl rfl rfl rfl rfl rfl (r_extract rfl rfl) fun ac15 hf15 => ?_)
  refine seq_one (op_val (v := .int .i64 (r.c.atV f)) hf15 rfl rfl rfl rfl rfl rfl (r_assign rfl) fun ac16 hf16 => ?_)
  refine seq_one (op_val (v := .bool (r.c.inn f)) hf16 rfl rfl rfl rfl rfl rfl (r_assign rfl) fun ac17 hf17 => ?_)
  refine seq_end ?_
  clear ac5 hf5 ac6 hf6 ac7 hf7 ac8 hf8 ac9 hf9 ac10 hf10 ac11 wd1 hI2 hf11 ac12 hf12 ac13 hf13 ac14 hf14 ac15 hf15 ac16 hf16
  refine then_normal ?_
  refine code_seq ?_
  refine seq_start (l := [0, 1]) rfl ?_
  refine seq_one (op_val (v := .bool (r.c.inn f)) hf17 rfl rfl rfl rfl rfl rfl (r_move rfl) fun ac18 hf18 => ?_)
  refine seq_one (op_val (v := .bool (!(r.c.inn f))) hf18 rfl rfl rfl rfl rfl rfl (r_not rfl) fun ac19 hf19 => ?_)
  refine seq_end ?_
  clear ac17 hf17 ac18 hf18
  refine then_normal ?_
  refine code_if hf19 rfl (fun c21_1 => ?_) (fun c21_1 => ?_)
  · have hf20 := hf19.know 21 (u := .bool true) rfl (congrArg Value.bool c21_1)
    refine code_seq ?_
    refine seq_start (l := [0, 1]) rfl ?_
    refine seq_one (op_val (v := .int .i64 0) hf20 rfl rfl rfl rfl rfl rfl (r_assign rfl) fun ac20 hf21 => ?_)
    refine seq_one (op_val (v := .bool false) hf21 rfl rfl rfl rfl rfl rfl (r_assign rfl) fun ac21 hf22 => ?_)
    refine seq_end ?_
    clear hf19 ac19 hf20 ac20 hf21
    refine then_normal ?_
    refine wp_ret ?_
    refine then_ret ?_
    have hi : r.c.inn f = false := by simpa using c21_1
    exact post2 rfl hf22 rfl rfl ⟨by rw [Ro.crV_f hi, hi], hI3.unread h0_⟩
  · have hf23 := hf19.know 21 (u := .bool false) rfl (congrArg Value.bool c21_1)
    refine wp_skip ?_
    refine then_normal ?_
    refine code_seq ?_
    refine seq_start (l := [0, 1, 2, 3, 4, 5, 6, 7, 8]) rfl ?_
    refine seq_one (op_val (v := .pointer (some ⟨rb, 0, none⟩)) hf23 rfl rfl rfl rfl rfl rfl (r_move rfl) fun ac22 hf24 => ?_)
    refine seq_one (op_val (v := .pointer (some ⟨rb, 0, none⟩)) hf24 rfl rfl rfl rfl rfl rfl (r_nilCheck rfl) fun ac23 hf25 => ?_)
    refine seq_one (op_val (v := .pointer (some ⟨rb, 1, none⟩)) hf25 rfl rfl rfl rfl rfl rfl (r_fieldAddr fi_45_1 rfl rfl) fun ac24 hf26 => ?_)
    refine seq_one (op_val (v := .slice (some ⟨rc, 0, none⟩) N N) hf26 rfl rfl rfl rfl rfl rfl (r_load ag_27 rfl (hI3.at 5 rfl) rfl) fun ac25 hf27 => ?_)
    refine seq_one (op_val (v := .int .i64 f) hf27 rfl rfl rfl rfl rfl rfl (r_move rfl) fun ac26 hf28 => ?_)
    refine seq_one (op_val (v := .pointer (some ⟨rc, (f).toNat, none⟩)) hf28 rfl rfl rfl rfl rfl rfl (r_indexAddrS (i := (f).toNat) sl_27 rfl rfl (by have := (Ch.mem_in (Ch.in_mem (c := r.c) (n := f) (by simpa using c21_1))).2.2.2; omega) (by have := (Ch.mem_in (Ch.in_mem (c := r.c) (n := f) (by simpa using c21_1))).2.2.2; omega) (by rw [Nat.mul_one, Nat.zero_add])) fun ac27 hf29 => ?_)
    refine seq_one (op_val (v := .int .i64 (r.cr.getD ((f).toNat) 0)) hf29 rfl rfl rfl rfl rfl rfl (r_load ag_3 rfl (hI3.at 4 rfl) (arr_get (Nat.lt_of_lt_of_eq (by have := (Ch.mem_in (Ch.in_mem (c := r.c) (n := f) (by simpa using c21_1))).2.2.2; omega) (Eq.symm r.hl)))) fun ac28 hf30 => ?_)
    refine seq_one (op_val (v := .int .i64 (r.cr.getD ((f).toNat) 0)) hf30 rfl rfl rfl rfl rfl rfl (r_assign rfl) fun ac29 hf31 => ?_)
    refine seq_one (op_val (v := .bool true) hf31 rfl rfl rfl rfl rfl rfl (r_assign rfl) fun ac30 hf32 => ?_)
    refine seq_end ?_
    clear hf19 ac19 hf23 ac22 hf24 ac23 hf25 ac24 hf26 ac25 hf27 ac26 hf28 ac27 hf29 ac28 hf30 ac29 hf31
    refine then_normal ?_
    refine wp_ret ?_
    have hi : r.c.inn f = true := by simpa using c21_1
    exact post2 rfl hf32 rfl rfl ⟨by rw [Ro.crV_t hi, hi]; rfl, hI3.unread h0_⟩
end Go.Proofs.Ytjelaoblpchmmaa
