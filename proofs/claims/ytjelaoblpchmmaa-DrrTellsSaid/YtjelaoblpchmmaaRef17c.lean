/-
  The reference of rounds, third part: Enter and Set.
-/
import Derived.Test.YtjelaoblpchmmaaRef17b
namespace Go.Proofs.Ytjelaoblpchmmaa
set_option linter.unusedVariables false
set_option linter.unusedSimpArgs false
set_option maxRecDepth 100000
open Go.RowKit
set_option maxHeartbeats 8000000 in
theorem renter_walk0 {N : Nat} {r : Ro N} {q : Int} (hrq : r.q = q) {f x : Int} {p0 p1 : Option Addr} {c0 c1 : Nat} (hl0 : (r.pl 0).length ≤ c0) (hl1 : (r.pl 1).length ≤ c1) {w : World} (hr0 : Rows_ w p0 2 (prs (r.pl 0))) (hr1 : Rows_ w p1 2 (prs (r.pl 1))) : Calls Try.prog 44 [.agg #[.int .i64 (N : Int), .int .i64 q, .slice p0 ((r.pl 0).length) c0, .slice p1 ((r.pl 1).length) c1], .int .i64 f, .int .i64 x, .bool true].toArray w fun e w' => ∃ S q0 d0 q1 d1, e = .returned (.tuple #[.agg #[.int .i64 (N : Int), .int .i64 q, .slice q0 ((r.enter 0 f x).pl 0).length d0, .slice q1 ((r.enter 0 f x).pl 1).length d1], .int .i64 (r.enterE 0 f x)]) ∧ Inv w S w' ∧ (∀ x ∈ S, w.heap.size ≤ x.1) ∧ Tr (p0, c0, r.pl 0) (p1, c1, r.pl 1) S q0 d0 ((r.enter 0 f x).pl 0) ∧ Tr (p0, c0, r.pl 0) (p1, c1, r.pl 1) S q1 d1 ((r.enter 0 f x).pl 1) := by
  have hI1 := Inv.start w
  refine enter (n := 50) Try.func44 rfl rfl rfl ?_
  intro ac1 hf1
  refine code_seq ?_
  refine seq_start (l := [0, 1, 2]) rfl ?_
  refine seq_one (op_box hf1 rfl rfl rfl rfl hI1 fun ac2 b1 wd1 hb1 hI2 hf2 => ?_)
  have hI3 : Inv w [(b1, #[.int .i64 (N : Int), .int .i64 q, .slice p0 ((r.pl 0).length) c0, .slice p1 ((r.pl 1).length) c1], 85)] wd1 := hI2
  refine seq_one (op_alloc hf2 rfl rfl rfl ze_85 hI3 fun ac3 b2 wd2 hb2 hI4 hf3 => ?_)
  have hI5 : Inv w [(b1, #[.int .i64 (N : Int), .int .i64 q, .slice p0 ((r.pl 0).length) c0, .slice p1 ((r.pl 1).length) c1], 85), (b2, #[.int .i64 0, .int .i64 0, .slice none 0 0, .slice none 0 0], 85)] wd2 := hI4
  refine seq_one (op_val (v := .int .i64 0) hf3 rfl rfl rfl rfl rfl rfl (r_assign rfl) fun ac4 hf4 => ?_)
  refine seq_end ?_
  clear ac1 hI1 hf1 hI2 ac2 wd1 hI3 hf2 hI4 ac3 hf3
  refine then_normal ?_
  refine code_seq ?_
  refine code_seq ?_
  refine seq_start (l := [0, 1, 2, 3, 4, 5, 6, 7, 8, 9, 10, 11, 12]) rfl ?_
  refine seq_one (op_val (v := .int .i64 f) hf4 rfl rfl rfl rfl rfl rfl (r_move rfl) fun ac5 hf5 => ?_)
  refine seq_one (op_val (v := .bool (decide (f < 0))) hf5 rfl rfl rfl rfl rfl rfl (r_lss rfl rfl) fun ac6 hf6 => ?_)
  refine seq_one (op_val (v := .bool (decide (f < 0))) hf6 rfl rfl rfl rfl rfl rfl (r_move rfl) fun ac7 hf7 => ?_)
  rcases Bool.eq_false_or_eq_true (decide (f < 0) : Bool) with g14_1 | g14_1
  · have hf8 := hf7.know 14 (u := .bool true) rfl (congrArg Value.bool g14_1)
    refine seq_one (op_skip hf8 rfl rfl rfl rfl fun ac8 hf9 => ?_)
    refine seq_one (op_skip hf9 rfl rfl rfl rfl fun ac9 hf10 => ?_)
    refine seq_one (op_skip hf10 rfl rfl rfl rfl fun ac10 hf11 => ?_)
    refine seq_one (op_skip hf11 rfl rfl rfl rfl fun ac11 hf12 => ?_)
    refine seq_one (op_val (v := .bool true) hf12 rfl rfl rfl rfl rfl rfl (r_pickT rfl rfl) fun ac12 hf13 => ?_)
    refine seq_one (op_val (v := .bool true) hf13 rfl rfl rfl rfl rfl rfl (r_move rfl) fun ac13 hf14 => ?_)
    refine seq_one (op_skip hf14 rfl rfl rfl rfl fun ac14 hf15 => ?_)
    refine seq_one (op_skip hf15 rfl rfl rfl rfl fun ac15 hf16 => ?_)
    refine seq_one (op_skip hf16 rfl rfl rfl rfl fun ac16 hf17 => ?_)
    refine seq_one (op_val (v := .bool true) hf17 rfl rfl rfl rfl rfl rfl (r_pickT rfl rfl) fun ac17 hf18 => ?_)
    refine seq_end ?_
    clear ac4 hf4 ac5 hf5 ac6 hf6 hf7 ac7 hf8 ac8 hf9 ac9 hf10 ac10 hf11 ac11 hf12 ac12 hf13 ac13 hf14 ac14 hf15 ac15 hf16 ac16 hf17
    refine then_normal ?_
    refine code_if_true hf18 rfl ?_
    refine code_seq ?_
    refine seq_start (l := [0, 1, 2]) rfl ?_
    refine seq_one (op_val (v := .agg #[.int .i64 (N : Int), .int .i64 q, .slice p0 ((r.pl 0).length) c0, .slice p1 ((r.pl 1).length) c1]) hf18 rfl rfl rfl rfl rfl rfl (r_loadW ag_85 sz_85 rfl (hI5.at 0 rfl) rfl) fun ac18 hf19 => ?_)
    refine seq_one (op_storeW (cells := #[.int .i64 (N : Int), .int .i64 q, .slice p0 ((r.pl 0).length) c0, .slice p1 ((r.pl 1).length) c1]) 1 hf19 rfl rfl rfl rfl rfl sz_85 rfl rfl hI5 rfl rfl fun wd3 hI6 => ?_)
    have hI7 : Inv w [(b1, #[.int .i64 (N : Int), .int .i64 q, .slice p0 ((r.pl 0).length) c0, .slice p1 ((r.pl 1).length) c1], 85), (b2, #[.int .i64 (N : Int), .int .i64 q, .slice p0 ((r.pl 0).length) c0, .slice p1 ((r.pl 1).length) c1], 85)] wd3 := hI6
    refine seq_one (op_val (v := .int .i64 2) hf19 rfl rfl rfl rfl rfl rfl (r_assign rfl) fun ac19 hf20 => ?_)
    refine seq_end ?_
    clear ac17 hf18 wd2 hI5 hI6 ac18 hf19
    refine then_normal ?_
    refine wp_ret ?_
    refine then_ret ?_
    obtain ⟨e0, e1, e2⟩ := Ro.enter_pl2 (r := r) (f := f) (x := x) (l := 0) (by decide) (.inl (by have := of_decide_eq_true g14_1; omega))
    exact postC1 rfl hf20 rfl ag_85 sz_85 (hI7.at 1 rfl) rfl rfl ⟨[], p0, c0, p1, c1, (by rw [e0, e1, e2]), (hI7.done (fresh_keys (ks := [b1, b2]) rfl (fk_cons hb1 (fk_cons hb2 fk_nil)))), (fun _ h => by cases h), by rw [e0]; exact (Tr.fst (a := (p0, c0, (r.pl 0))) (b := (p1, c1, (r.pl 1))) (SS := [])), by rw [e1]; exact (Tr.snd (a := (p0, c0, (r.pl 0))) (b := (p1, c1, (r.pl 1))) (SS := []))⟩
  · have hf21 := hf7.know 14 (u := .bool false) rfl (congrArg Value.bool g14_1)
    refine seq_one (op_val (v := .int .i64 f) hf21 rfl rfl rfl rfl rfl rfl (r_move rfl) fun ac20 hf22 => ?_)
    refine seq_one (op_val (v := .pointer (some ⟨b1, 0, none⟩)) hf22 rfl rfl rfl rfl rfl rfl (r_fieldAddr fi_85_0 rfl rfl) fun ac21 hf23 => ?_)
    refine seq_one (op_val (v := .int .i64 (N : Int)) hf23 rfl rfl rfl rfl rfl rfl (r_load ag_3 rfl (hI5.at 0 rfl) rfl) fun ac22 hf24 => ?_)
    refine seq_one (op_val (v := .bool (decide (f ≥ (N : Int)))) hf24 rfl rfl rfl rfl rfl rfl (r_geq rfl rfl) fun ac23 hf25 => ?_)
    refine seq_one (op_val (v := .bool (decide (f ≥ (N : Int)))) hf25 rfl rfl rfl rfl rfl rfl (r_pickF rfl rfl) fun ac24 hf26 => ?_)
    refine seq_one (op_val (v := .bool (decide (f ≥ (N : Int)))) hf26 rfl rfl rfl rfl rfl rfl (r_move rfl) fun ac25 hf27 => ?_)
    rcases Bool.eq_false_or_eq_true (decide (f ≥ (N : Int)) : Bool) with g20_2 | g20_2
    · have hf28 := hf27.know 20 (u := .bool true) rfl (congrArg Value.bool g20_2)
      refine seq_one (op_skip hf28 rfl rfl rfl rfl fun ac26 hf29 => ?_)
      refine seq_one (op_skip hf29 rfl rfl rfl rfl fun ac27 hf30 => ?_)
      refine seq_one (op_skip hf30 rfl rfl rfl rfl fun ac28 hf31 => ?_)
      refine seq_one (op_val (v := .bool true) hf31 rfl rfl rfl rfl rfl rfl (r_pickT rfl rfl) fun ac29 hf32 => ?_)
      refine seq_end ?_
      clear ac4 hf4 ac5 hf5 ac6 hf6 hf7 ac7 hf21 ac20 hf22 ac21 hf23 ac22 hf24 ac23 hf25 ac24 hf26 hf27 ac25 hf28 ac26 hf29 ac27 hf30 ac28 hf31
      refine then_normal ?_
      refine code_if_true hf32 rfl ?_
      refine code_seq ?_
      refine seq_start (l := [0, 1, 2]) rfl ?_
      refine seq_one (op_val (v := .agg #[.int .i64 (N : Int), .int .i64 q, .slice p0 ((r.pl 0).length) c0, .slice p1 ((r.pl 1).length) c1]) hf32 rfl rfl rfl rfl rfl rfl (r_loadW ag_85 sz_85 rfl (hI5.at 0 rfl) rfl) fun ac30 hf33 => ?_)
      refine seq_one (op_storeW (cells := #[.int .i64 (N : Int), .int .i64 q, .slice p0 ((r.pl 0).length) c0, .slice p1 ((r.pl 1).length) c1]) 1 hf33 rfl rfl rfl rfl rfl sz_85 rfl rfl hI5 rfl rfl fun wd4 hI8 => ?_)
      have hI9 : Inv w [(b1, #[.int .i64 (N : Int), .int .i64 q, .slice p0 ((r.pl 0).length) c0, .slice p1 ((r.pl 1).length) c1], 85), (b2, #[.int .i64 (N : Int), .int .i64 q, .slice p0 ((r.pl 0).length) c0, .slice p1 ((r.pl 1).length) c1], 85)] wd4 := hI8
      refine seq_one (op_val (v := .int .i64 2) hf33 rfl rfl rfl rfl rfl rfl (r_assign rfl) fun ac31 hf34 => ?_)
      refine seq_end ?_
      clear ac29 hf32 wd2 hI5 hI8 ac30 hf33
      refine then_normal ?_
      refine wp_ret ?_
      refine then_ret ?_
      obtain ⟨e0, e1, e2⟩ := Ro.enter_pl2 (r := r) (f := f) (x := x) (l := 0) (by decide) (.inl (by have := of_decide_eq_true g20_2; omega))
      exact postC1 rfl hf34 rfl ag_85 sz_85 (hI9.at 1 rfl) rfl rfl ⟨[], p0, c0, p1, c1, (by rw [e0, e1, e2]), (hI9.done (fresh_keys (ks := [b1, b2]) rfl (fk_cons hb1 (fk_cons hb2 fk_nil)))), (fun _ h => by cases h), by rw [e0]; exact (Tr.fst (a := (p0, c0, (r.pl 0))) (b := (p1, c1, (r.pl 1))) (SS := [])), by rw [e1]; exact (Tr.snd (a := (p0, c0, (r.pl 0))) (b := (p1, c1, (r.pl 1))) (SS := []))⟩
    · have hf35 := hf27.know 20 (u := .bool false) rfl (congrArg Value.bool g20_2)
      refine seq_one (op_val (v := .int .i64 x) hf35 rfl rfl rfl rfl rfl rfl (r_move rfl) fun ac32 hf36 => ?_)
      refine seq_one (op_pure hf36 rfl rfl rfl rfl ca_60 rmay_pur hI5 fun ac33 wd5 hI10 hf37 => ?_)
      refine seq_one (op_val (v := .bool (!(mayB x))) hf37 rfl rfl rfl rfl rfl rfl (r_not rfl) fun ac34 hf38 => ?_)
      refine seq_one (op_val (v := .bool (!(mayB x))) hf38 rfl rfl rfl rfl rfl rfl (r_pickF rfl rfl) fun ac35 hf39 => ?_)
      refine seq_end ?_
      clear ac4 hf4 ac5 hf5 ac6 hf6 hf7 ac7 hf21 ac20 hf22 ac21 hf23 ac22 hf24 ac23 hf25 ac24 hf26 hf27 ac25 hf35 ac32 wd2 hI5 hf36 ac33 hf37 ac34 hf38
      refine then_normal ?_
      refine code_if hf39 rfl (fun c24_3 => ?_) (fun c24_3 => ?_)
      · have hf40 := hf39.know 24 (u := .bool true) rfl (congrArg Value.bool c24_3)
        refine code_seq ?_
        refine seq_start (l := [0, 1, 2]) rfl ?_
        refine seq_one (op_val (v := .agg #[.int .i64 (N : Int), .int .i64 q, .slice p0 ((r.pl 0).length) c0, .slice p1 ((r.pl 1).length) c1]) hf40 rfl rfl rfl rfl rfl rfl (r_loadW ag_85 sz_85 rfl (hI10.at 0 rfl) rfl) fun ac36 hf41 => ?_)
        refine seq_one (op_storeW (cells := #[.int .i64 (N : Int), .int .i64 q, .slice p0 ((r.pl 0).length) c0, .slice p1 ((r.pl 1).length) c1]) 1 hf41 rfl rfl rfl rfl rfl sz_85 rfl rfl hI10 rfl rfl fun wd6 hI11 => ?_)
        have hI12 : Inv w [(b1, #[.int .i64 (N : Int), .int .i64 q, .slice p0 ((r.pl 0).length) c0, .slice p1 ((r.pl 1).length) c1], 85), (b2, #[.int .i64 (N : Int), .int .i64 q, .slice p0 ((r.pl 0).length) c0, .slice p1 ((r.pl 1).length) c1], 85)] wd6 := hI11
        refine seq_one (op_val (v := .int .i64 2) hf41 rfl rfl rfl rfl rfl rfl (r_assign rfl) fun ac37 hf42 => ?_)
        refine seq_end ?_
        clear hf39 ac35 hf40 wd5 hI10 hI11 ac36 hf41
        refine then_normal ?_
        refine wp_ret ?_
        refine then_ret ?_
        obtain ⟨e0, e1, e2⟩ := Ro.enter_pl2 (r := r) (f := f) (x := x) (l := 0) (by decide) (.inr (by simpa using c24_3))
        exact postC1 rfl hf42 rfl ag_85 sz_85 (hI12.at 1 rfl) rfl rfl ⟨[], p0, c0, p1, c1, (by rw [e0, e1, e2]), (hI12.done (fresh_keys (ks := [b1, b2]) rfl (fk_cons hb1 (fk_cons hb2 fk_nil)))), (fun _ h => by cases h), by rw [e0]; exact (Tr.fst (a := (p0, c0, (r.pl 0))) (b := (p1, c1, (r.pl 1))) (SS := [])), by rw [e1]; exact (Tr.snd (a := (p0, c0, (r.pl 0))) (b := (p1, c1, (r.pl 1))) (SS := []))⟩
      · have hf43 := hf39.know 24 (u := .bool false) rfl (congrArg Value.bool c24_3)
        refine wp_skip ?_
        refine then_normal ?_
        refine code_seq ?_
        refine seq_start (l := [0, 1, 2, 3, 4, 5, 6, 7]) rfl ?_
        refine seq_one (op_val (v := .agg #[.int .i64 (N : Int), .int .i64 q, .slice p0 ((r.pl 0).length) c0, .slice p1 ((r.pl 1).length) c1]) hf43 rfl rfl rfl rfl rfl rfl (r_loadW ag_85 sz_85 rfl (hI10.at 0 rfl) rfl) fun ac38 hf44 => ?_)
        refine seq_one (op_val (v := .int .i64 f) hf44 rfl rfl rfl rfl rfl rfl (r_move rfl) fun ac39 hf45 => ?_)
        refine seq_one (op_pureW hf45 rfl rfl rfl rfl ca_50 (rcredit_walk (F := (r.pl 0)) (O := (r.pl 1)) (n := f) ((Tr.view (Tr.fst (a := (p0, c0, (r.pl 0))) (b := (p1, c1, (r.pl 1))) (SS := [])) (View.start (SS := []) hl0 hr0) (View.start (SS := []) hl1 hr1))).1 ((Tr.view (Tr.snd (a := (p0, c0, (r.pl 0))) (b := (p1, c1, (r.pl 1))) (SS := [])) (View.start (SS := []) hl0 hr0) (View.start (SS := []) hl1 hr1))).1 (Ro.pl_le r 0) (Ro.pl_le r 1) (View.rows (Tr.view (Tr.fst (a := (p0, c0, (r.pl 0))) (b := (p1, c1, (r.pl 1))) (SS := [])) (View.start (SS := []) hl0 hr0) (View.start (SS := []) hl1 hr1)) hI10 (fresh_keys (ks := [b1, b2]) rfl (fk_cons hb1 (fk_cons hb2 fk_nil))) (fun _ h => by cases h)) (View.rows (Tr.view (Tr.snd (a := (p0, c0, (r.pl 0))) (b := (p1, c1, (r.pl 1))) (SS := [])) (View.start (SS := []) hl0 hr0) (View.start (SS := []) hl1 hr1)) hI10 (fresh_keys (ks := [b1, b2]) rfl (fk_cons hb1 (fk_cons hb2 fk_nil))) (fun _ h => by cases h))) hI10 fun ac40 wd7 hI13 hf46 => ?_)
        refine seq_one (op_val (v := .tuple #[.int .i64 (crL ((r.pl 0) ++ (r.pl 1)) f), .bool (inL ((r.pl 0) ++ (r.pl 1)) f)]) hf46 rfl rfl rfl rfl rfl rfl (r_move rfl) fun ac41 hf47 => ?_)
        refine seq_one (op_val (v := .int .i64 (crL ((r.pl 0) ++ (r.pl 1)) f)) hf47 rfl rfl rfl rfl rfl rfl (r_extract rfl rfl) fun ac42 hf48 => ?_)
        refine seq_one (op_val (v := .bool (inL ((r.pl 0) ++ (r.pl 1)) f)) hf48 rfl rfl rfl rfl rfl rfl (r_extract rfl rfl) fun ac43 hf49 => ?_)
        refine seq_one (op_val (v := .int .i64 (crL ((r.pl 0) ++ (r.pl 1)) f)) hf49 rfl rfl rfl rfl rfl rfl (r_assign rfl) fun ac44 hf50 => ?_)
        refine seq_one (op_val (v := .bool (inL ((r.pl 0) ++ (r.pl 1)) f)) hf50 rfl rfl rfl rfl rfl rfl (r_assign rfl) fun ac45 hf51 => ?_)
        refine seq_end ?_
        clear hf39 ac35 hf43 ac38 hf44 ac39 wd5 hI10 hf45 ac40 hf46 ac41 hf47 ac42 hf48 ac43 hf49 ac44 hf50
        refine then_normal ?_
        refine code_seq ?_
        refine code_seq ?_
        refine seq_start (l := [0]) rfl ?_
        refine seq_one (op_val (v := .bool (inL ((r.pl 0) ++ (r.pl 1)) f)) hf51 rfl rfl rfl rfl rfl rfl (r_move rfl) fun ac46 hf52 => ?_)
        refine seq_end ?_
        clear ac45 hf51
        refine then_normal ?_
        refine code_if hf52 rfl (fun c32_4 => ?_) (fun c32_4 => ?_)
        · have hf53 := hf52.know 32 (u := .bool true) rfl (congrArg Value.bool c32_4)
          refine code_seq ?_
          refine seq_start (l := [0, 1, 2]) rfl ?_
          refine seq_one (op_val (v := .agg #[.int .i64 (N : Int), .int .i64 q, .slice p0 ((r.pl 0).length) c0, .slice p1 ((r.pl 1).length) c1]) hf53 rfl rfl rfl rfl rfl rfl (r_loadW ag_85 sz_85 rfl (hI13.at 0 rfl) rfl) fun ac47 hf54 => ?_)
          refine seq_one (op_storeW (cells := #[.int .i64 (N : Int), .int .i64 q, .slice p0 ((r.pl 0).length) c0, .slice p1 ((r.pl 1).length) c1]) 1 hf54 rfl rfl rfl rfl rfl sz_85 rfl rfl hI13 rfl rfl fun wd8 hI14 => ?_)
          have hI15 : Inv w [(b1, #[.int .i64 (N : Int), .int .i64 q, .slice p0 ((r.pl 0).length) c0, .slice p1 ((r.pl 1).length) c1], 85), (b2, #[.int .i64 (N : Int), .int .i64 q, .slice p0 ((r.pl 0).length) c0, .slice p1 ((r.pl 1).length) c1], 85)] wd8 := hI14
          refine seq_one (op_val (v := .int .i64 50) hf54 rfl rfl rfl rfl rfl rfl (r_assign rfl) fun ac48 hf55 => ?_)
          refine seq_end ?_
          clear hf52 ac46 hf53 wd7 hI13 hI14 ac47 hf54
          refine then_normal ?_
          refine wp_ret ?_
          refine then_ret ?_
          obtain ⟨e0, e1, e2⟩ := Ro.enter_pl50 (r := r) (f := f) (x := x) (l := 0) (by decide) (by have := of_decide_eq_false g14_1; have := of_decide_eq_false g20_2; omega) (by simpa using c24_3) c32_4
          exact postC1 rfl hf55 rfl ag_85 sz_85 (hI15.at 1 rfl) rfl rfl ⟨[], p0, c0, p1, c1, (by rw [e0, e1, e2]), (hI15.done (fresh_keys (ks := [b1, b2]) rfl (fk_cons hb1 (fk_cons hb2 fk_nil)))), (fun _ h => by cases h), by rw [e0]; exact (Tr.fst (a := (p0, c0, (r.pl 0))) (b := (p1, c1, (r.pl 1))) (SS := [])), by rw [e1]; exact (Tr.snd (a := (p0, c0, (r.pl 0))) (b := (p1, c1, (r.pl 1))) (SS := []))⟩
        · have hf56 := hf52.know 32 (u := .bool false) rfl (congrArg Value.bool c32_4)
          refine wp_skip ?_
          refine then_normal ?_
          refine code_seq ?_
          refine code_seq ?_
          refine seq_start (l := [0]) rfl ?_
          refine seq_one (op_val (v := .bool true) hf56 rfl rfl rfl rfl rfl rfl (r_move rfl) fun ac49 hf57 => ?_)
          refine seq_end ?_
          clear hf52 ac46 hf56
          refine then_normal ?_
          refine code_if_true hf57 rfl ?_
          refine seq_start (l := [0, 1, 2, 3, 4, 5, 6, 7]) rfl ?_
          refine seq_one (op_val (v := .pointer (some ⟨b1, 2, none⟩)) hf57 rfl rfl rfl rfl rfl rfl (r_fieldAddr fi_85_2 rfl rfl) fun ac50 hf58 => ?_)
          refine seq_one (op_val (v := .slice p0 ((r.pl 0).length) c0) hf58 rfl rfl rfl rfl rfl rfl (r_load ag_83 rfl (hI13.at 0 rfl) rfl) fun ac51 hf59 => ?_)
          refine seq_one (op_val (v := .int .i64 f) hf59 rfl rfl rfl rfl rfl rfl (r_move rfl) fun ac52 hf60 => ?_)
          refine seq_one (op_val (v := .int .i64 x) hf60 rfl rfl rfl rfl rfl rfl (r_move rfl) fun ac53 hf61 => ?_)
          refine seq_one (op_val (v := .agg #[.int .i64 f, .int .i64 x]) hf61 rfl rfl rfl rfl rfl rfl (r_build (v := .agg #[.int .i64 f, .int .i64 x]) rfl (fun _ => by kernel_rfl)) fun ac54 hf62 => ?_)
          refine seq_one (op_call (R := fun v w' => ∃ S p cap, v = .slice p ((r.pl 0) ++ [(f, x)]).length cap ∧ Sp 108 S p cap ((r.pl 0) ++ [(f, x)]) ∧ Inv _ S w' ∧ ∀ x ∈ S, Array.size (World.heap _) ≤ x.1) hf62 rfl rfl rfl rfl ca_61 ((with_walk (F := (r.pl 0)) (x := f) (y := x) ((Tr.view (Tr.fst (a := (p0, c0, (r.pl 0))) (b := (p1, c1, (r.pl 1))) (SS := [])) (View.start (SS := []) hl0 hr0) (View.start (SS := []) hl1 hr1))).1 (Ro.pl_le r 0) (View.rows (Tr.view (Tr.fst (a := (p0, c0, (r.pl 0))) (b := (p1, c1, (r.pl 1))) (SS := [])) (View.start (SS := []) hl0 hr0) (View.start (SS := []) hl1 hr1)) hI13 (fresh_keys (ks := [b1, b2]) rfl (fk_cons hb1 (fk_cons hb2 fk_nil))) (fun _ h => by cases h))).mono fun _ _ ⟨S, p, cap, he, h1, h3, h4⟩ => ⟨_, he, S, p, cap, rfl, h1, h3, h4⟩) fun ac55 v wd9 hR hf63 => ?_)
          obtain ⟨Sq3, q3, capq3, rfl, hsq3, hwq3, hzq3⟩ := hR
          have hyq3 := fk_le hI13.size hzq3
          have hI16 : Inv w ([(b1, #[.int .i64 (N : Int), .int .i64 q, .slice p0 ((r.pl 0).length) c0, .slice p1 ((r.pl 1).length) c1], 85), (b2, #[.int .i64 0, .int .i64 0, .slice none 0 0, .slice none 0 0], 85)] ++ Sq3) _ := hI13.callN hwq3 hzq3
          refine seq_one (op_val (v := .pointer (some ⟨b1, 2, none⟩)) hf63 rfl rfl rfl rfl rfl rfl (r_fieldAddr fi_85_2 rfl rfl) fun ac56 hf64 => ?_)
          refine seq_one (op_store (cs' := #[.int .i64 (N : Int), .int .i64 q, .slice q3 (((r.pl 0) ++ [(f, x)]).length) capq3, .slice p1 ((r.pl 1).length) c1]) 0 hf64 rfl rfl rfl rfl rfl sz_83 hI16 rfl (ltb rfl) (by kernel_rfl) fun wd10 hI17 => ?_)
          have hI18 : Inv w ([(b1, #[.int .i64 (N : Int), .int .i64 q, .slice q3 (((r.pl 0) ++ [(f, x)]).length) capq3, .slice p1 ((r.pl 1).length) c1], 85), (b2, #[.int .i64 0, .int .i64 0, .slice none 0 0, .slice none 0 0], 85)] ++ Sq3) wd10 := hI17
          refine seq_end ?_
          clear ac49 hf57 ac50 hf58 ac51 hf59 ac52 hf60 ac53 hf61 ac54 wd7 hf62 hI13 hwq3 hzq3 ac55 hf63 wd9 hI16 hI17
          refine then_normal ?_
          refine code_seq ?_
          refine seq_start (l := [0, 1, 2]) rfl ?_
          refine seq_one (op_val (v := .agg #[.int .i64 (N : Int), .int .i64 q, .slice q3 (((r.pl 0) ++ [(f, x)]).length) capq3, .slice p1 ((r.pl 1).length) c1]) hf64 rfl rfl rfl rfl rfl rfl (r_loadW ag_85 sz_85 rfl (hI18.at 0 rfl) rfl) fun ac57 hf65 => ?_)
          refine seq_one (op_storeW (cells := #[.int .i64 (N : Int), .int .i64 q, .slice q3 (((r.pl 0) ++ [(f, x)]).length) capq3, .slice p1 ((r.pl 1).length) c1]) 1 hf65 rfl rfl rfl rfl rfl sz_85 rfl rfl hI18 rfl rfl fun wd11 hI19 => ?_)
          have hI20 : Inv w ([(b1, #[.int .i64 (N : Int), .int .i64 q, .slice q3 (((r.pl 0) ++ [(f, x)]).length) capq3, .slice p1 ((r.pl 1).length) c1], 85), (b2, #[.int .i64 (N : Int), .int .i64 q, .slice q3 (((r.pl 0) ++ [(f, x)]).length) capq3, .slice p1 ((r.pl 1).length) c1], 85)] ++ Sq3) wd11 := hI19
          refine seq_one (op_val (v := .int .i64 0) hf65 rfl rfl rfl rfl rfl rfl (r_assign rfl) fun ac58 hf66 => ?_)
          refine seq_end ?_
          clear ac56 hf64 wd10 hI18 hI19 ac57 hf65
          refine then_normal ?_
          refine wp_ret ?_
          obtain ⟨e0, e1, e2⟩ := Ro.enter_plA (r := r) (f := f) (x := x) (by have := of_decide_eq_false g14_1; have := of_decide_eq_false g20_2; omega) (by simpa using c24_3) c32_4
          exact postC1 rfl hf66 rfl ag_85 sz_85 (hI20.at 1 rfl) rfl rfl ⟨Sq3, q3, capq3, p1, c1, (by rw [e0, e1, e2]), (Inv.keep (A := []) (N := [(b1, #[.int .i64 (N : Int), .int .i64 q, .slice q3 (((r.pl 0) ++ [(f, x)]).length) capq3, .slice p1 ((r.pl 1).length) c1], 85), (b2, #[.int .i64 (N : Int), .int .i64 q, .slice q3 (((r.pl 0) ++ [(f, x)]).length) capq3, .slice p1 ((r.pl 1).length) c1], 85)]) (T := Sq3) hI20 (fresh_keys (ks := [b1, b2]) rfl (fk_cons hb1 (fk_cons hb2 fk_nil)))), hyq3, by rw [e0]; exact (Tr.sp hsq3), by rw [e1]; exact (Tr.mono (Tr.snd (a := (p0, c0, (r.pl 0))) (b := (p1, c1, (r.pl 1))) (SS := [])) (fun _ h => by cases h))⟩
set_option maxHeartbeats 8000000 in
theorem renter_walk1 {N : Nat} {r : Ro N} {q : Int} (hrq : r.q = q) {f x : Int} {p0 p1 : Option Addr} {c0 c1 : Nat} (hl0 : (r.pl 0).length ≤ c0) (hl1 : (r.pl 1).length ≤ c1) {w : World} (hr0 : Rows_ w p0 2 (prs (r.pl 0))) (hr1 : Rows_ w p1 2 (prs (r.pl 1))) : Calls Try.prog 44 [.agg #[.int .i64 (N : Int), .int .i64 q, .slice p0 ((r.pl 0).length) c0, .slice p1 ((r.pl 1).length) c1], .int .i64 f, .int .i64 x, .bool false].toArray w fun e w' => ∃ S q0 d0 q1 d1, e = .returned (.tuple #[.agg #[.int .i64 (N : Int), .int .i64 q, .slice q0 ((r.enter 1 f x).pl 0).length d0, .slice q1 ((r.enter 1 f x).pl 1).length d1], .int .i64 (r.enterE 1 f x)]) ∧ Inv w S w' ∧ (∀ x ∈ S, w.heap.size ≤ x.1) ∧ Tr (p0, c0, r.pl 0) (p1, c1, r.pl 1) S q0 d0 ((r.enter 1 f x).pl 0) ∧ Tr (p0, c0, r.pl 0) (p1, c1, r.pl 1) S q1 d1 ((r.enter 1 f x).pl 1) := by
  have hI1 := Inv.start w
  refine enter (n := 50) Try.func44 rfl rfl rfl ?_
  intro ac1 hf1
  refine code_seq ?_
  refine seq_start (l := [0, 1, 2]) rfl ?_
  refine seq_one (op_box hf1 rfl rfl rfl rfl hI1 fun ac2 b1 wd1 hb1 hI2 hf2 => ?_)
  have hI3 : Inv w [(b1, #[.int .i64 (N : Int), .int .i64 q, .slice p0 ((r.pl 0).length) c0, .slice p1 ((r.pl 1).length) c1], 85)] wd1 := hI2
  refine seq_one (op_alloc hf2 rfl rfl rfl ze_85 hI3 fun ac3 b2 wd2 hb2 hI4 hf3 => ?_)
  have hI5 : Inv w [(b1, #[.int .i64 (N : Int), .int .i64 q, .slice p0 ((r.pl 0).length) c0, .slice p1 ((r.pl 1).length) c1], 85), (b2, #[.int .i64 0, .int .i64 0, .slice none 0 0, .slice none 0 0], 85)] wd2 := hI4
  refine seq_one (op_val (v := .int .i64 0) hf3 rfl rfl rfl rfl rfl rfl (r_assign rfl) fun ac4 hf4 => ?_)
  refine seq_end ?_
  clear ac1 hI1 hf1 hI2 ac2 wd1 hI3 hf2 hI4 ac3 hf3
  refine then_normal ?_
  refine code_seq ?_
  refine code_seq ?_
  refine seq_start (l := [0, 1, 2, 3, 4, 5, 6, 7, 8, 9, 10, 11, 12]) rfl ?_
  refine seq_one (op_val (v := .int .i64 f) hf4 rfl rfl rfl rfl rfl rfl (r_move rfl) fun ac5 hf5 => ?_)
  refine seq_one (op_val (v := .bool (decide (f < 0))) hf5 rfl rfl rfl rfl rfl rfl (r_lss rfl rfl) fun ac6 hf6 => ?_)
  refine seq_one (op_val (v := .bool (decide (f < 0))) hf6 rfl rfl rfl rfl rfl rfl (r_move rfl) fun ac7 hf7 => ?_)
  rcases Bool.eq_false_or_eq_true (decide (f < 0) : Bool) with g14_1 | g14_1
  · have hf8 := hf7.know 14 (u := .bool true) rfl (congrArg Value.bool g14_1)
    refine seq_one (op_skip hf8 rfl rfl rfl rfl fun ac8 hf9 => ?_)
    refine seq_one (op_skip hf9 rfl rfl rfl rfl fun ac9 hf10 => ?_)
    refine seq_one (op_skip hf10 rfl rfl rfl rfl fun ac10 hf11 => ?_)
    refine seq_one (op_skip hf11 rfl rfl rfl rfl fun ac11 hf12 => ?_)
    refine seq_one (op_val (v := .bool true) hf12 rfl rfl rfl rfl rfl rfl (r_pickT rfl rfl) fun ac12 hf13 => ?_)
    refine seq_one (op_val (v := .bool true) hf13 rfl rfl rfl rfl rfl rfl (r_move rfl) fun ac13 hf14 => ?_)
    refine seq_one (op_skip hf14 rfl rfl rfl rfl fun ac14 hf15 => ?_)
    refine seq_one (op_skip hf15 rfl rfl rfl rfl fun ac15 hf16 => ?_)
    refine seq_one (op_skip hf16 rfl rfl rfl rfl fun ac16 hf17 => ?_)
    refine seq_one (op_val (v := .bool true) hf17 rfl rfl rfl rfl rfl rfl (r_pickT rfl rfl) fun ac17 hf18 => ?_)
    refine seq_end ?_
    clear ac4 hf4 ac5 hf5 ac6 hf6 hf7 ac7 hf8 ac8 hf9 ac9 hf10 ac10 hf11 ac11 hf12 ac12 hf13 ac13 hf14 ac14 hf15 ac15 hf16 ac16 hf17
    refine then_normal ?_
    refine code_if_true hf18 rfl ?_
    refine code_seq ?_
    refine seq_start (l := [0, 1, 2]) rfl ?_
    refine seq_one (op_val (v := .agg #[.int .i64 (N : Int), .int .i64 q, .slice p0 ((r.pl 0).length) c0, .slice p1 ((r.pl 1).length) c1]) hf18 rfl rfl rfl rfl rfl rfl (r_loadW ag_85 sz_85 rfl (hI5.at 0 rfl) rfl) fun ac18 hf19 => ?_)
    refine seq_one (op_storeW (cells := #[.int .i64 (N : Int), .int .i64 q, .slice p0 ((r.pl 0).length) c0, .slice p1 ((r.pl 1).length) c1]) 1 hf19 rfl rfl rfl rfl rfl sz_85 rfl rfl hI5 rfl rfl fun wd3 hI6 => ?_)
    have hI7 : Inv w [(b1, #[.int .i64 (N : Int), .int .i64 q, .slice p0 ((r.pl 0).length) c0, .slice p1 ((r.pl 1).length) c1], 85), (b2, #[.int .i64 (N : Int), .int .i64 q, .slice p0 ((r.pl 0).length) c0, .slice p1 ((r.pl 1).length) c1], 85)] wd3 := hI6
    refine seq_one (op_val (v := .int .i64 2) hf19 rfl rfl rfl rfl rfl rfl (r_assign rfl) fun ac19 hf20 => ?_)
    refine seq_end ?_
    clear ac17 hf18 wd2 hI5 hI6 ac18 hf19
    refine then_normal ?_
    refine wp_ret ?_
    refine then_ret ?_
    obtain ⟨e0, e1, e2⟩ := Ro.enter_pl2 (r := r) (f := f) (x := x) (l := 1) (by decide) (.inl (by have := of_decide_eq_true g14_1; omega))
    exact postC1 rfl hf20 rfl ag_85 sz_85 (hI7.at 1 rfl) rfl rfl ⟨[], p0, c0, p1, c1, (by rw [e0, e1, e2]), (hI7.done (fresh_keys (ks := [b1, b2]) rfl (fk_cons hb1 (fk_cons hb2 fk_nil)))), (fun _ h => by cases h), by rw [e0]; exact (Tr.fst (a := (p0, c0, (r.pl 0))) (b := (p1, c1, (r.pl 1))) (SS := [])), by rw [e1]; exact (Tr.snd (a := (p0, c0, (r.pl 0))) (b := (p1, c1, (r.pl 1))) (SS := []))⟩
  · have hf21 := hf7.know 14 (u := .bool false) rfl (congrArg Value.bool g14_1)
    refine seq_one (op_val (v := .int .i64 f) hf21 rfl rfl rfl rfl rfl rfl (r_move rfl) fun ac20 hf22 => ?_)
    refine seq_one (op_val (v := .pointer (some ⟨b1, 0, none⟩)) hf22 rfl rfl rfl rfl rfl rfl (r_fieldAddr fi_85_0 rfl rfl) fun ac21 hf23 => ?_)
    refine seq_one (op_val (v := .int .i64 (N : Int)) hf23 rfl rfl rfl rfl rfl rfl (r_load ag_3 rfl (hI5.at 0 rfl) rfl) fun ac22 hf24 => ?_)
    refine seq_one (op_val (v := .bool (decide (f ≥ (N : Int)))) hf24 rfl rfl rfl rfl rfl rfl (r_geq rfl rfl) fun ac23 hf25 => ?_)
    refine seq_one (op_val (v := .bool (decide (f ≥ (N : Int)))) hf25 rfl rfl rfl rfl rfl rfl (r_pickF rfl rfl) fun ac24 hf26 => ?_)
    refine seq_one (op_val (v := .bool (decide (f ≥ (N : Int)))) hf26 rfl rfl rfl rfl rfl rfl (r_move rfl) fun ac25 hf27 => ?_)
    rcases Bool.eq_false_or_eq_true (decide (f ≥ (N : Int)) : Bool) with g20_2 | g20_2
    · have hf28 := hf27.know 20 (u := .bool true) rfl (congrArg Value.bool g20_2)
      refine seq_one (op_skip hf28 rfl rfl rfl rfl fun ac26 hf29 => ?_)
      refine seq_one (op_skip hf29 rfl rfl rfl rfl fun ac27 hf30 => ?_)
      refine seq_one (op_skip hf30 rfl rfl rfl rfl fun ac28 hf31 => ?_)
      refine seq_one (op_val (v := .bool true) hf31 rfl rfl rfl rfl rfl rfl (r_pickT rfl rfl) fun ac29 hf32 => ?_)
      refine seq_end ?_
      clear ac4 hf4 ac5 hf5 ac6 hf6 hf7 ac7 hf21 ac20 hf22 ac21 hf23 ac22 hf24 ac23 hf25 ac24 hf26 hf27 ac25 hf28 ac26 hf29 ac27 hf30 ac28 hf31
      refine then_normal ?_
      refine code_if_true hf32 rfl ?_
      refine code_seq ?_
      refine seq_start (l := [0, 1, 2]) rfl ?_
      refine seq_one (op_val (v := .agg #[.int .i64 (N : Int), .int .i64 q, .slice p0 ((r.pl 0).length) c0, .slice p1 ((r.pl 1).length) c1]) hf32 rfl rfl rfl rfl rfl rfl (r_loadW ag_85 sz_85 rfl (hI5.at 0 rfl) rfl) fun ac30 hf33 => ?_)
      refine seq_one (op_storeW (cells := #[.int .i64 (N : Int), .int .i64 q, .slice p0 ((r.pl 0).length) c0, .slice p1 ((r.pl 1).length) c1]) 1 hf33 rfl rfl rfl rfl rfl sz_85 rfl rfl hI5 rfl rfl fun wd4 hI8 => ?_)
      have hI9 : Inv w [(b1, #[.int .i64 (N : Int), .int .i64 q, .slice p0 ((r.pl 0).length) c0, .slice p1 ((r.pl 1).length) c1], 85), (b2, #[.int .i64 (N : Int), .int .i64 q, .slice p0 ((r.pl 0).length) c0, .slice p1 ((r.pl 1).length) c1], 85)] wd4 := hI8
      refine seq_one (op_val (v := .int .i64 2) hf33 rfl rfl rfl rfl rfl rfl (r_assign rfl) fun ac31 hf34 => ?_)
      refine seq_end ?_
      clear ac29 hf32 wd2 hI5 hI8 ac30 hf33
      refine then_normal ?_
      refine wp_ret ?_
      refine then_ret ?_
      obtain ⟨e0, e1, e2⟩ := Ro.enter_pl2 (r := r) (f := f) (x := x) (l := 1) (by decide) (.inl (by have := of_decide_eq_true g20_2; omega))
      exact postC1 rfl hf34 rfl ag_85 sz_85 (hI9.at 1 rfl) rfl rfl ⟨[], p0, c0, p1, c1, (by rw [e0, e1, e2]), (hI9.done (fresh_keys (ks := [b1, b2]) rfl (fk_cons hb1 (fk_cons hb2 fk_nil)))), (fun _ h => by cases h), by rw [e0]; exact (Tr.fst (a := (p0, c0, (r.pl 0))) (b := (p1, c1, (r.pl 1))) (SS := [])), by rw [e1]; exact (Tr.snd (a := (p0, c0, (r.pl 0))) (b := (p1, c1, (r.pl 1))) (SS := []))⟩
    · have hf35 := hf27.know 20 (u := .bool false) rfl (congrArg Value.bool g20_2)
      refine seq_one (op_val (v := .int .i64 x) hf35 rfl rfl rfl rfl rfl rfl (r_move rfl) fun ac32 hf36 => ?_)
      refine seq_one (op_pure hf36 rfl rfl rfl rfl ca_60 rmay_pur hI5 fun ac33 wd5 hI10 hf37 => ?_)
      refine seq_one (op_val (v := .bool (!(mayB x))) hf37 rfl rfl rfl rfl rfl rfl (r_not rfl) fun ac34 hf38 => ?_)
      refine seq_one (op_val (v := .bool (!(mayB x))) hf38 rfl rfl rfl rfl rfl rfl (r_pickF rfl rfl) fun ac35 hf39 => ?_)
      refine seq_end ?_
      clear ac4 hf4 ac5 hf5 ac6 hf6 hf7 ac7 hf21 ac20 hf22 ac21 hf23 ac22 hf24 ac23 hf25 ac24 hf26 hf27 ac25 hf35 ac32 wd2 hI5 hf36 ac33 hf37 ac34 hf38
      refine then_normal ?_
      refine code_if hf39 rfl (fun c24_3 => ?_) (fun c24_3 => ?_)
      · have hf40 := hf39.know 24 (u := .bool true) rfl (congrArg Value.bool c24_3)
        refine code_seq ?_
        refine seq_start (l := [0, 1, 2]) rfl ?_
        refine seq_one (op_val (v := .agg #[.int .i64 (N : Int), .int .i64 q, .slice p0 ((r.pl 0).length) c0, .slice p1 ((r.pl 1).length) c1]) hf40 rfl rfl rfl rfl rfl rfl (r_loadW ag_85 sz_85 rfl (hI10.at 0 rfl) rfl) fun ac36 hf41 => ?_)
        refine seq_one (op_storeW (cells := #[.int .i64 (N : Int), .int .i64 q, .slice p0 ((r.pl 0).length) c0, .slice p1 ((r.pl 1).length) c1]) 1 hf41 rfl rfl rfl rfl rfl sz_85 rfl rfl hI10 rfl rfl fun wd6 hI11 => ?_)
        have hI12 : Inv w [(b1, #[.int .i64 (N : Int), .int .i64 q, .slice p0 ((r.pl 0).length) c0, .slice p1 ((r.pl 1).length) c1], 85), (b2, #[.int .i64 (N : Int), .int .i64 q, .slice p0 ((r.pl 0).length) c0, .slice p1 ((r.pl 1).length) c1], 85)] wd6 := hI11
        refine seq_one (op_val (v := .int .i64 2) hf41 rfl rfl rfl rfl rfl rfl (r_assign rfl) fun ac37 hf42 => ?_)
        refine seq_end ?_
        clear hf39 ac35 hf40 wd5 hI10 hI11 ac36 hf41
        refine then_normal ?_
        refine wp_ret ?_
        refine then_ret ?_
        obtain ⟨e0, e1, e2⟩ := Ro.enter_pl2 (r := r) (f := f) (x := x) (l := 1) (by decide) (.inr (by simpa using c24_3))
        exact postC1 rfl hf42 rfl ag_85 sz_85 (hI12.at 1 rfl) rfl rfl ⟨[], p0, c0, p1, c1, (by rw [e0, e1, e2]), (hI12.done (fresh_keys (ks := [b1, b2]) rfl (fk_cons hb1 (fk_cons hb2 fk_nil)))), (fun _ h => by cases h), by rw [e0]; exact (Tr.fst (a := (p0, c0, (r.pl 0))) (b := (p1, c1, (r.pl 1))) (SS := [])), by rw [e1]; exact (Tr.snd (a := (p0, c0, (r.pl 0))) (b := (p1, c1, (r.pl 1))) (SS := []))⟩
      · have hf43 := hf39.know 24 (u := .bool false) rfl (congrArg Value.bool c24_3)
        refine wp_skip ?_
        refine then_normal ?_
        refine code_seq ?_
        refine seq_start (l := [0, 1, 2, 3, 4, 5, 6, 7]) rfl ?_
        refine seq_one (op_val (v := .agg #[.int .i64 (N : Int), .int .i64 q, .slice p0 ((r.pl 0).length) c0, .slice p1 ((r.pl 1).length) c1]) hf43 rfl rfl rfl rfl rfl rfl (r_loadW ag_85 sz_85 rfl (hI10.at 0 rfl) rfl) fun ac38 hf44 => ?_)
        refine seq_one (op_val (v := .int .i64 f) hf44 rfl rfl rfl rfl rfl rfl (r_move rfl) fun ac39 hf45 => ?_)
        refine seq_one (op_pureW hf45 rfl rfl rfl rfl ca_50 (rcredit_walk (F := (r.pl 0)) (O := (r.pl 1)) (n := f) ((Tr.view (Tr.fst (a := (p0, c0, (r.pl 0))) (b := (p1, c1, (r.pl 1))) (SS := [])) (View.start (SS := []) hl0 hr0) (View.start (SS := []) hl1 hr1))).1 ((Tr.view (Tr.snd (a := (p0, c0, (r.pl 0))) (b := (p1, c1, (r.pl 1))) (SS := [])) (View.start (SS := []) hl0 hr0) (View.start (SS := []) hl1 hr1))).1 (Ro.pl_le r 0) (Ro.pl_le r 1) (View.rows (Tr.view (Tr.fst (a := (p0, c0, (r.pl 0))) (b := (p1, c1, (r.pl 1))) (SS := [])) (View.start (SS := []) hl0 hr0) (View.start (SS := []) hl1 hr1)) hI10 (fresh_keys (ks := [b1, b2]) rfl (fk_cons hb1 (fk_cons hb2 fk_nil))) (fun _ h => by cases h)) (View.rows (Tr.view (Tr.snd (a := (p0, c0, (r.pl 0))) (b := (p1, c1, (r.pl 1))) (SS := [])) (View.start (SS := []) hl0 hr0) (View.start (SS := []) hl1 hr1)) hI10 (fresh_keys (ks := [b1, b2]) rfl (fk_cons hb1 (fk_cons hb2 fk_nil))) (fun _ h => by cases h))) hI10 fun ac40 wd7 hI13 hf46 => ?_)
        refine seq_one (op_val (v := .tuple #[.int .i64 (crL ((r.pl 0) ++ (r.pl 1)) f), .bool (inL ((r.pl 0) ++ (r.pl 1)) f)]) hf46 rfl rfl rfl rfl rfl rfl (r_move rfl) fun ac41 hf47 => ?_)
        refine seq_one (op_val (v := .int .i64 (crL ((r.pl 0) ++ (r.pl 1)) f)) hf47 rfl rfl rfl rfl rfl rfl (r_extract rfl rfl) fun ac42 hf48 => ?_)
        refine seq_one (op_val (v := .bool (inL ((r.pl 0) ++ (r.pl 1)) f)) hf48 rfl rfl rfl rfl rfl rfl (r_extract rfl rfl) fun ac43 hf49 => ?_)
        refine seq_one (op_val (v := .int .i64 (crL ((r.pl 0) ++ (r.pl 1)) f)) hf49 rfl rfl rfl rfl rfl rfl (r_assign rfl) fun ac44 hf50 => ?_)
        refine seq_one (op_val (v := .bool (inL ((r.pl 0) ++ (r.pl 1)) f)) hf50 rfl rfl rfl rfl rfl rfl (r_assign rfl) fun ac45 hf51 => ?_)
        refine seq_end ?_
        clear hf39 ac35 hf43 ac38 hf44 ac39 wd5 hI10 hf45 ac40 hf46 ac41 hf47 ac42 hf48 ac43 hf49 ac44 hf50
        refine then_normal ?_
        refine code_seq ?_
        refine code_seq ?_
        refine seq_start (l := [0]) rfl ?_
        refine seq_one (op_val (v := .bool (inL ((r.pl 0) ++ (r.pl 1)) f)) hf51 rfl rfl rfl rfl rfl rfl (r_move rfl) fun ac46 hf52 => ?_)
        refine seq_end ?_
        clear ac45 hf51
        refine then_normal ?_
        refine code_if hf52 rfl (fun c32_4 => ?_) (fun c32_4 => ?_)
        · have hf53 := hf52.know 32 (u := .bool true) rfl (congrArg Value.bool c32_4)
          refine code_seq ?_
          refine seq_start (l := [0, 1, 2]) rfl ?_
          refine seq_one (op_val (v := .agg #[.int .i64 (N : Int), .int .i64 q, .slice p0 ((r.pl 0).length) c0, .slice p1 ((r.pl 1).length) c1]) hf53 rfl rfl rfl rfl rfl rfl (r_loadW ag_85 sz_85 rfl (hI13.at 0 rfl) rfl) fun ac47 hf54 => ?_)
          refine seq_one (op_storeW (cells := #[.int .i64 (N : Int), .int .i64 q, .slice p0 ((r.pl 0).length) c0, .slice p1 ((r.pl 1).length) c1]) 1 hf54 rfl rfl rfl rfl rfl sz_85 rfl rfl hI13 rfl rfl fun wd8 hI14 => ?_)
          have hI15 : Inv w [(b1, #[.int .i64 (N : Int), .int .i64 q, .slice p0 ((r.pl 0).length) c0, .slice p1 ((r.pl 1).length) c1], 85), (b2, #[.int .i64 (N : Int), .int .i64 q, .slice p0 ((r.pl 0).length) c0, .slice p1 ((r.pl 1).length) c1], 85)] wd8 := hI14
          refine seq_one (op_val (v := .int .i64 50) hf54 rfl rfl rfl rfl rfl rfl (r_assign rfl) fun ac48 hf55 => ?_)
          refine seq_end ?_
          clear hf52 ac46 hf53 wd7 hI13 hI14 ac47 hf54
          refine then_normal ?_
          refine wp_ret ?_
          refine then_ret ?_
          obtain ⟨e0, e1, e2⟩ := Ro.enter_pl50 (r := r) (f := f) (x := x) (l := 1) (by decide) (by have := of_decide_eq_false g14_1; have := of_decide_eq_false g20_2; omega) (by simpa using c24_3) c32_4
          exact postC1 rfl hf55 rfl ag_85 sz_85 (hI15.at 1 rfl) rfl rfl ⟨[], p0, c0, p1, c1, (by rw [e0, e1, e2]), (hI15.done (fresh_keys (ks := [b1, b2]) rfl (fk_cons hb1 (fk_cons hb2 fk_nil)))), (fun _ h => by cases h), by rw [e0]; exact (Tr.fst (a := (p0, c0, (r.pl 0))) (b := (p1, c1, (r.pl 1))) (SS := [])), by rw [e1]; exact (Tr.snd (a := (p0, c0, (r.pl 0))) (b := (p1, c1, (r.pl 1))) (SS := []))⟩
        · have hf56 := hf52.know 32 (u := .bool false) rfl (congrArg Value.bool c32_4)
          refine wp_skip ?_
          refine then_normal ?_
          refine code_seq ?_
          refine code_seq ?_
          refine seq_start (l := [0]) rfl ?_
          refine seq_one (op_val (v := .bool false) hf56 rfl rfl rfl rfl rfl rfl (r_move rfl) fun ac49 hf57 => ?_)
          refine seq_end ?_
          clear hf52 ac46 hf56
          refine then_normal ?_
          refine code_if_false hf57 rfl ?_
          refine seq_start (l := [0, 1, 2, 3, 4, 5, 6, 7]) rfl ?_
          refine seq_one (op_val (v := .pointer (some ⟨b1, 3, none⟩)) hf57 rfl rfl rfl rfl rfl rfl (r_fieldAddr fi_85_3 rfl rfl) fun ac50 hf58 => ?_)
          refine seq_one (op_val (v := .slice p1 ((r.pl 1).length) c1) hf58 rfl rfl rfl rfl rfl rfl (r_load ag_83 rfl (hI13.at 0 rfl) rfl) fun ac51 hf59 => ?_)
          refine seq_one (op_val (v := .int .i64 f) hf59 rfl rfl rfl rfl rfl rfl (r_move rfl) fun ac52 hf60 => ?_)
          refine seq_one (op_val (v := .int .i64 x) hf60 rfl rfl rfl rfl rfl rfl (r_move rfl) fun ac53 hf61 => ?_)
          refine seq_one (op_val (v := .agg #[.int .i64 f, .int .i64 x]) hf61 rfl rfl rfl rfl rfl rfl (r_build (v := .agg #[.int .i64 f, .int .i64 x]) rfl (fun _ => by kernel_rfl)) fun ac54 hf62 => ?_)
          refine seq_one (op_call (R := fun v w' => ∃ S p cap, v = .slice p ((r.pl 1) ++ [(f, x)]).length cap ∧ Sp 108 S p cap ((r.pl 1) ++ [(f, x)]) ∧ Inv _ S w' ∧ ∀ x ∈ S, Array.size (World.heap _) ≤ x.1) hf62 rfl rfl rfl rfl ca_61 ((with_walk (F := (r.pl 1)) (x := f) (y := x) ((Tr.view (Tr.snd (a := (p0, c0, (r.pl 0))) (b := (p1, c1, (r.pl 1))) (SS := [])) (View.start (SS := []) hl0 hr0) (View.start (SS := []) hl1 hr1))).1 (Ro.pl_le r 1) (View.rows (Tr.view (Tr.snd (a := (p0, c0, (r.pl 0))) (b := (p1, c1, (r.pl 1))) (SS := [])) (View.start (SS := []) hl0 hr0) (View.start (SS := []) hl1 hr1)) hI13 (fresh_keys (ks := [b1, b2]) rfl (fk_cons hb1 (fk_cons hb2 fk_nil))) (fun _ h => by cases h))).mono fun _ _ ⟨S, p, cap, he, h1, h3, h4⟩ => ⟨_, he, S, p, cap, rfl, h1, h3, h4⟩) fun ac55 v wd9 hR hf63 => ?_)
          obtain ⟨Sq3, q3, capq3, rfl, hsq3, hwq3, hzq3⟩ := hR
          have hyq3 := fk_le hI13.size hzq3
          have hI16 : Inv w ([(b1, #[.int .i64 (N : Int), .int .i64 q, .slice p0 ((r.pl 0).length) c0, .slice p1 ((r.pl 1).length) c1], 85), (b2, #[.int .i64 0, .int .i64 0, .slice none 0 0, .slice none 0 0], 85)] ++ Sq3) _ := hI13.callN hwq3 hzq3
          refine seq_one (op_val (v := .pointer (some ⟨b1, 3, none⟩)) hf63 rfl rfl rfl rfl rfl rfl (r_fieldAddr fi_85_3 rfl rfl) fun ac56 hf64 => ?_)
          refine seq_one (op_store (cs' := #[.int .i64 (N : Int), .int .i64 q, .slice p0 ((r.pl 0).length) c0, .slice q3 (((r.pl 1) ++ [(f, x)]).length) capq3]) 0 hf64 rfl rfl rfl rfl rfl sz_83 hI16 rfl (ltb rfl) (by kernel_rfl) fun wd10 hI17 => ?_)
          have hI18 : Inv w ([(b1, #[.int .i64 (N : Int), .int .i64 q, .slice p0 ((r.pl 0).length) c0, .slice q3 (((r.pl 1) ++ [(f, x)]).length) capq3], 85), (b2, #[.int .i64 0, .int .i64 0, .slice none 0 0, .slice none 0 0], 85)] ++ Sq3) wd10 := hI17
          refine seq_end ?_
          clear ac49 hf57 ac50 hf58 ac51 hf59 ac52 hf60 ac53 hf61 ac54 wd7 hf62 hI13 hwq3 hzq3 ac55 hf63 wd9 hI16 hI17
          refine then_normal ?_
          refine code_seq ?_
          refine seq_start (l := [0, 1, 2]) rfl ?_
          refine seq_one (op_val (v := .agg #[.int .i64 (N : Int), .int .i64 q, .slice p0 ((r.pl 0).length) c0, .slice q3 (((r.pl 1) ++ [(f, x)]).length) capq3]) hf64 rfl rfl rfl rfl rfl rfl (r_loadW ag_85 sz_85 rfl (hI18.at 0 rfl) rfl) fun ac57 hf65 => ?_)
          refine seq_one (op_storeW (cells := #[.int .i64 (N : Int), .int .i64 q, .slice p0 ((r.pl 0).length) c0, .slice q3 (((r.pl 1) ++ [(f, x)]).length) capq3]) 1 hf65 rfl rfl rfl rfl rfl sz_85 rfl rfl hI18 rfl rfl fun wd11 hI19 => ?_)
          have hI20 : Inv w ([(b1, #[.int .i64 (N : Int), .int .i64 q, .slice p0 ((r.pl 0).length) c0, .slice q3 (((r.pl 1) ++ [(f, x)]).length) capq3], 85), (b2, #[.int .i64 (N : Int), .int .i64 q, .slice p0 ((r.pl 0).length) c0, .slice q3 (((r.pl 1) ++ [(f, x)]).length) capq3], 85)] ++ Sq3) wd11 := hI19
          refine seq_one (op_val (v := .int .i64 0) hf65 rfl rfl rfl rfl rfl rfl (r_assign rfl) fun ac58 hf66 => ?_)
          refine seq_end ?_
          clear ac56 hf64 wd10 hI18 hI19 ac57 hf65
          refine then_normal ?_
          refine wp_ret ?_
          obtain ⟨e0, e1, e2⟩ := Ro.enter_plB (r := r) (f := f) (x := x) (by have := of_decide_eq_false g14_1; have := of_decide_eq_false g20_2; omega) (by simpa using c24_3) c32_4
          exact postC1 rfl hf66 rfl ag_85 sz_85 (hI20.at 1 rfl) rfl rfl ⟨Sq3, p0, c0, q3, capq3, (by rw [e0, e1, e2]), (Inv.keep (A := []) (N := [(b1, #[.int .i64 (N : Int), .int .i64 q, .slice p0 ((r.pl 0).length) c0, .slice q3 (((r.pl 1) ++ [(f, x)]).length) capq3], 85), (b2, #[.int .i64 (N : Int), .int .i64 q, .slice p0 ((r.pl 0).length) c0, .slice q3 (((r.pl 1) ++ [(f, x)]).length) capq3], 85)]) (T := Sq3) hI20 (fresh_keys (ks := [b1, b2]) rfl (fk_cons hb1 (fk_cons hb2 fk_nil)))), hyq3, by rw [e0]; exact (Tr.mono (Tr.fst (a := (p0, c0, (r.pl 0))) (b := (p1, c1, (r.pl 1))) (SS := [])) (fun _ h => by cases h)), by rw [e1]; exact (Tr.sp hsq3)⟩
set_option maxHeartbeats 8000000 in
theorem rset_walk {N : Nat} {r : Ro N} {q : Int} (hrq : r.q = q) {x : Int} {p0 p1 : Option Addr} {c0 c1 : Nat} (hl0 : (r.pl 0).length ≤ c0) (hl1 : (r.pl 1).length ≤ c1) {w : World} (hr0 : Rows_ w p0 2 (prs (r.pl 0))) (hr1 : Rows_ w p1 2 (prs (r.pl 1))) : Calls Try.prog 46 [.agg #[.int .i64 (N : Int), .int .i64 q, .slice p0 ((r.pl 0).length) c0, .slice p1 ((r.pl 1).length) c1], .int .i64 x].toArray w fun e w' => ∃ S q0 d0 q1 d1, e = .returned (.tuple #[.agg #[.int .i64 (N : Int), .int .i64 q, .slice q0 ((r.set x).pl 0).length d0, .slice q1 ((r.set x).pl 1).length d1], .int .i64 (r.setE x)]) ∧ Inv w S w' ∧ (∀ x ∈ S, w.heap.size ≤ x.1) ∧ Tr (p0, c0, r.pl 0) (p1, c1, r.pl 1) S q0 d0 ((r.set x).pl 0) ∧ Tr (p0, c0, r.pl 0) (p1, c1, r.pl 1) S q1 d1 ((r.set x).pl 1) := by
  have hI1 := Inv.start w
  refine enter (n := 43) Try.func46 rfl rfl rfl ?_
  intro ac1 hf1
  refine code_seq ?_
  refine seq_start (l := [0, 1, 2]) rfl ?_
  refine seq_one (op_box hf1 rfl rfl rfl rfl hI1 fun ac2 b1 wd1 hb1 hI2 hf2 => ?_)
  have hI3 : Inv w [(b1, #[.int .i64 (N : Int), .int .i64 q, .slice p0 ((r.pl 0).length) c0, .slice p1 ((r.pl 1).length) c1], 85)] wd1 := hI2
  refine seq_one (op_alloc hf2 rfl rfl rfl ze_85 hI3 fun ac3 b2 wd2 hb2 hI4 hf3 => ?_)
  have hI5 : Inv w [(b1, #[.int .i64 (N : Int), .int .i64 q, .slice p0 ((r.pl 0).length) c0, .slice p1 ((r.pl 1).length) c1], 85), (b2, #[.int .i64 0, .int .i64 0, .slice none 0 0, .slice none 0 0], 85)] wd2 := hI4
  refine seq_one (op_val (v := .int .i64 0) hf3 rfl rfl rfl rfl rfl rfl (r_assign rfl) fun ac4 hf4 => ?_)
  refine seq_end ?_
  clear ac1 hI1 hf1 hI2 ac2 wd1 hI3 hf2 hI4 ac3 hf3
  refine then_normal ?_
  refine code_seq ?_
  refine code_seq ?_
  refine seq_start (l := [0, 1, 2, 3, 4, 5, 6]) rfl ?_
  refine seq_one (op_val (v := .agg #[.int .i64 (N : Int), .int .i64 q, .slice p0 ((r.pl 0).length) c0, .slice p1 ((r.pl 1).length) c1]) hf4 rfl rfl rfl rfl rfl rfl (r_loadW ag_85 sz_85 rfl (hI5.at 0 rfl) rfl) fun ac5 hf5 => ?_)
  refine seq_one (op_pure hf5 rfl rfl rfl rfl ca_62 (empty_pur (F := (r.pl 0)) (O := (r.pl 1)) (Ro.pl_le r 0) (Ro.pl_le r 1)) hI5 fun ac6 wd3 hI6 hf6 => ?_)
  refine seq_one (op_val (v := .bool (emB (r.pl 0) (r.pl 1))) hf6 rfl rfl rfl rfl rfl rfl (r_move rfl) fun ac7 hf7 => ?_)
  rcases Bool.eq_false_or_eq_true (emB (r.pl 0) (r.pl 1) : Bool) with g11_1 | g11_1
  · have hf8 := hf7.know 11 (u := .bool true) rfl (congrArg Value.bool g11_1)
    refine seq_one (op_skip hf8 rfl rfl rfl rfl fun ac8 hf9 => ?_)
    refine seq_one (op_skip hf9 rfl rfl rfl rfl fun ac9 hf10 => ?_)
    refine seq_one (op_skip hf10 rfl rfl rfl rfl fun ac10 hf11 => ?_)
    refine seq_one (op_val (v := .bool true) hf11 rfl rfl rfl rfl rfl rfl (r_pickT rfl rfl) fun ac11 hf12 => ?_)
    refine seq_end ?_
    clear ac4 hf4 ac5 wd2 hI5 hf5 ac6 hf6 hf7 ac7 hf8 ac8 hf9 ac9 hf10 ac10 hf11
    refine then_normal ?_
    refine code_if_true hf12 rfl ?_
    refine code_seq ?_
    refine seq_start (l := [0, 1, 2]) rfl ?_
    refine seq_one (op_val (v := .agg #[.int .i64 (N : Int), .int .i64 q, .slice p0 ((r.pl 0).length) c0, .slice p1 ((r.pl 1).length) c1]) hf12 rfl rfl rfl rfl rfl rfl (r_loadW ag_85 sz_85 rfl (hI6.at 0 rfl) rfl) fun ac12 hf13 => ?_)
    refine seq_one (op_storeW (cells := #[.int .i64 (N : Int), .int .i64 q, .slice p0 ((r.pl 0).length) c0, .slice p1 ((r.pl 1).length) c1]) 1 hf13 rfl rfl rfl rfl rfl sz_85 rfl rfl hI6 rfl rfl fun wd4 hI7 => ?_)
    have hI8 : Inv w [(b1, #[.int .i64 (N : Int), .int .i64 q, .slice p0 ((r.pl 0).length) c0, .slice p1 ((r.pl 1).length) c1], 85), (b2, #[.int .i64 (N : Int), .int .i64 q, .slice p0 ((r.pl 0).length) c0, .slice p1 ((r.pl 1).length) c1], 85)] wd4 := hI7
    refine seq_one (op_val (v := .int .i64 2) hf13 rfl rfl rfl rfl rfl rfl (r_assign rfl) fun ac13 hf14 => ?_)
    refine seq_end ?_
    clear ac11 hf12 wd3 hI6 hI7 ac12 hf13
    refine then_normal ?_
    refine wp_ret ?_
    refine then_ret ?_
    obtain ⟨e0, e1, e2⟩ := Ro.set_pl0 (r := r) (x := x) (.inl g11_1)
    exact postC1 rfl hf14 rfl ag_85 sz_85 (hI8.at 1 rfl) rfl rfl ⟨[], p0, c0, p1, c1, (by rw [e0, e1, e2]), (hI8.done (fresh_keys (ks := [b1, b2]) rfl (fk_cons hb1 (fk_cons hb2 fk_nil)))), (fun _ h => by cases h), by rw [e0]; exact (Tr.fst (a := (p0, c0, (r.pl 0))) (b := (p1, c1, (r.pl 1))) (SS := [])), by rw [e1]; exact (Tr.snd (a := (p0, c0, (r.pl 0))) (b := (p1, c1, (r.pl 1))) (SS := []))⟩
  · have hf15 := hf7.know 11 (u := .bool false) rfl (congrArg Value.bool g11_1)
    refine seq_one (op_val (v := .int .i64 x) hf15 rfl rfl rfl rfl rfl rfl (r_move rfl) fun ac14 hf16 => ?_)
    refine seq_one (op_pure hf16 rfl rfl rfl rfl ca_60 rmay_pur hI6 fun ac15 wd5 hI9 hf17 => ?_)
    refine seq_one (op_val (v := .bool (!(mayB x))) hf17 rfl rfl rfl rfl rfl rfl (r_not rfl) fun ac16 hf18 => ?_)
    refine seq_one (op_val (v := .bool (!(mayB x))) hf18 rfl rfl rfl rfl rfl rfl (r_pickF rfl rfl) fun ac17 hf19 => ?_)
    refine seq_end ?_
    clear ac4 hf4 ac5 wd2 hI5 hf5 ac6 hf6 hf7 ac7 hf15 ac14 wd3 hI6 hf16 ac15 hf17 ac16 hf18
    refine then_normal ?_
    refine code_if hf19 rfl (fun c15_2 => ?_) (fun c15_2 => ?_)
    · have hf20 := hf19.know 15 (u := .bool true) rfl (congrArg Value.bool c15_2)
      refine code_seq ?_
      refine seq_start (l := [0, 1, 2]) rfl ?_
      refine seq_one (op_val (v := .agg #[.int .i64 (N : Int), .int .i64 q, .slice p0 ((r.pl 0).length) c0, .slice p1 ((r.pl 1).length) c1]) hf20 rfl rfl rfl rfl rfl rfl (r_loadW ag_85 sz_85 rfl (hI9.at 0 rfl) rfl) fun ac18 hf21 => ?_)
      refine seq_one (op_storeW (cells := #[.int .i64 (N : Int), .int .i64 q, .slice p0 ((r.pl 0).length) c0, .slice p1 ((r.pl 1).length) c1]) 1 hf21 rfl rfl rfl rfl rfl sz_85 rfl rfl hI9 rfl rfl fun wd6 hI10 => ?_)
      have hI11 : Inv w [(b1, #[.int .i64 (N : Int), .int .i64 q, .slice p0 ((r.pl 0).length) c0, .slice p1 ((r.pl 1).length) c1], 85), (b2, #[.int .i64 (N : Int), .int .i64 q, .slice p0 ((r.pl 0).length) c0, .slice p1 ((r.pl 1).length) c1], 85)] wd6 := hI10
      refine seq_one (op_val (v := .int .i64 2) hf21 rfl rfl rfl rfl rfl rfl (r_assign rfl) fun ac19 hf22 => ?_)
      refine seq_end ?_
      clear hf19 ac17 hf20 wd5 hI9 hI10 ac18 hf21
      refine then_normal ?_
      refine wp_ret ?_
      refine then_ret ?_
      obtain ⟨e0, e1, e2⟩ := Ro.set_pl0 (r := r) (x := x) (.inr (by simpa using c15_2))
      exact postC1 rfl hf22 rfl ag_85 sz_85 (hI11.at 1 rfl) rfl rfl ⟨[], p0, c0, p1, c1, (by rw [e0, e1, e2]), (hI11.done (fresh_keys (ks := [b1, b2]) rfl (fk_cons hb1 (fk_cons hb2 fk_nil)))), (fun _ h => by cases h), by rw [e0]; exact (Tr.fst (a := (p0, c0, (r.pl 0))) (b := (p1, c1, (r.pl 1))) (SS := [])), by rw [e1]; exact (Tr.snd (a := (p0, c0, (r.pl 0))) (b := (p1, c1, (r.pl 1))) (SS := []))⟩
    · have hf23 := hf19.know 15 (u := .bool false) rfl (congrArg Value.bool c15_2)
      refine wp_skip ?_
      refine then_normal ?_
      refine code_seq ?_
      refine seq_start (l := [0, 1, 2, 3, 4, 5, 6, 7, 8, 9, 10]) rfl ?_
      refine seq_one (op_val (v := .agg #[.int .i64 (N : Int), .int .i64 q, .slice p0 ((r.pl 0).length) c0, .slice p1 ((r.pl 1).length) c1]) hf23 rfl rfl rfl rfl rfl rfl (r_loadW ag_85 sz_85 rfl (hI9.at 0 rfl) rfl) fun ac20 hf24 => ?_)
      refine seq_one (op_call (R := fun v w' => ∃ q0 d0 q1 d1, v = .tuple #[.agg #[.int .i64 (N : Int), .int .i64 q, .slice q0 (r.pl 0).tail.length d0, .slice q1 (tO (r.pl 0) (r.pl 1)).length d1], .agg #[.int .i64 (hdP (r.pl 0) (r.pl 1)).1, .int .i64 (hdP (r.pl 0) (r.pl 1)).2], .bool (nF (r.pl 0))] ∧ Tr (p0, c0, (r.pl 0)) (p1, c1, (r.pl 1)) [] q0 d0 (r.pl 0).tail ∧ Tr (p0, c0, (r.pl 0)) (p1, c1, (r.pl 1)) [] q1 d1 (tO (r.pl 0) (r.pl 1)) ∧ Inv _ [] w') hf24 rfl rfl rfl rfl ca_63 ((out_any (F := (r.pl 0)) (O := (r.pl 1)) g11_1 ((Tr.view (Tr.fst (a := (p0, c0, (r.pl 0))) (b := (p1, c1, (r.pl 1))) (SS := [])) (View.start (SS := []) hl0 hr0) (View.start (SS := []) hl1 hr1))).1 ((Tr.view (Tr.snd (a := (p0, c0, (r.pl 0))) (b := (p1, c1, (r.pl 1))) (SS := [])) (View.start (SS := []) hl0 hr0) (View.start (SS := []) hl1 hr1))).1 (Ro.pl_le r 0) (Ro.pl_le r 1) (View.rows (Tr.view (Tr.fst (a := (p0, c0, (r.pl 0))) (b := (p1, c1, (r.pl 1))) (SS := [])) (View.start (SS := []) hl0 hr0) (View.start (SS := []) hl1 hr1)) hI9 (fresh_keys (ks := [b1, b2]) rfl (fk_cons hb1 (fk_cons hb2 fk_nil))) (fun _ h => by cases h)) (View.rows (Tr.view (Tr.snd (a := (p0, c0, (r.pl 0))) (b := (p1, c1, (r.pl 1))) (SS := [])) (View.start (SS := []) hl0 hr0) (View.start (SS := []) hl1 hr1)) hI9 (fresh_keys (ks := [b1, b2]) rfl (fk_cons hb1 (fk_cons hb2 fk_nil))) (fun _ h => by cases h))).mono fun _ _ ⟨q0, d0, q1, d1, he, h1, h2, h3⟩ => ⟨_, he, q0, d0, q1, d1, rfl, h1, h2, h3⟩) fun ac21 v wd7 hR hf25 => ?_)
      obtain ⟨m3, k3, m3', k3', rfl, hta3, htb3, hw3⟩ := hR
      have hI12 := hI9.call0 hw3
      have htc3 := Tr.comp0 (Tr.fst (a := (p0, c0, (r.pl 0))) (b := (p1, c1, (r.pl 1))) (SS := [])) (Tr.snd (a := (p0, c0, (r.pl 0))) (b := (p1, c1, (r.pl 1))) (SS := [])) hta3
      have htd3 := Tr.comp0 (Tr.fst (a := (p0, c0, (r.pl 0))) (b := (p1, c1, (r.pl 1))) (SS := [])) (Tr.snd (a := (p0, c0, (r.pl 0))) (b := (p1, c1, (r.pl 1))) (SS := [])) htb3
      refine seq_one (op_val (v := .tuple #[.agg #[.int .i64 (N : Int), .int .i64 q, .slice m3 ((r.pl 0).tail.length) k3, .slice m3' ((tO (r.pl 0) (r.pl 1)).length) k3'], .agg #[.int .i64 ((hdP (r.pl 0) (r.pl 1)).1), .int .i64 ((hdP (r.pl 0) (r.pl 1)).2)], .bool (nF (r.pl 0))]) hf25 rfl rfl rfl rfl rfl rfl (r_move rfl) fun ac22 hf26 => ?_)
      refine seq_one (op_val (v := .agg #[.int .i64 (N : Int), .int .i64 q, .slice m3 ((r.pl 0).tail.length) k3, .slice m3' ((tO (r.pl 0) (r.pl 1)).length) k3']) hf26 rfl rfl rfl rfl rfl rfl (r_extract rfl rfl) fun ac23 hf27 => ?_)
      refine seq_one (op_val (v := .agg #[.int .i64 ((hdP (r.pl 0) (r.pl 1)).1), .int .i64 ((hdP (r.pl 0) (r.pl 1)).2)]) hf27 rfl rfl rfl rfl rfl rfl (r_extract rfl rfl) fun ac24 hf28 => ?_)
      refine seq_one (op_val (v := .bool (nF (r.pl 0))) hf28 rfl rfl rfl rfl rfl rfl (r_extract rfl rfl) fun ac25 hf29 => ?_)
      refine seq_one (op_alloc hf29 rfl rfl rfl ze_85 hI12 fun ac26 b4 wd8 hb4 hI13 hf30 => ?_)
      have hI14 : Inv w [(b1, #[.int .i64 (N : Int), .int .i64 q, .slice p0 ((r.pl 0).length) c0, .slice p1 ((r.pl 1).length) c1], 85), (b2, #[.int .i64 0, .int .i64 0, .slice none 0 0, .slice none 0 0], 85), (b4, #[.int .i64 0, .int .i64 0, .slice none 0 0, .slice none 0 0], 85)] wd8 := hI13
      refine seq_one (op_alloc hf30 rfl rfl rfl ze_108 hI14 fun ac27 b5 wd9 hb5 hI15 hf31 => ?_)
      have hI16 : Inv w [(b1, #[.int .i64 (N : Int), .int .i64 q, .slice p0 ((r.pl 0).length) c0, .slice p1 ((r.pl 1).length) c1], 85), (b2, #[.int .i64 0, .int .i64 0, .slice none 0 0, .slice none 0 0], 85), (b4, #[.int .i64 0, .int .i64 0, .slice none 0 0, .slice none 0 0], 85), (b5, #[.int .i64 0, .int .i64 0], 108)] wd9 := hI15
      refine seq_one (op_storeW (cells := #[.int .i64 (N : Int), .int .i64 q, .slice m3 ((r.pl 0).tail.length) k3, .slice m3' ((tO (r.pl 0) (r.pl 1)).length) k3']) 2 hf31 rfl rfl rfl rfl rfl sz_85 rfl rfl hI16 rfl rfl fun wd10 hI17 => ?_)
      have hI18 : Inv w [(b1, #[.int .i64 (N : Int), .int .i64 q, .slice p0 ((r.pl 0).length) c0, .slice p1 ((r.pl 1).length) c1], 85), (b2, #[.int .i64 0, .int .i64 0, .slice none 0 0, .slice none 0 0], 85), (b4, #[.int .i64 (N : Int), .int .i64 q, .slice m3 ((r.pl 0).tail.length) k3, .slice m3' ((tO (r.pl 0) (r.pl 1)).length) k3'], 85), (b5, #[.int .i64 0, .int .i64 0], 108)] wd10 := hI17
      refine seq_one (op_storeW (cells := #[.int .i64 ((hdP (r.pl 0) (r.pl 1)).1), .int .i64 ((hdP (r.pl 0) (r.pl 1)).2)]) 3 hf31 rfl rfl rfl rfl rfl sz_108 rfl rfl hI18 rfl rfl fun wd11 hI19 => ?_)
      have hI20 : Inv w [(b1, #[.int .i64 (N : Int), .int .i64 q, .slice p0 ((r.pl 0).length) c0, .slice p1 ((r.pl 1).length) c1], 85), (b2, #[.int .i64 0, .int .i64 0, .slice none 0 0, .slice none 0 0], 85), (b4, #[.int .i64 (N : Int), .int .i64 q, .slice m3 ((r.pl 0).tail.length) k3, .slice m3' ((tO (r.pl 0) (r.pl 1)).length) k3'], 85), (b5, #[.int .i64 ((hdP (r.pl 0) (r.pl 1)).1), .int .i64 ((hdP (r.pl 0) (r.pl 1)).2)], 108)] wd11 := hI19
      refine seq_one (op_val (v := .bool (nF (r.pl 0))) hf31 rfl rfl rfl rfl rfl rfl (r_assign rfl) fun ac28 hf32 => ?_)
      refine seq_end ?_
      clear hf19 ac17 hf23 ac20 wd5 hf24 hI9 hw3 ac21 hf25 ac22 hf26 ac23 hf27 ac24 hf28 ac25 wd7 hI12 hf29 hI13 ac26 wd8 hI14 hf30 hI15 wd9 hI16 hI17 wd10 hI18 hI19 ac27 hf31
      refine then_normal ?_
      refine code_seq ?_
      refine code_seq ?_
      refine seq_start (l := [0]) rfl ?_
      refine seq_one (op_val (v := .bool (nF (r.pl 0))) hf32 rfl rfl rfl rfl rfl rfl (r_move rfl) fun ac29 hf33 => ?_)
      refine seq_end ?_
      clear ac28 hf32
      refine then_normal ?_
      refine code_if hf33 rfl (fun c23_3 => ?_) (fun c23_3 => ?_)
      · have hf34 := hf33.know 23 (u := .bool true) rfl (congrArg Value.bool c23_3)
        refine seq_start (l := [0, 1, 2, 3, 4, 5, 6, 7, 8, 9]) rfl ?_
        refine seq_one (op_val (v := .pointer (some ⟨b5, 0, none⟩)) hf34 rfl rfl rfl rfl rfl rfl (r_fieldAddr fi_108_0 rfl rfl) fun ac30 hf35 => ?_)
        refine seq_one (op_val (v := .int .i64 ((hdP (r.pl 0) (r.pl 1)).1)) hf35 rfl rfl rfl rfl rfl rfl (r_load ag_3 rfl (hI20.at 3 rfl) rfl) fun ac31 hf36 => ?_)
        refine seq_one (op_val (v := .int .i64 x) hf36 rfl rfl rfl rfl rfl rfl (r_move rfl) fun ac32 hf37 => ?_)
        refine seq_one (op_val (v := .agg #[.int .i64 ((hdP (r.pl 0) (r.pl 1)).1), .int .i64 x]) hf37 rfl rfl rfl rfl rfl rfl (r_build (v := .agg #[.int .i64 ((hdP (r.pl 0) (r.pl 1)).1), .int .i64 x]) rfl (fun _ => by kernel_rfl)) fun ac33 hf38 => ?_)
        refine seq_one (op_bslice (s := 108) (cells := #[.int .i64 ((hdP (r.pl 0) (r.pl 1)).1), .int .i64 x]) hf38 rfl rfl rfl rfl rfl (fun _ => by kernel_rfl) hI20 fun ac34 b6 wd12 hb6 hI21 hf39 => ?_)
        have hI22 : Inv w [(b1, #[.int .i64 (N : Int), .int .i64 q, .slice p0 ((r.pl 0).length) c0, .slice p1 ((r.pl 1).length) c1], 85), (b2, #[.int .i64 0, .int .i64 0, .slice none 0 0, .slice none 0 0], 85), (b4, #[.int .i64 (N : Int), .int .i64 q, .slice m3 ((r.pl 0).tail.length) k3, .slice m3' ((tO (r.pl 0) (r.pl 1)).length) k3'], 85), (b5, #[.int .i64 ((hdP (r.pl 0) (r.pl 1)).1), .int .i64 ((hdP (r.pl 0) (r.pl 1)).2)], 108), (b6, #[.int .i64 ((hdP (r.pl 0) (r.pl 1)).1), .int .i64 x], 108)] wd12 := hI21
        refine seq_one (op_val (v := .pointer (some ⟨b4, 2, none⟩)) hf39 rfl rfl rfl rfl rfl rfl (r_fieldAddr fi_85_2 rfl rfl) fun ac35 hf40 => ?_)
        refine seq_one (op_val (v := .slice m3 ((r.pl 0).tail.length) k3) hf40 rfl rfl rfl rfl rfl rfl (r_load ag_83 rfl (hI22.at 2 rfl) rfl) fun ac36 hf41 => ?_)
        have hI23 : Inv w ([(b1, #[.int .i64 (N : Int), .int .i64 q, .slice p0 ((r.pl 0).length) c0, .slice p1 ((r.pl 1).length) c1], 85), (b2, #[.int .i64 0, .int .i64 0, .slice none 0 0, .slice none 0 0], 85), (b4, #[.int .i64 (N : Int), .int .i64 q, .slice m3 ((r.pl 0).tail.length) k3, .slice m3' ((tO (r.pl 0) (r.pl 1)).length) k3'], 85), (b5, #[.int .i64 ((hdP (r.pl 0) (r.pl 1)).1), .int .i64 ((hdP (r.pl 0) (r.pl 1)).2)], 108)] ++ [(b6, #[.int .i64 ((hdP (r.pl 0) (r.pl 1)).1), .int .i64 x], 108)]) _ := hI22
        refine seq_one (op_appendP (A := [(b1, #[.int .i64 (N : Int), .int .i64 q, .slice p0 ((r.pl 0).length) c0, .slice p1 ((r.pl 1).length) c1], 85), (b2, #[.int .i64 0, .int .i64 0, .slice none 0 0, .slice none 0 0], 85), (b4, #[.int .i64 (N : Int), .int .i64 q, .slice m3 ((r.pl 0).tail.length) k3, .slice m3' ((tO (r.pl 0) (r.pl 1)).length) k3'], 85), (b5, #[.int .i64 ((hdP (r.pl 0) (r.pl 1)).1), .int .i64 ((hdP (r.pl 0) (r.pl 1)).2)], 108)]) (S := [(b6, #[.int .i64 ((hdP (r.pl 0) (r.pl 1)).1), .int .i64 x], 108)]) (F := [((hdP (r.pl 0) (r.pl 1)).1, x)]) (G := ((r.pl 0).tail)) rfl rfl hf41 rfl rfl rfl us_83 if2_108 rfl rfl Sp.lit1 rfl (rows_rv (View.rows (Tr.view htc3 (View.start (SS := []) hl0 hr0) (View.start (SS := []) hl1 hr1)) hI23 (fk_app (fresh_keys (ks := [b1, b2, b4, b5]) rfl (fk_cons hb1 (fk_cons hb2 (fk_cons hb4 (fk_cons hb5 fk_nil))))) (fun x hx => by simp only [List.mem_singleton] at hx; subst hx; exact hb6)) (fun _ h => by cases h))) hI23 (fun x hx => by simp only [List.mem_singleton] at hx; subst hx; exact hb6) (by simp only [List.length_append, List.length_nil, List.length_cons, maxLen]; have := Ro.tl_le r; have := Ro.pl_le r 0; have := Ro.pl_le r 1; omega) (by simp only [List.length_append, List.length_nil, List.length_cons, Nat.zero_add]; have := Ro.tl_le r; have := Ro.pl_le r 0; have := Ro.pl_le r 1; omega) fun ac37 p7 capp7 Sp7 wd13 hsp7 hzp7 hI24 hf42 => ?_)
        have hI25 : Inv w ([(b1, #[.int .i64 (N : Int), .int .i64 q, .slice p0 ((r.pl 0).length) c0, .slice p1 ((r.pl 1).length) c1], 85), (b2, #[.int .i64 0, .int .i64 0, .slice none 0 0, .slice none 0 0], 85), (b4, #[.int .i64 (N : Int), .int .i64 q, .slice m3 ((r.pl 0).tail.length) k3, .slice m3' ((tO (r.pl 0) (r.pl 1)).length) k3'], 85), (b5, #[.int .i64 ((hdP (r.pl 0) (r.pl 1)).1), .int .i64 ((hdP (r.pl 0) (r.pl 1)).2)], 108)] ++ Sp7) wd13 := hI24
        refine seq_one (op_val (v := .pointer (some ⟨b4, 2, none⟩)) hf42 rfl rfl rfl rfl rfl rfl (r_fieldAddr fi_85_2 rfl rfl) fun ac38 hf43 => ?_)
        refine seq_one (op_store (cs' := #[.int .i64 (N : Int), .int .i64 q, .slice p7 (([((hdP (r.pl 0) (r.pl 1)).1, x)] ++ ((r.pl 0).tail)).length) capp7, .slice m3' ((tO (r.pl 0) (r.pl 1)).length) k3']) 2 hf43 rfl rfl rfl rfl rfl sz_83 hI25 rfl (ltb rfl) (by kernel_rfl) fun wd14 hI26 => ?_)
        have hI27 : Inv w ([(b1, #[.int .i64 (N : Int), .int .i64 q, .slice p0 ((r.pl 0).length) c0, .slice p1 ((r.pl 1).length) c1], 85), (b2, #[.int .i64 0, .int .i64 0, .slice none 0 0, .slice none 0 0], 85), (b4, #[.int .i64 (N : Int), .int .i64 q, .slice p7 (([((hdP (r.pl 0) (r.pl 1)).1, x)] ++ ((r.pl 0).tail)).length) capp7, .slice m3' ((tO (r.pl 0) (r.pl 1)).length) k3'], 85), (b5, #[.int .i64 ((hdP (r.pl 0) (r.pl 1)).1), .int .i64 ((hdP (r.pl 0) (r.pl 1)).2)], 108)] ++ Sp7) wd14 := hI26
        refine seq_end ?_
        clear hf33 ac29 hf34 ac30 hf35 ac31 hf36 ac32 hf37 ac33 wd11 hI20 hf38 hI21 ac34 hf39 ac35 hf40 hI22 ac36 wd12 hI23 hf41 hI24 ac37 hf42 wd13 hI25 hI26
        refine then_normal ?_
        refine code_seq ?_
        refine seq_start (l := [0, 1, 2]) rfl ?_
        refine seq_one (op_val (v := .agg #[.int .i64 (N : Int), .int .i64 q, .slice p7 (([((hdP (r.pl 0) (r.pl 1)).1, x)] ++ ((r.pl 0).tail)).length) capp7, .slice m3' ((tO (r.pl 0) (r.pl 1)).length) k3']) hf43 rfl rfl rfl rfl rfl rfl (r_loadW ag_85 sz_85 rfl (hI27.at 2 rfl) rfl) fun ac39 hf44 => ?_)
        refine seq_one (op_storeW (cells := #[.int .i64 (N : Int), .int .i64 q, .slice p7 (([((hdP (r.pl 0) (r.pl 1)).1, x)] ++ ((r.pl 0).tail)).length) capp7, .slice m3' ((tO (r.pl 0) (r.pl 1)).length) k3']) 1 hf44 rfl rfl rfl rfl rfl sz_85 rfl rfl hI27 rfl rfl fun wd15 hI28 => ?_)
        have hI29 : Inv w ([(b1, #[.int .i64 (N : Int), .int .i64 q, .slice p0 ((r.pl 0).length) c0, .slice p1 ((r.pl 1).length) c1], 85), (b2, #[.int .i64 (N : Int), .int .i64 q, .slice p7 (([((hdP (r.pl 0) (r.pl 1)).1, x)] ++ ((r.pl 0).tail)).length) capp7, .slice m3' ((tO (r.pl 0) (r.pl 1)).length) k3'], 85), (b4, #[.int .i64 (N : Int), .int .i64 q, .slice p7 (([((hdP (r.pl 0) (r.pl 1)).1, x)] ++ ((r.pl 0).tail)).length) capp7, .slice m3' ((tO (r.pl 0) (r.pl 1)).length) k3'], 85), (b5, #[.int .i64 ((hdP (r.pl 0) (r.pl 1)).1), .int .i64 ((hdP (r.pl 0) (r.pl 1)).2)], 108)] ++ Sp7) wd15 := hI28
        refine seq_one (op_val (v := .int .i64 0) hf44 rfl rfl rfl rfl rfl rfl (r_assign rfl) fun ac40 hf45 => ?_)
        refine seq_end ?_
        clear ac38 hf43 wd14 hI27 hI28 ac39 hf44
        refine then_normal ?_
        refine wp_ret ?_
        obtain ⟨e0, e1, e2⟩ := Ro.set_pl1 (r := r) (x := x) g11_1 (by simpa using c15_2) c23_3
        exact postC1 rfl hf45 rfl ag_85 sz_85 (hI29.at 1 rfl) rfl rfl ⟨Sp7, p7, capp7, m3', k3', (by rw [e0, e1, e2]), (Inv.keep (A := []) (N := [(b1, #[.int .i64 (N : Int), .int .i64 q, .slice p0 ((r.pl 0).length) c0, .slice p1 ((r.pl 1).length) c1], 85), (b2, #[.int .i64 (N : Int), .int .i64 q, .slice p7 (([((hdP (r.pl 0) (r.pl 1)).1, x)] ++ ((r.pl 0).tail)).length) capp7, .slice m3' ((tO (r.pl 0) (r.pl 1)).length) k3'], 85), (b4, #[.int .i64 (N : Int), .int .i64 q, .slice p7 (([((hdP (r.pl 0) (r.pl 1)).1, x)] ++ ((r.pl 0).tail)).length) capp7, .slice m3' ((tO (r.pl 0) (r.pl 1)).length) k3'], 85), (b5, #[.int .i64 ((hdP (r.pl 0) (r.pl 1)).1), .int .i64 ((hdP (r.pl 0) (r.pl 1)).2)], 108)]) (T := Sp7) hI29 (fresh_keys (ks := [b1, b2, b4, b5]) rfl (fk_cons hb1 (fk_cons hb2 (fk_cons hb4 (fk_cons hb5 fk_nil)))))), hzp7, by rw [e0]; exact (Tr.sp hsp7), by rw [e1]; exact (Tr.mono htd3 (fun _ h => by cases h))⟩
      · have hf46 := hf33.know 23 (u := .bool false) rfl (congrArg Value.bool c23_3)
        refine seq_start (l := [0, 1, 2, 3, 4, 5, 6, 7, 8, 9]) rfl ?_
        refine seq_one (op_val (v := .pointer (some ⟨b5, 0, none⟩)) hf46 rfl rfl rfl rfl rfl rfl (r_fieldAddr fi_108_0 rfl rfl) fun ac41 hf47 => ?_)
        refine seq_one (op_val (v := .int .i64 ((hdP (r.pl 0) (r.pl 1)).1)) hf47 rfl rfl rfl rfl rfl rfl (r_load ag_3 rfl (hI20.at 3 rfl) rfl) fun ac42 hf48 => ?_)
        refine seq_one (op_val (v := .int .i64 x) hf48 rfl rfl rfl rfl rfl rfl (r_move rfl) fun ac43 hf49 => ?_)
        refine seq_one (op_val (v := .agg #[.int .i64 ((hdP (r.pl 0) (r.pl 1)).1), .int .i64 x]) hf49 rfl rfl rfl rfl rfl rfl (r_build (v := .agg #[.int .i64 ((hdP (r.pl 0) (r.pl 1)).1), .int .i64 x]) rfl (fun _ => by kernel_rfl)) fun ac44 hf50 => ?_)
        refine seq_one (op_bslice (s := 108) (cells := #[.int .i64 ((hdP (r.pl 0) (r.pl 1)).1), .int .i64 x]) hf50 rfl rfl rfl rfl rfl (fun _ => by kernel_rfl) hI20 fun ac45 b6 wd16 hb6 hI30 hf51 => ?_)
        have hI31 : Inv w [(b1, #[.int .i64 (N : Int), .int .i64 q, .slice p0 ((r.pl 0).length) c0, .slice p1 ((r.pl 1).length) c1], 85), (b2, #[.int .i64 0, .int .i64 0, .slice none 0 0, .slice none 0 0], 85), (b4, #[.int .i64 (N : Int), .int .i64 q, .slice m3 ((r.pl 0).tail.length) k3, .slice m3' ((tO (r.pl 0) (r.pl 1)).length) k3'], 85), (b5, #[.int .i64 ((hdP (r.pl 0) (r.pl 1)).1), .int .i64 ((hdP (r.pl 0) (r.pl 1)).2)], 108), (b6, #[.int .i64 ((hdP (r.pl 0) (r.pl 1)).1), .int .i64 x], 108)] wd16 := hI30
        refine seq_one (op_val (v := .pointer (some ⟨b4, 3, none⟩)) hf51 rfl rfl rfl rfl rfl rfl (r_fieldAddr fi_85_3 rfl rfl) fun ac46 hf52 => ?_)
        refine seq_one (op_val (v := .slice m3' ((tO (r.pl 0) (r.pl 1)).length) k3') hf52 rfl rfl rfl rfl rfl rfl (r_load ag_83 rfl (hI31.at 2 rfl) rfl) fun ac47 hf53 => ?_)
        have hI32 : Inv w ([(b1, #[.int .i64 (N : Int), .int .i64 q, .slice p0 ((r.pl 0).length) c0, .slice p1 ((r.pl 1).length) c1], 85), (b2, #[.int .i64 0, .int .i64 0, .slice none 0 0, .slice none 0 0], 85), (b4, #[.int .i64 (N : Int), .int .i64 q, .slice m3 ((r.pl 0).tail.length) k3, .slice m3' ((tO (r.pl 0) (r.pl 1)).length) k3'], 85), (b5, #[.int .i64 ((hdP (r.pl 0) (r.pl 1)).1), .int .i64 ((hdP (r.pl 0) (r.pl 1)).2)], 108)] ++ [(b6, #[.int .i64 ((hdP (r.pl 0) (r.pl 1)).1), .int .i64 x], 108)]) _ := hI31
        refine seq_one (op_appendP (A := [(b1, #[.int .i64 (N : Int), .int .i64 q, .slice p0 ((r.pl 0).length) c0, .slice p1 ((r.pl 1).length) c1], 85), (b2, #[.int .i64 0, .int .i64 0, .slice none 0 0, .slice none 0 0], 85), (b4, #[.int .i64 (N : Int), .int .i64 q, .slice m3 ((r.pl 0).tail.length) k3, .slice m3' ((tO (r.pl 0) (r.pl 1)).length) k3'], 85), (b5, #[.int .i64 ((hdP (r.pl 0) (r.pl 1)).1), .int .i64 ((hdP (r.pl 0) (r.pl 1)).2)], 108)]) (S := [(b6, #[.int .i64 ((hdP (r.pl 0) (r.pl 1)).1), .int .i64 x], 108)]) (F := [((hdP (r.pl 0) (r.pl 1)).1, x)]) (G := (tO (r.pl 0) (r.pl 1))) rfl rfl hf53 rfl rfl rfl us_83 if2_108 rfl rfl Sp.lit1 rfl (rows_rv (View.rows (Tr.view htd3 (View.start (SS := []) hl0 hr0) (View.start (SS := []) hl1 hr1)) hI32 (fk_app (fresh_keys (ks := [b1, b2, b4, b5]) rfl (fk_cons hb1 (fk_cons hb2 (fk_cons hb4 (fk_cons hb5 fk_nil))))) (fun x hx => by simp only [List.mem_singleton] at hx; subst hx; exact hb6)) (fun _ h => by cases h))) hI32 (fun x hx => by simp only [List.mem_singleton] at hx; subst hx; exact hb6) (by simp only [List.length_append, List.length_nil, List.length_cons, maxLen]; have := Ro.tl_le r; have := Ro.pl_le r 0; have := Ro.pl_le r 1; omega) (by simp only [List.length_append, List.length_nil, List.length_cons, Nat.zero_add]; have := Ro.tl_le r; have := Ro.pl_le r 0; have := Ro.pl_le r 1; omega) fun ac48 p7 capp7 Sp7 wd17 hsp7 hzp7 hI33 hf54 => ?_)
        have hI34 : Inv w ([(b1, #[.int .i64 (N : Int), .int .i64 q, .slice p0 ((r.pl 0).length) c0, .slice p1 ((r.pl 1).length) c1], 85), (b2, #[.int .i64 0, .int .i64 0, .slice none 0 0, .slice none 0 0], 85), (b4, #[.int .i64 (N : Int), .int .i64 q, .slice m3 ((r.pl 0).tail.length) k3, .slice m3' ((tO (r.pl 0) (r.pl 1)).length) k3'], 85), (b5, #[.int .i64 ((hdP (r.pl 0) (r.pl 1)).1), .int .i64 ((hdP (r.pl 0) (r.pl 1)).2)], 108)] ++ Sp7) wd17 := hI33
        refine seq_one (op_val (v := .pointer (some ⟨b4, 3, none⟩)) hf54 rfl rfl rfl rfl rfl rfl (r_fieldAddr fi_85_3 rfl rfl) fun ac49 hf55 => ?_)
        refine seq_one (op_store (cs' := #[.int .i64 (N : Int), .int .i64 q, .slice m3 ((r.pl 0).tail.length) k3, .slice p7 (([((hdP (r.pl 0) (r.pl 1)).1, x)] ++ (tO (r.pl 0) (r.pl 1))).length) capp7]) 2 hf55 rfl rfl rfl rfl rfl sz_83 hI34 rfl (ltb rfl) (by kernel_rfl) fun wd18 hI35 => ?_)
        have hI36 : Inv w ([(b1, #[.int .i64 (N : Int), .int .i64 q, .slice p0 ((r.pl 0).length) c0, .slice p1 ((r.pl 1).length) c1], 85), (b2, #[.int .i64 0, .int .i64 0, .slice none 0 0, .slice none 0 0], 85), (b4, #[.int .i64 (N : Int), .int .i64 q, .slice m3 ((r.pl 0).tail.length) k3, .slice p7 (([((hdP (r.pl 0) (r.pl 1)).1, x)] ++ (tO (r.pl 0) (r.pl 1))).length) capp7], 85), (b5, #[.int .i64 ((hdP (r.pl 0) (r.pl 1)).1), .int .i64 ((hdP (r.pl 0) (r.pl 1)).2)], 108)] ++ Sp7) wd18 := hI35
        refine seq_end ?_
        clear hf33 ac29 hf46 ac41 hf47 ac42 hf48 ac43 hf49 ac44 wd11 hI20 hf50 hI30 ac45 hf51 ac46 hf52 hI31 ac47 wd16 hI32 hf53 hI33 ac48 hf54 wd17 hI34 hI35
        refine then_normal ?_
        refine code_seq ?_
        refine seq_start (l := [0, 1, 2]) rfl ?_
        refine seq_one (op_val (v := .agg #[.int .i64 (N : Int), .int .i64 q, .slice m3 ((r.pl 0).tail.length) k3, .slice p7 (([((hdP (r.pl 0) (r.pl 1)).1, x)] ++ (tO (r.pl 0) (r.pl 1))).length) capp7]) hf55 rfl rfl rfl rfl rfl rfl (r_loadW ag_85 sz_85 rfl (hI36.at 2 rfl) rfl) fun ac50 hf56 => ?_)
        refine seq_one (op_storeW (cells := #[.int .i64 (N : Int), .int .i64 q, .slice m3 ((r.pl 0).tail.length) k3, .slice p7 (([((hdP (r.pl 0) (r.pl 1)).1, x)] ++ (tO (r.pl 0) (r.pl 1))).length) capp7]) 1 hf56 rfl rfl rfl rfl rfl sz_85 rfl rfl hI36 rfl rfl fun wd19 hI37 => ?_)
        have hI38 : Inv w ([(b1, #[.int .i64 (N : Int), .int .i64 q, .slice p0 ((r.pl 0).length) c0, .slice p1 ((r.pl 1).length) c1], 85), (b2, #[.int .i64 (N : Int), .int .i64 q, .slice m3 ((r.pl 0).tail.length) k3, .slice p7 (([((hdP (r.pl 0) (r.pl 1)).1, x)] ++ (tO (r.pl 0) (r.pl 1))).length) capp7], 85), (b4, #[.int .i64 (N : Int), .int .i64 q, .slice m3 ((r.pl 0).tail.length) k3, .slice p7 (([((hdP (r.pl 0) (r.pl 1)).1, x)] ++ (tO (r.pl 0) (r.pl 1))).length) capp7], 85), (b5, #[.int .i64 ((hdP (r.pl 0) (r.pl 1)).1), .int .i64 ((hdP (r.pl 0) (r.pl 1)).2)], 108)] ++ Sp7) wd19 := hI37
        refine seq_one (op_val (v := .int .i64 0) hf56 rfl rfl rfl rfl rfl rfl (r_assign rfl) fun ac51 hf57 => ?_)
        refine seq_end ?_
        clear ac49 hf55 wd18 hI36 hI37 ac50 hf56
        refine then_normal ?_
        refine wp_ret ?_
        obtain ⟨e0, e1, e2⟩ := Ro.set_pl2 (r := r) (x := x) g11_1 (by simpa using c15_2) c23_3
        exact postC1 rfl hf57 rfl ag_85 sz_85 (hI38.at 1 rfl) rfl rfl ⟨Sp7, m3, k3, p7, capp7, (by rw [e0, e1, e2]), (Inv.keep (A := []) (N := [(b1, #[.int .i64 (N : Int), .int .i64 q, .slice p0 ((r.pl 0).length) c0, .slice p1 ((r.pl 1).length) c1], 85), (b2, #[.int .i64 (N : Int), .int .i64 q, .slice m3 ((r.pl 0).tail.length) k3, .slice p7 (([((hdP (r.pl 0) (r.pl 1)).1, x)] ++ (tO (r.pl 0) (r.pl 1))).length) capp7], 85), (b4, #[.int .i64 (N : Int), .int .i64 q, .slice m3 ((r.pl 0).tail.length) k3, .slice p7 (([((hdP (r.pl 0) (r.pl 1)).1, x)] ++ (tO (r.pl 0) (r.pl 1))).length) capp7], 85), (b5, #[.int .i64 ((hdP (r.pl 0) (r.pl 1)).1), .int .i64 ((hdP (r.pl 0) (r.pl 1)).2)], 108)]) (T := Sp7) hI38 (fresh_keys (ks := [b1, b2, b4, b5]) rfl (fk_cons hb1 (fk_cons hb2 (fk_cons hb4 (fk_cons hb5 fk_nil)))))), hzp7, by rw [e0]; exact (Tr.mono htc3 (fun _ h => by cases h)), by rw [e1]; exact (Tr.sp hsp7)⟩
end Go.Proofs.Ytjelaoblpchmmaa
