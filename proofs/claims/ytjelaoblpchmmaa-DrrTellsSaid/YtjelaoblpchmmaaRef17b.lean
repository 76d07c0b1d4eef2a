/-
  The reference of rounds, second part: Credit and Flows.
-/
import Derived.Test.YtjelaoblpchmmaaPlain9
namespace Go.Proofs.Ytjelaoblpchmmaa
set_option linter.unusedVariables false
set_option linter.unusedSimpArgs false
set_option maxRecDepth 100000
open Go.RowKit
set_option maxHeartbeats 8000000 in
theorem rcredit_walk {N q n : Int} {F O : List (Int × Int)} {p0 p1 : Option Addr} {c0 c1 : Nat} (hl0 : F.length ≤ c0) (hl1 : O.length ≤ c1) (hF : F.length ≤ 4096) (hO : O.length ≤ 4096) {w : World} (hr0 : Rows_ w p0 2 (prs F)) (hr1 : Rows_ w p1 2 (prs O)) : Calls Try.prog 50 [.agg #[.int .i64 N, .int .i64 q, .slice p0 F.length c0, .slice p1 O.length c1], .int .i64 n].toArray w fun e w' => e = .returned (.tuple #[.int .i64 (crL (F ++ O) n), .bool (inL (F ++ O) n)]) ∧ Inv w [] w' := by
  have hI1 := Inv.start w
  refine enter (n := 33) Try.func50 rfl rfl rfl ?_
  intro ac1 hf1
  refine code_seq ?_
  refine seq_start (l := [0, 1, 2]) rfl ?_
  refine seq_one (op_box hf1 rfl rfl rfl rfl hI1 fun ac2 b1 wd1 hb1 hI2 hf2 => ?_)
  have hI3 : Inv w [(b1, #[.int .i64 N, .int .i64 q, .slice p0 F.length c0, .slice p1 O.length c1], 85)] wd1 := hI2
  refine seq_one (op_val (v := .int .i64 0) hf2 rfl rfl rfl rfl rfl rfl (r_assign rfl) fun ac3 hf3 => ?_)
  refine seq_one (op_val (v := .bool false) hf3 rfl rfl rfl rfl rfl rfl (r_assign rfl) fun ac4 hf4 => ?_)
  refine seq_end ?_
  clear ac1 hI1 hf1 hI2 ac2 hf2 ac3 hf3
  refine then_normal ?_
  refine code_seq ?_
  refine any_start (fun w => Has [(b1, #[.int .i64 N, .int .i64 q, .slice p0 F.length c0, .slice p1 O.length c1], 85)] w) follows (Has.drew (Has.cons (hI3.at 0 rfl) Has.nil)) ?_
  have hS1 : Has [(b1, #[.int .i64 N, .int .i64 q, .slice p0 F.length c0, .slice p1 O.length c1], 85)] _ := Has.drew (Has.cons (hI3.at 0 rfl) Has.nil)
  have hI4 := hI3.drew
  refine any_val (i := 1) (v := .pointer (some ⟨b1, 2, none⟩)) hf4 rfl rfl rfl rfl rfl rfl (fun _ _ _ h => h) (by kernel_rfl) (by kernel_rfl) (by kernel_rfl) (fun wd1 hS1 => (r_fieldAddr fi_85_2 rfl rfl)) hS1 fun ac5 hf5 => ?_
  refine any_val (i := 2) (v := .slice p0 F.length c0) hf5 rfl rfl rfl rfl rfl rfl (fun _ _ _ h => h) (by kernel_rfl) (by kernel_rfl) (by kernel_rfl) (fun wd1 hS1 => (r_load ag_83 rfl (hS1.at 0 rfl) rfl)) hS1 fun ac6 hf6 => ?_
  refine any_val (i := 4) (v := .pointer (some ⟨b1, 3, none⟩)) hf6 rfl rfl rfl rfl rfl rfl (fun _ _ _ h => h) (by kernel_rfl) (by kernel_rfl) (by kernel_rfl) (fun wd1 hS1 => (r_fieldAddr fi_85_3 rfl rfl)) hS1 fun ac7 hf7 => ?_
  refine any_val (i := 5) (v := .slice p1 O.length c1) hf7 rfl rfl rfl rfl rfl rfl (fun _ _ _ h => h) (by kernel_rfl) (by kernel_rfl) (by kernel_rfl) (fun wd1 hS1 => (r_load ag_83 rfl (hS1.at 0 rfl) rfl)) hS1 fun ac8 hf8 => ?_
  refine any_one (i := 0) (by kernel_rfl) ?_
  refine (op_bslice (s := 108) (cells := #[]) hf8 rfl rfl rfl rfl rfl (fun _ => by kernel_rfl) hI4 fun ac9 b2 wd2 hb2 hI5 hf9 => ⟨?_, ?_⟩)
  · exact (Has.cons (hI5.at 0 rfl) Has.nil)
  have hI6 : Inv w [(b1, #[.int .i64 N, .int .i64 q, .slice p0 F.length c0, .slice p1 O.length c1], 85), (b2, #[], 108)] wd2 := hI5
  have hS2 : Has [(b1, #[.int .i64 N, .int .i64 q, .slice p0 F.length c0, .slice p1 O.length c1], 85)] _ := (Has.cons (hI6.at 0 rfl) Has.nil)
  refine any_one (i := 3) (by kernel_rfl) ?_
  have hI7 : Inv w ([(b1, #[.int .i64 N, .int .i64 q, .slice p0 F.length c0, .slice p1 O.length c1], 85)] ++ [(b2, #[], 108)]) _ := hI6
  refine (op_appendP (A := [(b1, #[.int .i64 N, .int .i64 q, .slice p0 F.length c0, .slice p1 O.length c1], 85)]) (S := [(b2, #[], 108)]) (F := []) (G := F) rfl rfl hf9 rfl rfl rfl us_83 if2_108 rfl rfl Sp.lit0 rfl (rows_rv (View.rows (Tr.view (Tr.fst (a := (p0, c0, F)) (b := (p1, c1, O)) (SS := [])) (View.start (SS := []) hl0 hr0) (View.start (SS := []) hl1 hr1)) hI7 (fk_app (fresh_keys (ks := [b1]) rfl (fk_cons hb1 fk_nil)) (fun x hx => by simp only [List.mem_singleton] at hx; subst hx; exact hb2)) (fun _ h => by cases h))) hI7 (fun x hx => by simp only [List.mem_singleton] at hx; subst hx; exact hb2) (by simp only [List.length_append, List.length_nil, List.length_cons, maxLen]; omega) (by simp only [List.length_append, List.length_nil, List.length_cons, Nat.zero_add]; omega) fun ac10 p3 capp3 Sp3 wd3 hsp3 hzp3 hI8 hf10 => ⟨?_, ?_⟩)
  · exact (Has.cons (hI8.at 0 rfl) Has.nil)
  have hI9 : Inv w ([(b1, #[.int .i64 N, .int .i64 q, .slice p0 F.length c0, .slice p1 O.length c1], 85)] ++ Sp3) wd3 := hI8
  have hS3 : Has [(b1, #[.int .i64 N, .int .i64 q, .slice p0 F.length c0, .slice p1 O.length c1], 85)] _ := (Has.cons (hI9.at 0 rfl) Has.nil)
  refine any_one (i := 6) (by kernel_rfl) ?_
  refine (op_appendP (A := [(b1, #[.int .i64 N, .int .i64 q, .slice p0 F.length c0, .slice p1 O.length c1], 85)]) (S := Sp3) (F := ([] ++ F)) (G := O) rfl rfl hf10 rfl rfl rfl us_83 if2_108 rfl rfl hsp3 rfl (rows_rv (View.rows (Tr.view (Tr.snd (a := (p0, c0, F)) (b := (p1, c1, O)) (SS := [])) (View.start (SS := []) hl0 hr0) (View.start (SS := []) hl1 hr1)) hI9 (fk_app (fresh_keys (ks := [b1]) rfl (fk_cons hb1 fk_nil)) hzp3) (fun _ h => by cases h))) hI9 hzp3 (by simp only [List.length_append, List.length_nil, List.length_cons, maxLen]; omega) (by simp only [List.length_append, List.length_nil, List.length_cons, Nat.zero_add]; omega) fun ac11 p4 capp4 Sp4 wd4 hsp4 hzp4 hI10 hf11 => ⟨?_, ?_⟩)
  · exact (Has.cons (hI10.at 0 rfl) Has.nil)
  obtain ⟨xs4, exs4⟩ : ∃ xs, xs = (([] ++ F) ++ O) := ⟨_, rfl⟩
  rw [← exs4] at hsp4 hf11
  have hxl : xs4.length ≤ 8192 := by rw [exs4]; simp only [List.length_append, List.length_nil]; omega
  have hI11 : Inv w ([(b1, #[.int .i64 N, .int .i64 q, .slice p0 F.length c0, .slice p1 O.length c1], 85)] ++ Sp4) wd4 := hI10
  have hS4 : Has [(b1, #[.int .i64 N, .int .i64 q, .slice p0 F.length c0, .slice p1 O.length c1], 85)] _ := (Has.cons (hI11.at 0 rfl) Has.nil)
  refine any_val (i := 7) (v := .slice p4 xs4.length capp4) hf11 rfl rfl rfl rfl rfl rfl (fun _ _ _ h => h) (by kernel_rfl) (by kernel_rfl) (by kernel_rfl) (fun wd4 hS4 => (r_assign rfl)) hS4 fun ac12 hf12 => ?_
  refine any_end (by kernel_rfl) ?_
  clear hI3 ac4 hf4 ac5 hf5 ac6 hf6 ac7 hf7 ac8 wd1 hI4 hf8 hI5 hS1 hI6 ac9 wd2 hI7 hf9 hI8 hS2 ac10 wd3 hI9 hf10 hI10 hS3 ac11 hf11 hS4
  refine then_normal ?_
  refine code_seq ?_
  refine code_seq ?_
  refine seq_start (l := [0]) rfl ?_
  refine seq_one (op_val (v := .int .i64 0) hf12 rfl rfl rfl rfl rfl rfl (r_assign rfl) fun ac13 hf13 => ?_)
  refine seq_end ?_
  clear ac12 hf12
  refine then_normal ?_
  refine wp_block ?_
  refine code_loop (α := Nat) (fun (i : Nat) => [(0, .agg #[.int .i64 N, .int .i64 q, .slice p0 F.length c0, .slice p1 O.length c1]), (1, .int .i64 n), (2, .pointer (some ⟨b1, 0, none⟩)), (6, .slice p4 xs4.length capp4), (8, .slice (some ⟨b2, 0, none⟩) 0 0), (9, .pointer (some ⟨b1, 2, none⟩)), (10, .slice p0 F.length c0), (11, .slice p3 (([] ++ F).length) capp3), (12, .pointer (some ⟨b1, 3, none⟩)), (13, .slice p1 O.length c1), (14, .slice p4 xs4.length capp4), (7, .int .i64 (i : Int))]) (fun (i : Nat) => fun wL => Inv w ([(b1, #[.int .i64 N, .int .i64 q, .slice p0 F.length c0, .slice p1 O.length c1], 85)] ++ Sp4) wL ∧ (i ≤ xs4.length ∧ ∀ j, j < i → (xs4.getD j (0, 0)).1 ≠ n)) (fun (i : Nat) => xs4.length - i) 0 (hf13.cons 0 rfl (hf13.cons 1 rfl (hf13.cons 2 rfl (hf13.cons 6 rfl (hf13.cons 8 rfl (hf13.cons 9 rfl (hf13.cons 10 rfl (hf13.cons 11 rfl (hf13.cons 12 rfl (hf13.cons 13 rfl (hf13.cons 14 rfl (hf13.cons 7 rfl hf13.nil)))))))))))) ⟨hI11, ⟨Nat.zero_le _, fun _ h => absurd h (Nat.not_lt_zero _)⟩⟩ ?_
  intro i ac14 wd5 hf14 hL1
  obtain ⟨hI12, hx1⟩ := hL1
  clear ac13 wd4 hf13 hI11
  refine code_seq ?_
  refine code_seq ?_
  refine seq_start (l := [0, 1, 2, 3]) rfl ?_
  refine seq_one (op_val (v := .int .i64 (i : Int)) hf14 rfl rfl rfl rfl rfl rfl (r_move rfl) fun ac15 hf15 => ?_)
  refine seq_one (op_val (v := .slice p4 xs4.length capp4) hf15 rfl rfl rfl rfl rfl rfl (r_move rfl) fun ac16 hf16 => ?_)
  refine seq_one (op_val (v := .int .i64 ((xs4.length : Nat) : Int)) hf16 rfl rfl rfl rfl rfl rfl (r_len sl_83 rfl) fun ac17 hf17 => ?_)
  refine seq_one (op_val (v := .bool (decide ((i : Int) < ((xs4.length : Nat) : Int)))) hf17 rfl rfl rfl rfl rfl rfl (r_lss rfl rfl) fun ac18 hf18 => ?_)
  refine seq_end ?_
  clear ac14 hf14 ac15 hf15 ac16 hf16 ac17 hf17
  refine then_normal ?_
  refine code_if hf18 rfl (fun c18_1 => ?_) (fun c18_1 => ?_)
  · have hf19 := hf18.know 18 (u := .bool true) rfl (congrArg Value.bool c18_1)
    refine wp_skip ?_
    refine then_normal ?_
    refine code_seq ?_
    refine wp_block ?_
    refine code_seq ?_
    refine seq_start (l := [0, 1, 2, 3, 4, 5, 6]) rfl ?_
    refine seq_one (op_val (v := .slice p4 xs4.length capp4) hf19 rfl rfl rfl rfl rfl rfl (r_move rfl) fun ac19 hf20 => ?_)
    refine seq_one (op_val (v := .int .i64 (i : Int)) hf20 rfl rfl rfl rfl rfl rfl (r_move rfl) fun ac20 hf21 => ?_)
    refine seq_one (op_val (v := .pointer (slAt p4 (i * 2))) hf21 rfl rfl rfl rfl rfl rfl (r_indexAddrR (i := i) (sz := 2) sl_83 rfl rfl rfl (by have := of_decide_eq_true c18_1; omega) rfl ⟨_, ((View.rows (View.sp hsp4) hI12 (fk_app (fresh_keys (ks := [b1]) rfl (fk_cons hb1 fk_nil)) hzp4) (fun x hx => List.mem_append_right _ hx)) _ _ (prs_get (F := xs4) (j := i) (by have := of_decide_eq_true c18_1; omega))).choose_spec.1⟩) fun ac21 hf22 => ?_)
    refine seq_one (op_val (v := .pointer (slAt p4 (i * 2 + 0))) hf22 rfl rfl rfl rfl rfl rfl (r_fieldAddrR fi_108_0 rfl ⟨_, ((View.rows (View.sp hsp4) hI12 (fk_app (fresh_keys (ks := [b1]) rfl (fk_cons hb1 fk_nil)) hzp4) (fun x hx => List.mem_append_right _ hx)) _ _ (prs_get (F := xs4) (j := i) (by have := of_decide_eq_true c18_1; omega))).choose_spec.1⟩) fun ac22 hf23 => ?_)
    refine seq_one (op_val (v := .int .i64 ((xs4.getD i (0, 0)).1)) hf23 rfl rfl rfl rfl rfl rfl (r_loadF ag_3 rfl (View.rows (View.sp hsp4) hI12 (fk_app (fresh_keys (ks := [b1]) rfl (fk_cons hb1 fk_nil)) hzp4) (fun x hx => List.mem_append_right _ hx)) (prs_get (F := xs4) (j := i) (by have := of_decide_eq_true c18_1; omega)) rfl) fun ac23 hf24 => ?_)
    refine seq_one (op_val (v := .int .i64 n) hf24 rfl rfl rfl rfl rfl rfl (r_move rfl) fun ac24 hf25 => ?_)
    refine seq_one (op_val (v := .bool (((xs4.getD i (0, 0)).1) == n)) hf25 rfl rfl rfl rfl rfl rfl (r_eql rfl rfl) fun ac25 hf26 => ?_)
    refine seq_end ?_
    clear hf18 ac18 hf19 ac19 hf20 ac20 hf21 ac21 hf22 ac22 hf23 ac23 hf24 ac24 hf25
    refine then_normal ?_
    refine code_if hf26 rfl (fun c27_2 => ?_) (fun c27_2 => ?_)
    · have hf27 := hf26.know 27 (u := .bool true) rfl (congrArg Value.bool c27_2)
      refine code_seq ?_
      refine seq_start (l := [0, 1, 2, 3, 4, 5, 6]) rfl ?_
      refine seq_one (op_val (v := .slice p4 xs4.length capp4) hf27 rfl rfl rfl rfl rfl rfl (r_move rfl) fun ac26 hf28 => ?_)
      refine seq_one (op_val (v := .int .i64 (i : Int)) hf28 rfl rfl rfl rfl rfl rfl (r_move rfl) fun ac27 hf29 => ?_)
      refine seq_one (op_val (v := .pointer (slAt p4 (i * 2))) hf29 rfl rfl rfl rfl rfl rfl (r_indexAddrR (i := i) (sz := 2) sl_83 rfl rfl rfl (by have := of_decide_eq_true c18_1; omega) rfl ⟨_, ((View.rows (View.sp hsp4) hI12 (fk_app (fresh_keys (ks := [b1]) rfl (fk_cons hb1 fk_nil)) hzp4) (fun x hx => List.mem_append_right _ hx)) _ _ (prs_get (F := xs4) (j := i) (by have := of_decide_eq_true c18_1; omega))).choose_spec.1⟩) fun ac28 hf30 => ?_)
      refine seq_one (op_val (v := .pointer (slAt p4 (i * 2 + 1))) hf30 rfl rfl rfl rfl rfl rfl (r_fieldAddrR fi_108_1 rfl ⟨_, ((View.rows (View.sp hsp4) hI12 (fk_app (fresh_keys (ks := [b1]) rfl (fk_cons hb1 fk_nil)) hzp4) (fun x hx => List.mem_append_right _ hx)) _ _ (prs_get (F := xs4) (j := i) (by have := of_decide_eq_true c18_1; omega))).choose_spec.1⟩) fun ac29 hf31 => ?_)
      refine seq_one (op_val (v := .int .i64 ((xs4.getD i (0, 0)).2)) hf31 rfl rfl rfl rfl rfl rfl (r_loadF ag_3 rfl (View.rows (View.sp hsp4) hI12 (fk_app (fresh_keys (ks := [b1]) rfl (fk_cons hb1 fk_nil)) hzp4) (fun x hx => List.mem_append_right _ hx)) (prs_get (F := xs4) (j := i) (by have := of_decide_eq_true c18_1; omega)) rfl) fun ac30 hf32 => ?_)
      refine seq_one (op_val (v := .int .i64 ((xs4.getD i (0, 0)).2)) hf32 rfl rfl rfl rfl rfl rfl (r_assign rfl) fun ac31 hf33 => ?_)
      refine seq_one (op_val (v := .bool true) hf33 rfl rfl rfl rfl rfl rfl (r_assign rfl) fun ac32 hf34 => ?_)
      refine seq_end ?_
      clear hf26 ac25 hf27 ac26 hf28 ac27 hf29 ac28 hf30 ac29 hf31 ac30 hf32 ac31 hf33
      refine then_normal ?_
      refine wp_ret ?_
      refine block_ret ?_
      refine then_ret ?_
      refine then_ret ?_
      refine block_ret ?_
      refine then_ret ?_
      have hc := crL_t hx1.2 (by have := of_decide_eq_true c18_1; omega) (beq_iff_eq.1 c27_2)
      rw [exs4] at hc
      have hd : crL (F ++ O) n = _ ∧ inL (F ++ O) n = _ := hc
      rw [← exs4] at hd
      exact post2 rfl hf34 rfl rfl ⟨by rw [hd.1, hd.2], hI12.done (fk_app (fresh_keys (ks := [b1]) rfl (fk_cons hb1 fk_nil)) hzp4)⟩
    · have hf35 := hf26.know 27 (u := .bool false) rfl (congrArg Value.bool c27_2)
      refine wp_skip ?_
      refine block_normal ?_
      refine then_normal ?_
      refine seq_start (l := [0, 1, 2]) rfl ?_
      refine seq_one (op_val (v := .int .i64 (i : Int)) hf35 rfl rfl rfl rfl rfl rfl (r_move rfl) fun ac33 hf36 => ?_)
      refine seq_one (op_val (v := .int .i64 ((i + 1 : Nat) : Int)) hf36 rfl rfl rfl rfl rfl rfl (r_add (c := ((i + 1 : Nat) : Int)) rfl rfl (wrap_i64 (by omega) (by have := hx1.1; omega))) fun ac34 hf37 => ?_)
      refine seq_one (op_val (v := .int .i64 ((i + 1 : Nat) : Int)) hf37 rfl rfl rfl rfl rfl rfl (r_assign rfl) fun ac35 hf38 => ?_)
      refine seq_end ?_
      clear hf26 ac25 hf35 ac33 hf36 ac34 hf37
      refine then_normal ?_
      exact ⟨i + 1, (hf38.cons 0 rfl (hf38.cons 1 rfl (hf38.cons 2 rfl (hf38.cons 6 rfl (hf38.cons 8 rfl (hf38.cons 9 rfl (hf38.cons 10 rfl (hf38.cons 11 rfl (hf38.cons 12 rfl (hf38.cons 13 rfl (hf38.cons 14 rfl (hf38.cons 7 rfl hf38.nil)))))))))))), ⟨hI12, ⟨(by have := of_decide_eq_true c18_1; omega), fun j hj => by rcases Nat.lt_succ_iff_lt_or_eq.1 hj with h | h; exact hx1.2 j h; rw [h]; exact beq_eq_false_iff_ne.1 c27_2⟩⟩, (by have := of_decide_eq_true c18_1; show xs4.length - (i + 1) < xs4.length - i; omega)⟩
  · have hf39 := hf18.know 18 (u := .bool false) rfl (congrArg Value.bool c18_1)
    refine wp_exit ?_
    refine then_exit ?_
    refine then_exit ?_
    refine block_here ?_
    refine then_normal ?_
    refine code_seq ?_
    refine seq_start (l := [0, 1]) rfl ?_
    refine seq_one (op_val (v := .int .i64 0) hf39 rfl rfl rfl rfl rfl rfl (r_assign rfl) fun ac36 hf40 => ?_)
    refine seq_one (op_val (v := .bool false) hf40 rfl rfl rfl rfl rfl rfl (r_assign rfl) fun ac37 hf41 => ?_)
    refine seq_end ?_
    clear hf18 ac18 hf39 ac36 hf40
    refine then_normal ?_
    refine wp_ret ?_
    have hc := crL_f hx1.2 (by have := of_decide_eq_false c18_1; omega)
    rw [exs4] at hc
    have hd : crL (F ++ O) n = _ ∧ inL (F ++ O) n = _ := hc
    exact post2 rfl hf41 rfl rfl ⟨by rw [hd.1, hd.2], hI12.done (fk_app (fresh_keys (ks := [b1]) rfl (fk_cons hb1 fk_nil)) hzp4)⟩
set_option maxHeartbeats 8000000 in
theorem flows_walk {F : List (Int × Int)} {p0 : Option Addr} {c0 : Nat} (hl0 : F.length ≤ c0) (hF : F.length ≤ 4096) {w : World} (hr0 : Rows_ w p0 2 (prs F)) : Calls Try.prog 49 [.slice p0 F.length c0].toArray w fun e w' => ∃ S p cap, e = .returned (.slice p (F.map Prod.fst).length cap) ∧ Sl 3 .i64 S p cap (F.map Prod.fst) ∧ Inv w S w' ∧ ∀ x ∈ S, w.heap.size ≤ x.1 := by
  have hI1 := Inv.start w
  refine enter (n := 20) Try.func49 rfl rfl rfl ?_
  intro ac1 hf1
  refine code_seq ?_
  refine seq_start (l := [0]) rfl ?_
  refine seq_one (op_val (v := .slice none 0 0) hf1 rfl rfl rfl rfl rfl rfl (r_assign rfl) fun ac2 hf2 => ?_)
  refine seq_end ?_
  clear ac1 hf1
  refine then_normal ?_
  refine code_seq ?_
  refine seq_start (l := [0]) rfl ?_
  refine seq_one (op_val (v := .slice none 0 0) hf2 rfl rfl rfl rfl rfl rfl (r_assign rfl) fun ac3 hf3 => ?_)
  refine seq_end ?_
  clear ac2 hf2
  refine then_normal ?_
  refine code_seq ?_
  refine code_seq ?_
  refine seq_start (l := [0]) rfl ?_
  refine seq_one (op_val (v := .int .i64 0) hf3 rfl rfl rfl rfl rfl rfl (r_assign rfl) fun ac4 hf4 => ?_)
  refine seq_end ?_
  clear ac3 hf3
  refine then_normal ?_
  refine wp_block ?_
  refine code_loop (α := Nat × (Option Addr) × Nat × (List Blk)) (fun (x : Nat × (Option Addr) × Nat × (List Blk)) => match x with | (i, p, cap, S) => [(0, .slice p0 F.length c0), (2, .slice none 0 0), (3, .slice p (((F.map Prod.fst).take i).length) cap), (4, .int .i64 (i : Int))]) (fun (x : Nat × (Option Addr) × Nat × (List Blk)) => match x with | (i, p, cap, S) => fun wL => Inv w ([] ++ S) wL ∧ (i ≤ F.length ∧ Sl 3 .i64 S p cap ((F.map Prod.fst).take i) ∧ (∀ x ∈ S, w.heap.size ≤ x.1))) (fun (x : Nat × (Option Addr) × Nat × (List Blk)) => match x with | (i, p, cap, S) => F.length - i) (0, none, 0, []) (hf4.cons 0 rfl (hf4.cons 2 rfl (hf4.cons 3 rfl (hf4.cons 4 rfl hf4.nil)))) ⟨hI1, ⟨Nat.zero_le _, Sl.nil, fun _ h => by cases h⟩⟩ ?_
  intro ⟨i, p, cap, S⟩ ac5 wd1 hf5 hL1
  obtain ⟨hI2, hx1⟩ := hL1
  dsimp only at hf5 hI2 hx1
  clear ac4 hf4 hI1
  refine code_seq ?_
  refine code_seq ?_
  refine seq_start (l := [0, 1, 2, 3]) rfl ?_
  refine seq_one (op_val (v := .int .i64 (i : Int)) hf5 rfl rfl rfl rfl rfl rfl (r_move rfl) fun ac6 hf6 => ?_)
  refine seq_one (op_val (v := .slice p0 F.length c0) hf6 rfl rfl rfl rfl rfl rfl (r_move rfl) fun ac7 hf7 => ?_)
  refine seq_one (op_val (v := .int .i64 ((F.length : Nat) : Int)) hf7 rfl rfl rfl rfl rfl rfl (r_len sl_83 rfl) fun ac8 hf8 => ?_)
  refine seq_one (op_val (v := .bool (decide ((i : Int) < ((F.length : Nat) : Int)))) hf8 rfl rfl rfl rfl rfl rfl (r_lss rfl rfl) fun ac9 hf9 => ?_)
  refine seq_end ?_
  clear ac5 hf5 ac6 hf6 ac7 hf7 ac8 hf8
  refine then_normal ?_
  refine code_if hf9 rfl (fun c8_1 => ?_) (fun c8_1 => ?_)
  · have hf10 := hf9.know 8 (u := .bool true) rfl (congrArg Value.bool c8_1)
    refine wp_skip ?_
    refine then_normal ?_
    refine code_seq ?_
    refine wp_block ?_
    refine seq_start (l := [0, 1, 2, 3, 4, 5, 6, 7, 8]) rfl ?_
    refine seq_one (op_val (v := .slice p (((F.map Prod.fst).take i).length) cap) hf10 rfl rfl rfl rfl rfl rfl (r_move rfl) fun ac10 hf11 => ?_)
    refine seq_one (op_val (v := .slice p0 F.length c0) hf11 rfl rfl rfl rfl rfl rfl (r_move rfl) fun ac11 hf12 => ?_)
    refine seq_one (op_val (v := .int .i64 (i : Int)) hf12 rfl rfl rfl rfl rfl rfl (r_move rfl) fun ac12 hf13 => ?_)
    refine seq_one (op_val (v := .pointer (slAt p0 (i * 2))) hf13 rfl rfl rfl rfl rfl rfl (r_indexAddrR (i := i) (sz := 2) sl_83 rfl rfl rfl (by have := of_decide_eq_true c8_1; omega) rfl ⟨_, ((View.rows (Tr.view (Tr.fst (a := (p0, c0, F)) (b := (p0, c0, F)) (SS := [])) (View.start (SS := []) hl0 hr0) (View.start (SS := []) hl0 hr0)) hI2 (fk_app (fresh_keys (ks := []) rfl fk_nil) hx1.2.2) (fun _ h => by cases h)) _ _ (prs_get (F := F) (j := i) (by have := of_decide_eq_true c8_1; omega))).choose_spec.1⟩) fun ac13 hf14 => ?_)
    refine seq_one (op_val (v := .pointer (slAt p0 (i * 2 + 0))) hf14 rfl rfl rfl rfl rfl rfl (r_fieldAddrR fi_108_0 rfl ⟨_, ((View.rows (Tr.view (Tr.fst (a := (p0, c0, F)) (b := (p0, c0, F)) (SS := [])) (View.start (SS := []) hl0 hr0) (View.start (SS := []) hl0 hr0)) hI2 (fk_app (fresh_keys (ks := []) rfl fk_nil) hx1.2.2) (fun _ h => by cases h)) _ _ (prs_get (F := F) (j := i) (by have := of_decide_eq_true c8_1; omega))).choose_spec.1⟩) fun ac14 hf15 => ?_)
    refine seq_one (op_val (v := .int .i64 ((F.getD i (0, 0)).1)) hf15 rfl rfl rfl rfl rfl rfl (r_loadF ag_3 rfl (View.rows (Tr.view (Tr.fst (a := (p0, c0, F)) (b := (p0, c0, F)) (SS := [])) (View.start (SS := []) hl0 hr0) (View.start (SS := []) hl0 hr0)) hI2 (fk_app (fresh_keys (ks := []) rfl fk_nil) hx1.2.2) (fun _ h => by cases h)) (prs_get (F := F) (j := i) (by have := of_decide_eq_true c8_1; omega)) rfl) fun ac15 hf16 => ?_)
    refine seq_one (op_bslice (s := 3) (cells := #[.int .i64 ((F.getD i (0, 0)).1)]) hf16 rfl rfl rfl rfl rfl (fun _ => by kernel_rfl) hI2 fun ac16 b1 wd2 hb1 hI3 hf17 => ?_)
    have hI4 : Inv w ([(b1, #[.int .i64 ((F.getD i (0, 0)).1)], 3)] ++ S) wd2 := Inv.tail (A := []) (T := S) (N := [(b1, #[.int .i64 ((F.getD i (0, 0)).1)], 3)]) hI3
    refine seq_one (op_append1 (A := [(b1, #[.int .i64 ((F.getD i (0, 0)).1)], 3)]) (S := S) hf17 rfl rfl rfl us_27 if_3 rfl hx1.2.1 rfl hI4 hx1.2.2 (List.mem_of_getElem? (i := 0) rfl) rfl (by rw [List.length_take]; simp only [maxLen]; omega) (by rw [List.length_take]; omega) fun ac17 p2 capp2 Sp2 wd3 hsp2 hzp2 hI5 hf18 => ?_)
    refine seq_one (op_val (v := .slice p2 ((((F.map Prod.fst).take i) ++ [(F.getD i (0, 0)).1]).length) capp2) hf18 rfl rfl rfl rfl rfl rfl (r_assign rfl) fun ac18 hf19 => ?_)
    refine seq_end ?_
    clear hf9 ac9 hf10 ac10 hf11 ac11 hf12 ac12 hf13 ac13 hf14 ac14 hf15 ac15 wd1 hI2 hf16 hI3 ac16 wd2 hI4 hf17 ac17 hf18
    refine block_normal ?_
    refine then_normal ?_
    refine seq_start (l := [0, 1, 2]) rfl ?_
    refine seq_one (op_val (v := .int .i64 (i : Int)) hf19 rfl rfl rfl rfl rfl rfl (r_move rfl) fun ac19 hf20 => ?_)
    refine seq_one (op_val (v := .int .i64 ((i + 1 : Nat) : Int)) hf20 rfl rfl rfl rfl rfl rfl (r_add (c := ((i + 1 : Nat) : Int)) rfl rfl (wrap_i64 (by omega) (by have := hx1.1; omega))) fun ac20 hf21 => ?_)
    refine seq_one (op_val (v := .int .i64 ((i + 1 : Nat) : Int)) hf21 rfl rfl rfl rfl rfl rfl (r_assign rfl) fun ac21 hf22 => ?_)
    refine seq_end ?_
    clear ac18 hf19 ac19 hf20 ac20 hf21
    refine then_normal ?_
    exact ⟨(i + 1, p2, capp2, Sp2), (hf22.cons 0 rfl (hf22.cons 2 rfl (hf22.cons 3 (congrArg (fun z => some (Value.slice p2 (List.length z) capp2)) (take_fst (by have := of_decide_eq_true c8_1; omega)).symm) (hf22.cons 4 rfl hf22.nil)))), ⟨(Inv.keep (A := []) (N := [(b1, #[.int .i64 ((F.getD i (0, 0)).1)], 3)]) (T := Sp2) hI5 (fresh_keys (ks := [b1]) rfl (fk_cons hb1 fk_nil))), ⟨(by have := of_decide_eq_true c8_1; omega), by rw [take_fst (by have := of_decide_eq_true c8_1; omega)]; exact hsp2, hzp2⟩⟩, (by have := of_decide_eq_true c8_1; show F.length - (i + 1) < F.length - i; omega)⟩
  · have hf23 := hf9.know 8 (u := .bool false) rfl (congrArg Value.bool c8_1)
    refine wp_exit ?_
    refine then_exit ?_
    refine then_exit ?_
    refine block_here ?_
    refine then_normal ?_
    refine code_seq ?_
    refine seq_start (l := [0, 1]) rfl ?_
    refine seq_one (op_val (v := .slice p (((F.map Prod.fst).take i).length) cap) hf23 rfl rfl rfl rfl rfl rfl (r_move rfl) fun ac22 hf24 => ?_)
    refine seq_one (op_val (v := .slice p (((F.map Prod.fst).take i).length) cap) hf24 rfl rfl rfl rfl rfl rfl (r_assign rfl) fun ac23 hf25 => ?_)
    refine seq_end ?_
    clear hf9 ac9 hf23 ac22 hf24
    refine then_normal ?_
    refine wp_ret ?_
    have he := take_all (F := F) (i := i) (by have := of_decide_eq_false c8_1; omega)
    rw [he] at hf25 hx1
    exact post1 rfl hf25 rfl ⟨S, p, cap, rfl, hx1.2.1, (Inv.keep (A := []) (N := []) (T := S) hI2 (fresh_keys (ks := []) rfl fk_nil)), hx1.2.2⟩
end Go.Proofs.Ytjelaoblpchmmaa
