/-
  The reference of rounds, first part: what each call comes to.
-/
import Derived.Test.YtjelaoblpchmmaaPlain8
namespace Go.Proofs.Ytjelaoblpchmmaa
set_option linter.unusedVariables false
set_option linter.unusedSimpArgs false
set_option maxRecDepth 100000
open Go.RowKit
set_option maxHeartbeats 8000000 in
theorem rmay_pur {x : Int} : Pur Try.prog 60 [.int .i64 x] (.bool (mayB x)) := by
  intro w
  have hI1 := Inv.start w
  refine enter (n := 9) Try.func60 rfl rfl rfl ?_
  intro ac1 hf1
  refine code_seq ?_
  refine seq_start (l := [0]) rfl ?_
  refine seq_one (op_val (v := .bool false) hf1 rfl rfl rfl rfl rfl rfl (r_assign rfl) fun ac2 hf2 => ?_)
  refine seq_end ?_
  clear ac1 hf1
  refine then_normal ?_
  refine code_seq ?_
  refine seq_start (l := [0, 1, 2, 3, 4, 5, 6]) rfl ?_
  refine seq_one (op_val (v := .int .i64 x) hf2 rfl rfl rfl rfl rfl rfl (r_move rfl) fun ac3 hf3 => ?_)
  refine seq_one (op_val (v := .bool (decide (x ≥ (-65536)))) hf3 rfl rfl rfl rfl rfl rfl (r_geq rfl rfl) fun ac4 hf4 => ?_)
  refine seq_one (op_val (v := .bool (decide (x ≥ (-65536)))) hf4 rfl rfl rfl rfl rfl rfl (r_move rfl) fun ac5 hf5 => ?_)
  rcases Bool.eq_false_or_eq_true (decide (x ≥ (-65536)) : Bool) with g5_1 | g5_1
  · have hf6 := hf5.know 5 (u := .bool true) rfl (congrArg Value.bool g5_1)
    refine seq_one (op_val (v := .int .i64 x) hf6 rfl rfl rfl rfl rfl rfl (r_move rfl) fun ac6 hf7 => ?_)
    refine seq_one (op_val (v := .bool (decide (x ≤ 1048576))) hf7 rfl rfl rfl rfl rfl rfl (r_leq rfl rfl) fun ac7 hf8 => ?_)
    refine seq_one (op_val (v := .bool (decide (x ≤ 1048576))) hf8 rfl rfl rfl rfl rfl rfl (r_pickT rfl rfl) fun ac8 hf9 => ?_)
    refine seq_one (op_val (v := .bool (decide (x ≤ 1048576))) hf9 rfl rfl rfl rfl rfl rfl (r_assign rfl) fun ac9 hf10 => ?_)
    refine seq_end ?_
    clear ac2 hf2 ac3 hf3 ac4 hf4 hf5 ac5 hf6 ac6 hf7 ac7 hf8 ac8 hf9
    refine then_normal ?_
    refine wp_ret ?_
    refine post1 rfl hf10 rfl ⟨?_, hI1.done (fresh_keys (ks := []) rfl fk_nil)⟩
    rw [show mayB x = decide (x ≤ 1048576) from decide_eq_decide.2 ⟨fun h => h.2, fun h => ⟨of_decide_eq_true g5_1, h⟩⟩]
  · have hf11 := hf5.know 5 (u := .bool false) rfl (congrArg Value.bool g5_1)
    refine seq_one (op_skip hf11 rfl rfl rfl rfl fun ac10 hf12 => ?_)
    refine seq_one (op_skip hf12 rfl rfl rfl rfl fun ac11 hf13 => ?_)
    refine seq_one (op_val (v := .bool false) hf13 rfl rfl rfl rfl rfl rfl (r_pickF rfl rfl) fun ac12 hf14 => ?_)
    refine seq_one (op_val (v := .bool false) hf14 rfl rfl rfl rfl rfl rfl (r_assign rfl) fun ac13 hf15 => ?_)
    refine seq_end ?_
    clear ac2 hf2 ac3 hf3 ac4 hf4 hf5 ac5 hf11 ac10 hf12 ac11 hf13 ac12 hf14
    refine then_normal ?_
    refine wp_ret ?_
    refine post1 rfl hf15 rfl ⟨?_, hI1.done (fresh_keys (ks := []) rfl fk_nil)⟩
    rw [show mayB x = false from decide_eq_false (fun h => of_decide_eq_false g5_1 h.1)]
set_option maxHeartbeats 8000000 in
theorem with_walk {F : List (Int × Int)} {p0 : Option Addr} {c0 : Nat} (hl0 : F.length ≤ c0) (hF : F.length ≤ 4096) {x y : Int} {w : World} (hr0 : Rows_ w p0 2 (prs F)) : Calls Try.prog 61 [.slice p0 F.length c0, .agg #[.int .i64 x, .int .i64 y]].toArray w fun e w' => ∃ S p cap, e = .returned (.slice p (F ++ [(x, y)]).length cap) ∧ Sp 108 S p cap (F ++ [(x, y)]) ∧ Inv w S w' ∧ ∀ x ∈ S, w.heap.size ≤ x.1 := by
  have hI1 := Inv.start w
  refine enter (n := 11) Try.func61 rfl rfl rfl ?_
  intro ac1 hf1
  refine code_seq ?_
  refine seq_start (l := [0, 1]) rfl ?_
  refine seq_one (op_box hf1 rfl rfl rfl rfl hI1 fun ac2 b1 wd1 hb1 hI2 hf2 => ?_)
  have hI3 : Inv w [(b1, #[.int .i64 x, .int .i64 y], 108)] wd1 := hI2
  refine seq_one (op_val (v := .slice none 0 0) hf2 rfl rfl rfl rfl rfl rfl (r_assign rfl) fun ac3 hf3 => ?_)
  refine seq_end ?_
  clear ac1 hI1 hf1 hI2 ac2 hf2
  refine then_normal ?_
  refine code_seq ?_
  refine any_start (fun w => Has [(b1, #[.int .i64 x, .int .i64 y], 108)] w) follows (Has.drew (Has.cons (hI3.at 0 rfl) Has.nil)) ?_
  have hS1 : Has [(b1, #[.int .i64 x, .int .i64 y], 108)] _ := Has.drew (Has.cons (hI3.at 0 rfl) Has.nil)
  have hI4 := hI3.drew
  refine any_val (i := 1) (v := .slice p0 F.length c0) hf3 rfl rfl rfl rfl rfl rfl (fun _ _ _ h => h) (by kernel_rfl) (by kernel_rfl) (by kernel_rfl) (fun wd1 hS1 => (r_move rfl)) hS1 fun ac4 hf4 => ?_
  refine any_val (i := 3) (v := .agg #[.int .i64 x, .int .i64 y]) hf4 rfl rfl rfl rfl rfl rfl (fun _ _ _ h => h) (by kernel_rfl) (by kernel_rfl) (by kernel_rfl) (fun wd1 hS1 => (r_loadW ag_108 sz_108 rfl (hS1.at 0 rfl) rfl)) hS1 fun ac5 hf5 => ?_
  refine any_two (i := 0) (j := 4) (by kernel_rfl) ?_ ?_
  ·
    refine (op_bslice (s := 108) (cells := #[]) hf5 rfl rfl rfl rfl rfl (fun _ => by kernel_rfl) hI4 fun ac6 b2 wd2 hb2 hI5 hf6 => ⟨?_, ?_⟩)
    · exact (Has.cons (hI5.at 0 rfl) Has.nil)
    have hI6 : Inv w [(b1, #[.int .i64 x, .int .i64 y], 108), (b2, #[], 108)] wd2 := hI5
    have hS2 : Has [(b1, #[.int .i64 x, .int .i64 y], 108)] _ := (Has.cons (hI6.at 0 rfl) Has.nil)
    refine any_two (i := 2) (j := 4) (by kernel_rfl) ?_ ?_
    ·
      have hI7 : Inv w ([(b1, #[.int .i64 x, .int .i64 y], 108)] ++ [(b2, #[], 108)]) _ := hI6
      refine (op_appendP (A := [(b1, #[.int .i64 x, .int .i64 y], 108)]) (S := [(b2, #[], 108)]) (F := []) (G := F) rfl rfl hf6 rfl rfl rfl us_83 if2_108 rfl rfl Sp.lit0 rfl (rows_rv (View.rows (Tr.view (Tr.fst (a := (p0, c0, F)) (b := (p0, c0, F)) (SS := [])) (View.start (SS := []) hl0 hr0) (View.start (SS := []) hl0 hr0)) hI7 (fk_app (fresh_keys (ks := [b1]) rfl (fk_cons hb1 fk_nil)) (fun x hx => by simp only [List.mem_singleton] at hx; subst hx; exact hb2)) (fun _ h => by cases h))) hI7 (fun x hx => by simp only [List.mem_singleton] at hx; subst hx; exact hb2) (by simp only [List.length_append, List.length_nil, List.length_cons, maxLen]; omega) (by simp only [List.length_append, List.length_nil, List.length_cons, Nat.zero_add]; omega) fun ac7 p3 capp3 Sp3 wd3 hsp3 hzp3 hI8 hf7 => ⟨?_, ?_⟩)
      · exact (Has.cons (hI8.at 0 rfl) Has.nil)
      have hI9 : Inv w ([(b1, #[.int .i64 x, .int .i64 y], 108)] ++ Sp3) wd3 := hI8
      have hS3 : Has [(b1, #[.int .i64 x, .int .i64 y], 108)] _ := (Has.cons (hI9.at 0 rfl) Has.nil)
      refine any_one (i := 4) (by kernel_rfl) ?_
      refine (op_bslice (s := 108) (cells := #[.int .i64 x, .int .i64 y]) hf7 rfl rfl rfl rfl rfl (fun _ => by kernel_rfl) hI9 fun ac8 b4 wd4 hb4 hI10 hf8 => ⟨?_, ?_⟩)
      · exact (Has.cons (hI10.at 0 rfl) Has.nil)
      have hI11 : Inv w ([(b1, #[.int .i64 x, .int .i64 y], 108), (b4, #[.int .i64 x, .int .i64 y], 108)] ++ Sp3) wd4 := Inv.tail (A := [(b1, #[.int .i64 x, .int .i64 y], 108)]) (T := Sp3) (N := [(b4, #[.int .i64 x, .int .i64 y], 108)]) hI10
      have hS4 : Has [(b1, #[.int .i64 x, .int .i64 y], 108)] _ := (Has.cons (hI11.at 0 rfl) Has.nil)
      refine any_one (i := 5) (by kernel_rfl) ?_
      refine (op_appendP (A := [(b1, #[.int .i64 x, .int .i64 y], 108), (b4, #[.int .i64 x, .int .i64 y], 108)]) (S := Sp3) (F := ([] ++ F)) (G := [(x, y)]) rfl rfl hf8 rfl rfl rfl us_83 if2_108 rfl rfl hsp3 rfl (Rv.blk2 (hI11.at 1 rfl)) hI11 hzp3 (by simp only [List.length_append, List.length_nil, List.length_cons, maxLen]; omega) (by simp only [List.length_append, List.length_nil, List.length_cons, Nat.zero_add]; omega) fun ac9 p5 capp5 Sp5 wd5 hsp5 hzp5 hI12 hf9 => ⟨?_, ?_⟩)
      · exact (Has.cons (hI12.at 0 rfl) Has.nil)
      have hI13 : Inv w ([(b1, #[.int .i64 x, .int .i64 y], 108), (b4, #[.int .i64 x, .int .i64 y], 108)] ++ Sp5) wd5 := hI12
      have hS5 : Has [(b1, #[.int .i64 x, .int .i64 y], 108)] _ := (Has.cons (hI13.at 0 rfl) Has.nil)
      refine any_val (i := 6) (v := .slice p5 ((([] ++ F) ++ [(x, y)]).length) capp5) hf9 rfl rfl rfl rfl rfl rfl (fun _ _ _ h => h) (by kernel_rfl) (by kernel_rfl) (by kernel_rfl) (fun wd5 hS5 => (r_assign rfl)) hS5 fun ac10 hf10 => ?_
      refine any_end (by kernel_rfl) ?_
      clear hI3 ac3 hf3 ac4 hf4 ac5 wd1 hI4 hf5 hI5 hS1 hI6 ac6 wd2 hI7 hf6 hI8 hS2 ac7 wd3 hI9 hf7 hI10 hS3 ac8 wd4 hI11 hf8 hI12 hS4 ac9 hf9 hS5
      refine then_normal ?_
      refine wp_ret ?_
      exact post1 rfl hf10 rfl ⟨Sp5, p5, capp5, rfl, hsp5, (Inv.keep (A := []) (N := [(b1, #[.int .i64 x, .int .i64 y], 108), (b4, #[.int .i64 x, .int .i64 y], 108)]) (T := Sp5) hI13 (fresh_keys (ks := [b1, b4]) rfl (fk_cons hb1 (fk_cons hb4 fk_nil)))), hzp5⟩
    ·
      refine (op_bslice (s := 108) (cells := #[.int .i64 x, .int .i64 y]) hf6 rfl rfl rfl rfl rfl (fun _ => by kernel_rfl) hI6 fun ac11 b3 wd6 hb3 hI14 hf11 => ⟨?_, ?_⟩)
      · exact (Has.cons (hI14.at 0 rfl) Has.nil)
      have hI15 : Inv w [(b1, #[.int .i64 x, .int .i64 y], 108), (b2, #[], 108), (b3, #[.int .i64 x, .int .i64 y], 108)] wd6 := hI14
      have hS6 : Has [(b1, #[.int .i64 x, .int .i64 y], 108)] _ := (Has.cons (hI15.at 0 rfl) Has.nil)
      refine any_one (i := 2) (by kernel_rfl) ?_
      have hI16 : Inv w ([(b1, #[.int .i64 x, .int .i64 y], 108), (b3, #[.int .i64 x, .int .i64 y], 108)] ++ [(b2, #[], 108)]) _ := Inv.tail (A := [(b1, #[.int .i64 x, .int .i64 y], 108)]) (T := [(b2, #[], 108)]) (N := [(b3, #[.int .i64 x, .int .i64 y], 108)]) hI15
      refine (op_appendP (A := [(b1, #[.int .i64 x, .int .i64 y], 108), (b3, #[.int .i64 x, .int .i64 y], 108)]) (S := [(b2, #[], 108)]) (F := []) (G := F) rfl rfl hf11 rfl rfl rfl us_83 if2_108 rfl rfl Sp.lit0 rfl (rows_rv (View.rows (Tr.view (Tr.fst (a := (p0, c0, F)) (b := (p0, c0, F)) (SS := [])) (View.start (SS := []) hl0 hr0) (View.start (SS := []) hl0 hr0)) hI16 (fk_app (fresh_keys (ks := [b1, b3]) rfl (fk_cons hb1 (fk_cons hb3 fk_nil))) (fun x hx => by simp only [List.mem_singleton] at hx; subst hx; exact hb2)) (fun _ h => by cases h))) hI16 (fun x hx => by simp only [List.mem_singleton] at hx; subst hx; exact hb2) (by simp only [List.length_append, List.length_nil, List.length_cons, maxLen]; omega) (by simp only [List.length_append, List.length_nil, List.length_cons, Nat.zero_add]; omega) fun ac12 p4 capp4 Sp4 wd7 hsp4 hzp4 hI17 hf12 => ⟨?_, ?_⟩)
      · exact (Has.cons (hI17.at 0 rfl) Has.nil)
      have hI18 : Inv w ([(b1, #[.int .i64 x, .int .i64 y], 108), (b3, #[.int .i64 x, .int .i64 y], 108)] ++ Sp4) wd7 := hI17
      have hS7 : Has [(b1, #[.int .i64 x, .int .i64 y], 108)] _ := (Has.cons (hI18.at 0 rfl) Has.nil)
      refine any_one (i := 5) (by kernel_rfl) ?_
      refine (op_appendP (A := [(b1, #[.int .i64 x, .int .i64 y], 108), (b3, #[.int .i64 x, .int .i64 y], 108)]) (S := Sp4) (F := ([] ++ F)) (G := [(x, y)]) rfl rfl hf12 rfl rfl rfl us_83 if2_108 rfl rfl hsp4 rfl (Rv.blk2 (hI18.at 1 rfl)) hI18 hzp4 (by simp only [List.length_append, List.length_nil, List.length_cons, maxLen]; omega) (by simp only [List.length_append, List.length_nil, List.length_cons, Nat.zero_add]; omega) fun ac13 p5 capp5 Sp5 wd8 hsp5 hzp5 hI19 hf13 => ⟨?_, ?_⟩)
      · exact (Has.cons (hI19.at 0 rfl) Has.nil)
      have hI20 : Inv w ([(b1, #[.int .i64 x, .int .i64 y], 108), (b3, #[.int .i64 x, .int .i64 y], 108)] ++ Sp5) wd8 := hI19
      have hS8 : Has [(b1, #[.int .i64 x, .int .i64 y], 108)] _ := (Has.cons (hI20.at 0 rfl) Has.nil)
      refine any_val (i := 6) (v := .slice p5 ((([] ++ F) ++ [(x, y)]).length) capp5) hf13 rfl rfl rfl rfl rfl rfl (fun _ _ _ h => h) (by kernel_rfl) (by kernel_rfl) (by kernel_rfl) (fun wd8 hS8 => (r_assign rfl)) hS8 fun ac14 hf14 => ?_
      refine any_end (by kernel_rfl) ?_
      clear hI3 ac3 hf3 ac4 hf4 ac5 wd1 hI4 hf5 hI5 hS1 ac6 wd2 hI6 hf6 hI14 hS2 hI15 ac11 wd6 hI16 hf11 hI17 hS6 ac12 wd7 hI18 hf12 hI19 hS7 ac13 hf13 hS8
      refine then_normal ?_
      refine wp_ret ?_
      exact post1 rfl hf14 rfl ⟨Sp5, p5, capp5, rfl, hsp5, (Inv.keep (A := []) (N := [(b1, #[.int .i64 x, .int .i64 y], 108), (b3, #[.int .i64 x, .int .i64 y], 108)]) (T := Sp5) hI20 (fresh_keys (ks := [b1, b3]) rfl (fk_cons hb1 (fk_cons hb3 fk_nil)))), hzp5⟩
  ·
    refine (op_bslice (s := 108) (cells := #[.int .i64 x, .int .i64 y]) hf5 rfl rfl rfl rfl rfl (fun _ => by kernel_rfl) hI4 fun ac15 b2 wd9 hb2 hI21 hf15 => ⟨?_, ?_⟩)
    · exact (Has.cons (hI21.at 0 rfl) Has.nil)
    have hI22 : Inv w [(b1, #[.int .i64 x, .int .i64 y], 108), (b2, #[.int .i64 x, .int .i64 y], 108)] wd9 := hI21
    have hS9 : Has [(b1, #[.int .i64 x, .int .i64 y], 108)] _ := (Has.cons (hI22.at 0 rfl) Has.nil)
    refine any_one (i := 0) (by kernel_rfl) ?_
    refine (op_bslice (s := 108) (cells := #[]) hf15 rfl rfl rfl rfl rfl (fun _ => by kernel_rfl) hI22 fun ac16 b3 wd10 hb3 hI23 hf16 => ⟨?_, ?_⟩)
    · exact (Has.cons (hI23.at 0 rfl) Has.nil)
    have hI24 : Inv w [(b1, #[.int .i64 x, .int .i64 y], 108), (b2, #[.int .i64 x, .int .i64 y], 108), (b3, #[], 108)] wd10 := hI23
    have hS10 : Has [(b1, #[.int .i64 x, .int .i64 y], 108)] _ := (Has.cons (hI24.at 0 rfl) Has.nil)
    refine any_one (i := 2) (by kernel_rfl) ?_
    have hI25 : Inv w ([(b1, #[.int .i64 x, .int .i64 y], 108), (b2, #[.int .i64 x, .int .i64 y], 108)] ++ [(b3, #[], 108)]) _ := hI24
    refine (op_appendP (A := [(b1, #[.int .i64 x, .int .i64 y], 108), (b2, #[.int .i64 x, .int .i64 y], 108)]) (S := [(b3, #[], 108)]) (F := []) (G := F) rfl rfl hf16 rfl rfl rfl us_83 if2_108 rfl rfl Sp.lit0 rfl (rows_rv (View.rows (Tr.view (Tr.fst (a := (p0, c0, F)) (b := (p0, c0, F)) (SS := [])) (View.start (SS := []) hl0 hr0) (View.start (SS := []) hl0 hr0)) hI25 (fk_app (fresh_keys (ks := [b1, b2]) rfl (fk_cons hb1 (fk_cons hb2 fk_nil))) (fun x hx => by simp only [List.mem_singleton] at hx; subst hx; exact hb3)) (fun _ h => by cases h))) hI25 (fun x hx => by simp only [List.mem_singleton] at hx; subst hx; exact hb3) (by simp only [List.length_append, List.length_nil, List.length_cons, maxLen]; omega) (by simp only [List.length_append, List.length_nil, List.length_cons, Nat.zero_add]; omega) fun ac17 p4 capp4 Sp4 wd11 hsp4 hzp4 hI26 hf17 => ⟨?_, ?_⟩)
    · exact (Has.cons (hI26.at 0 rfl) Has.nil)
    have hI27 : Inv w ([(b1, #[.int .i64 x, .int .i64 y], 108), (b2, #[.int .i64 x, .int .i64 y], 108)] ++ Sp4) wd11 := hI26
    have hS11 : Has [(b1, #[.int .i64 x, .int .i64 y], 108)] _ := (Has.cons (hI27.at 0 rfl) Has.nil)
    refine any_one (i := 5) (by kernel_rfl) ?_
    refine (op_appendP (A := [(b1, #[.int .i64 x, .int .i64 y], 108), (b2, #[.int .i64 x, .int .i64 y], 108)]) (S := Sp4) (F := ([] ++ F)) (G := [(x, y)]) rfl rfl hf17 rfl rfl rfl us_83 if2_108 rfl rfl hsp4 rfl (Rv.blk2 (hI27.at 1 rfl)) hI27 hzp4 (by simp only [List.length_append, List.length_nil, List.length_cons, maxLen]; omega) (by simp only [List.length_append, List.length_nil, List.length_cons, Nat.zero_add]; omega) fun ac18 p5 capp5 Sp5 wd12 hsp5 hzp5 hI28 hf18 => ⟨?_, ?_⟩)
    · exact (Has.cons (hI28.at 0 rfl) Has.nil)
    have hI29 : Inv w ([(b1, #[.int .i64 x, .int .i64 y], 108), (b2, #[.int .i64 x, .int .i64 y], 108)] ++ Sp5) wd12 := hI28
    have hS12 : Has [(b1, #[.int .i64 x, .int .i64 y], 108)] _ := (Has.cons (hI29.at 0 rfl) Has.nil)
    refine any_val (i := 6) (v := .slice p5 ((([] ++ F) ++ [(x, y)]).length) capp5) hf18 rfl rfl rfl rfl rfl rfl (fun _ _ _ h => h) (by kernel_rfl) (by kernel_rfl) (by kernel_rfl) (fun wd12 hS12 => (r_assign rfl)) hS12 fun ac19 hf19 => ?_
    refine any_end (by kernel_rfl) ?_
    clear hI3 ac3 hf3 ac4 hf4 ac5 wd1 hI4 hf5 hI21 hS1 ac15 wd9 hI22 hf15 hI23 hS9 hI24 ac16 wd10 hI25 hf16 hI26 hS10 ac17 wd11 hI27 hf17 hI28 hS11 ac18 hf18 hS12
    refine then_normal ?_
    refine wp_ret ?_
    exact post1 rfl hf19 rfl ⟨Sp5, p5, capp5, rfl, hsp5, (Inv.keep (A := []) (N := [(b1, #[.int .i64 x, .int .i64 y], 108), (b2, #[.int .i64 x, .int .i64 y], 108)]) (T := Sp5) hI29 (fresh_keys (ks := [b1, b2]) rfl (fk_cons hb1 (fk_cons hb2 fk_nil)))), hzp5⟩
set_option maxHeartbeats 8000000 in
theorem empty_pur {n q : Int} {F O : List (Int × Int)} {p0 p1 : Option Addr} {c0 c1 : Nat} (hF : F.length ≤ 4096) (hO : O.length ≤ 4096) : Pur Try.prog 62 [.agg #[.int .i64 n, .int .i64 q, .slice p0 F.length c0, .slice p1 O.length c1]] (.bool (emB F O)) := by
  intro w
  have hI1 := Inv.start w
  refine enter (n := 11) Try.func62 rfl rfl rfl ?_
  intro ac1 hf1
  refine code_seq ?_
  refine seq_start (l := [0, 1]) rfl ?_
  refine seq_one (op_box hf1 rfl rfl rfl rfl hI1 fun ac2 b1 wd1 hb1 hI2 hf2 => ?_)
  have hI3 : Inv w [(b1, #[.int .i64 n, .int .i64 q, .slice p0 F.length c0, .slice p1 O.length c1], 85)] wd1 := hI2
  refine seq_one (op_val (v := .bool false) hf2 rfl rfl rfl rfl rfl rfl (r_assign rfl) fun ac3 hf3 => ?_)
  refine seq_end ?_
  clear ac1 hI1 hf1 hI2 ac2 hf2
  refine then_normal ?_
  refine code_seq ?_
  refine seq_start (l := [0, 1, 2, 3, 4, 5, 6, 7, 8]) rfl ?_
  refine seq_one (op_val (v := .pointer (some ⟨b1, 2, none⟩)) hf3 rfl rfl rfl rfl rfl rfl (r_fieldAddr fi_85_2 rfl rfl) fun ac4 hf4 => ?_)
  refine seq_one (op_val (v := .slice p0 F.length c0) hf4 rfl rfl rfl rfl rfl rfl (r_load ag_83 rfl (hI3.at 0 rfl) rfl) fun ac5 hf5 => ?_)
  refine seq_one (op_val (v := .int .i64 ((F.length : Nat) : Int)) hf5 rfl rfl rfl rfl rfl rfl (r_len sl_83 rfl) fun ac6 hf6 => ?_)
  refine seq_one (op_val (v := .pointer (some ⟨b1, 3, none⟩)) hf6 rfl rfl rfl rfl rfl rfl (r_fieldAddr fi_85_3 rfl rfl) fun ac7 hf7 => ?_)
  refine seq_one (op_val (v := .slice p1 O.length c1) hf7 rfl rfl rfl rfl rfl rfl (r_load ag_83 rfl (hI3.at 0 rfl) rfl) fun ac8 hf8 => ?_)
  refine seq_one (op_val (v := .int .i64 ((O.length : Nat) : Int)) hf8 rfl rfl rfl rfl rfl rfl (r_len sl_83 rfl) fun ac9 hf9 => ?_)
  refine seq_one (op_val (v := .int .i64 ((F.length + O.length : Nat) : Int)) hf9 rfl rfl rfl rfl rfl rfl (r_add (c := ((F.length + O.length : Nat) : Int)) rfl rfl (wrap_i64 (by omega) (by omega))) fun ac10 hf10 => ?_)
  refine seq_one (op_val (v := .bool (((F.length + O.length : Nat) : Int) == 0)) hf10 rfl rfl rfl rfl rfl rfl (r_eql rfl rfl) fun ac11 hf11 => ?_)
  refine seq_one (op_val (v := .bool (((F.length + O.length : Nat) : Int) == 0)) hf11 rfl rfl rfl rfl rfl rfl (r_assign rfl) fun ac12 hf12 => ?_)
  refine seq_end ?_
  clear ac3 hf3 ac4 hf4 ac5 hf5 ac6 hf6 ac7 hf7 ac8 hf8 ac9 hf9 ac10 hf10 ac11 hf11
  refine then_normal ?_
  refine wp_ret ?_
  refine post1 rfl hf12 rfl ⟨?_, hI3.done (fresh_keys (ks := [b1]) rfl (fk_cons hb1 fk_nil))⟩
  rw [emB_eq]
set_option maxHeartbeats 8000000 in
theorem out_walk0 {n q : Int} {y : Int × Int} {F O : List (Int × Int)} {p0 p1 : Option Addr} {c0 c1 : Nat} (hl0 : (y :: F).length ≤ c0) (hl1 : O.length ≤ c1) (hF : (y :: F).length ≤ 4096) (hO : O.length ≤ 4096) {w : World} (hr0 : Rows_ w p0 2 (prs (y :: F))) (hr1 : Rows_ w p1 2 (prs O)) : Calls Try.prog 63 [.agg #[.int .i64 n, .int .i64 q, .slice p0 ((y :: F).length) c0, .slice p1 O.length c1]].toArray w fun e w' => e = .returned (.tuple #[.agg #[.int .i64 n, .int .i64 q, .slice (loP p0 c0 1 2) F.length (c0 - 1), .slice p1 O.length c1], .agg #[.int .i64 y.1, .int .i64 y.2], .bool true]) ∧ Inv w [] w' := by
  have hI1 := Inv.start w
  refine enter (n := 31) Try.func63 rfl rfl rfl ?_
  intro ac1 hf1
  refine code_seq ?_
  refine seq_start (l := [0, 1, 2, 3]) rfl ?_
  refine seq_one (op_box hf1 rfl rfl rfl rfl hI1 fun ac2 b1 wd1 hb1 hI2 hf2 => ?_)
  have hI3 : Inv w [(b1, #[.int .i64 n, .int .i64 q, .slice p0 ((y :: F).length) c0, .slice p1 O.length c1], 85)] wd1 := hI2
  refine seq_one (op_alloc hf2 rfl rfl rfl ze_85 hI3 fun ac3 b2 wd2 hb2 hI4 hf3 => ?_)
  have hI5 : Inv w [(b1, #[.int .i64 n, .int .i64 q, .slice p0 ((y :: F).length) c0, .slice p1 O.length c1], 85), (b2, #[.int .i64 0, .int .i64 0, .slice none 0 0, .slice none 0 0], 85)] wd2 := hI4
  refine seq_one (op_alloc hf3 rfl rfl rfl ze_108 hI5 fun ac4 b3 wd3 hb3 hI6 hf4 => ?_)
  have hI7 : Inv w [(b1, #[.int .i64 n, .int .i64 q, .slice p0 ((y :: F).length) c0, .slice p1 O.length c1], 85), (b2, #[.int .i64 0, .int .i64 0, .slice none 0 0, .slice none 0 0], 85), (b3, #[.int .i64 0, .int .i64 0], 108)] wd3 := hI6
  refine seq_one (op_val (v := .bool false) hf4 rfl rfl rfl rfl rfl rfl (r_assign rfl) fun ac5 hf5 => ?_)
  refine seq_end ?_
  clear ac1 hI1 hf1 hI2 ac2 wd1 hI3 hf2 hI4 ac3 wd2 hI5 hf3 hI6 ac4 hf4
  refine then_normal ?_
  refine code_seq ?_
  refine code_seq ?_
  refine seq_start (l := [0, 1, 2, 3]) rfl ?_
  refine seq_one (op_val (v := .pointer (some ⟨b1, 2, none⟩)) hf5 rfl rfl rfl rfl rfl rfl (r_fieldAddr fi_85_2 rfl rfl) fun ac6 hf6 => ?_)
  refine seq_one (op_val (v := .slice p0 ((y :: F).length) c0) hf6 rfl rfl rfl rfl rfl rfl (r_load ag_83 rfl (hI7.at 0 rfl) rfl) fun ac7 hf7 => ?_)
  refine seq_one (op_val (v := .int .i64 (((y :: F).length : Nat) : Int)) hf7 rfl rfl rfl rfl rfl rfl (r_len sl_83 rfl) fun ac8 hf8 => ?_)
  refine seq_one (op_val (v := .bool (decide ((((y :: F).length : Nat) : Int) > 0))) hf8 rfl rfl rfl rfl rfl rfl (r_gtr rfl rfl) fun ac9 hf9 => ?_)
  refine seq_end ?_
  clear ac5 hf5 ac6 hf6 ac7 hf7 ac8 hf8
  refine then_normal ?_
  have hf10 := hf9.know 10 (u := .bool true) rfl (congrArg Value.bool (decide_eq_true (by simp only [List.length_cons]; omega)))
  refine code_if_true hf10 rfl ?_
  refine code_seq ?_
  refine seq_start (l := [0, 1, 2, 3, 4, 5]) rfl ?_
  refine seq_one (op_val (v := .pointer (some ⟨b1, 2, none⟩)) hf10 rfl rfl rfl rfl rfl rfl (r_fieldAddr fi_85_2 rfl rfl) fun ac10 hf11 => ?_)
  refine seq_one (op_val (v := .slice p0 ((y :: F).length) c0) hf11 rfl rfl rfl rfl rfl rfl (r_load ag_83 rfl (hI7.at 0 rfl) rfl) fun ac11 hf12 => ?_)
  refine seq_one (op_val (v := .pointer (slAt p0 (0 * 2))) hf12 rfl rfl rfl rfl rfl rfl (r_indexAddrR (i := 0) (sz := 2) sl_83 rfl rfl rfl (Nat.succ_pos _) rfl ⟨_, ((View.rows (Tr.view (Tr.fst (a := (p0, c0, (y :: F))) (b := (p1, c1, O)) (SS := [])) (View.start (SS := []) hl0 hr0) (View.start (SS := []) hl1 hr1)) hI7 (fresh_keys (ks := [b1, b2, b3]) rfl (fk_cons hb1 (fk_cons hb2 (fk_cons hb3 fk_nil)))) (fun _ h => by cases h)) _ _ (prs_get (F := (y :: F)) (j := 0) (Nat.succ_pos _))).choose_spec.1⟩) fun ac12 hf13 => ?_)
  refine seq_one (op_val (v := .agg #[.int .i64 (((y :: F).getD 0 (0, 0)).1), .int .i64 (((y :: F).getD 0 (0, 0)).2)]) hf13 rfl rfl rfl rfl rfl rfl (r_loadRow ag_108 sz_108 rfl (View.rows (Tr.view (Tr.fst (a := (p0, c0, (y :: F))) (b := (p1, c1, O)) (SS := [])) (View.start (SS := []) hl0 hr0) (View.start (SS := []) hl1 hr1)) hI7 (fresh_keys (ks := [b1, b2, b3]) rfl (fk_cons hb1 (fk_cons hb2 (fk_cons hb3 fk_nil)))) (fun _ h => by cases h)) (prs_get (F := (y :: F)) (j := 0) (Nat.succ_pos _)) rfl) fun ac13 hf14 => ?_)
  refine seq_one (op_alloc hf14 rfl rfl rfl ze_108 hI7 fun ac14 b4 wd4 hb4 hI8 hf15 => ?_)
  have hI9 : Inv w [(b1, #[.int .i64 n, .int .i64 q, .slice p0 ((y :: F).length) c0, .slice p1 O.length c1], 85), (b2, #[.int .i64 0, .int .i64 0, .slice none 0 0, .slice none 0 0], 85), (b3, #[.int .i64 0, .int .i64 0], 108), (b4, #[.int .i64 0, .int .i64 0], 108)] wd4 := hI8
  refine seq_one (op_storeW (cells := #[.int .i64 (((y :: F).getD 0 (0, 0)).1), .int .i64 (((y :: F).getD 0 (0, 0)).2)]) 3 hf15 rfl rfl rfl rfl rfl sz_108 rfl rfl hI9 rfl rfl fun wd5 hI10 => ?_)
  have hI11 : Inv w [(b1, #[.int .i64 n, .int .i64 q, .slice p0 ((y :: F).length) c0, .slice p1 O.length c1], 85), (b2, #[.int .i64 0, .int .i64 0, .slice none 0 0, .slice none 0 0], 85), (b3, #[.int .i64 0, .int .i64 0], 108), (b4, #[.int .i64 (((y :: F).getD 0 (0, 0)).1), .int .i64 (((y :: F).getD 0 (0, 0)).2)], 108)] wd5 := hI10
  refine seq_end ?_
  clear hf9 ac9 hf10 ac10 hf11 ac11 hf12 ac12 hf13 ac13 wd3 hI7 hf14 hI8 wd4 hI9 hI10
  refine then_normal ?_
  refine code_seq ?_
  refine seq_start (l := [0, 1, 2, 3, 4]) rfl ?_
  refine seq_one (op_val (v := .pointer (some ⟨b1, 2, none⟩)) hf15 rfl rfl rfl rfl rfl rfl (r_fieldAddr fi_85_2 rfl rfl) fun ac15 hf16 => ?_)
  refine seq_one (op_val (v := .slice p0 ((y :: F).length) c0) hf16 rfl rfl rfl rfl rfl rfl (r_load ag_83 rfl (hI11.at 0 rfl) rfl) fun ac16 hf17 => ?_)
  refine seq_one (op_val (v := .slice (loP p0 c0 1 2) F.length (c0 - 1)) hf17 rfl rfl rfl rfl rfl rfl (r_sliceL (j := 1) sl_83 rfl rfl rfl (Nat.succ_le_succ (Nat.zero_le _))) fun ac17 hf18 => ?_)
  refine seq_one (op_val (v := .pointer (some ⟨b1, 2, none⟩)) hf18 rfl rfl rfl rfl rfl rfl (r_fieldAddr fi_85_2 rfl rfl) fun ac18 hf19 => ?_)
  refine seq_one (op_store (cs' := #[.int .i64 n, .int .i64 q, .slice (loP p0 c0 1 2) F.length (c0 - 1), .slice p1 O.length c1]) 0 hf19 rfl rfl rfl rfl rfl sz_83 hI11 rfl (ltb rfl) (by kernel_rfl) fun wd6 hI12 => ?_)
  have hI13 : Inv w [(b1, #[.int .i64 n, .int .i64 q, .slice (loP p0 c0 1 2) F.length (c0 - 1), .slice p1 O.length c1], 85), (b2, #[.int .i64 0, .int .i64 0, .slice none 0 0, .slice none 0 0], 85), (b3, #[.int .i64 0, .int .i64 0], 108), (b4, #[.int .i64 (((y :: F).getD 0 (0, 0)).1), .int .i64 (((y :: F).getD 0 (0, 0)).2)], 108)] wd6 := hI12
  refine seq_end ?_
  clear ac14 hf15 ac15 hf16 ac16 hf17 ac17 hf18 wd5 hI11 hI12
  refine then_normal ?_
  refine code_seq ?_
  refine any_start (fun w => Has [(b1, #[.int .i64 n, .int .i64 q, .slice (loP p0 c0 1 2) F.length (c0 - 1), .slice p1 O.length c1], 85), (b4, #[.int .i64 (((y :: F).getD 0 (0, 0)).1), .int .i64 (((y :: F).getD 0 (0, 0)).2)], 108)] w) follows (Has.drew (Has.cons (hI13.at 0 rfl) (Has.cons (hI13.at 3 rfl) Has.nil))) ?_
  have hS1 : Has [(b1, #[.int .i64 n, .int .i64 q, .slice (loP p0 c0 1 2) F.length (c0 - 1), .slice p1 O.length c1], 85), (b4, #[.int .i64 (((y :: F).getD 0 (0, 0)).1), .int .i64 (((y :: F).getD 0 (0, 0)).2)], 108)] _ := Has.drew (Has.cons (hI13.at 0 rfl) (Has.cons (hI13.at 3 rfl) Has.nil))
  have hI14 := hI13.drew
  refine any_val (i := 0) (v := .agg #[.int .i64 n, .int .i64 q, .slice (loP p0 c0 1 2) F.length (c0 - 1), .slice p1 O.length c1]) hf19 rfl rfl rfl rfl rfl rfl (fun _ _ _ h => h) (by kernel_rfl) (by kernel_rfl) (by kernel_rfl) (fun wd6 hS1 => (r_loadW ag_85 sz_85 rfl (hS1.at 0 rfl) rfl)) hS1 fun ac19 hf20 => ?_
  refine any_val (i := 1) (v := .agg #[.int .i64 (((y :: F).getD 0 (0, 0)).1), .int .i64 (((y :: F).getD 0 (0, 0)).2)]) hf20 rfl rfl rfl rfl rfl rfl (fun _ _ _ h => h) (by kernel_rfl) (by kernel_rfl) (by kernel_rfl) (fun wd6 hS1 => (r_loadW ag_108 sz_108 rfl (hS1.at 1 rfl) rfl)) hS1 fun ac20 hf21 => ?_
  refine any_one (i := 2) (by kernel_rfl) ?_
  refine (op_storeW (cells := #[.int .i64 n, .int .i64 q, .slice (loP p0 c0 1 2) F.length (c0 - 1), .slice p1 O.length c1]) 1 hf21 rfl rfl rfl rfl rfl sz_85 rfl rfl hI14 rfl rfl fun wd7 hI15 => ⟨?_, ?_⟩)
  · exact (Has.cons (hI15.at 0 rfl) (Has.cons (hI15.at 3 rfl) Has.nil))
  have hI16 : Inv w [(b1, #[.int .i64 n, .int .i64 q, .slice (loP p0 c0 1 2) F.length (c0 - 1), .slice p1 O.length c1], 85), (b2, #[.int .i64 n, .int .i64 q, .slice (loP p0 c0 1 2) F.length (c0 - 1), .slice p1 O.length c1], 85), (b3, #[.int .i64 0, .int .i64 0], 108), (b4, #[.int .i64 (((y :: F).getD 0 (0, 0)).1), .int .i64 (((y :: F).getD 0 (0, 0)).2)], 108)] wd7 := hI15
  have hS2 : Has [(b1, #[.int .i64 n, .int .i64 q, .slice (loP p0 c0 1 2) F.length (c0 - 1), .slice p1 O.length c1], 85), (b4, #[.int .i64 (((y :: F).getD 0 (0, 0)).1), .int .i64 (((y :: F).getD 0 (0, 0)).2)], 108)] _ := (Has.cons (hI16.at 0 rfl) (Has.cons (hI16.at 3 rfl) Has.nil))
  refine any_one (i := 3) (by kernel_rfl) ?_
  refine (op_storeW (cells := #[.int .i64 (((y :: F).getD 0 (0, 0)).1), .int .i64 (((y :: F).getD 0 (0, 0)).2)]) 2 hf21 rfl rfl rfl rfl rfl sz_108 rfl rfl hI16 rfl rfl fun wd8 hI17 => ⟨?_, ?_⟩)
  · exact (Has.cons (hI17.at 0 rfl) (Has.cons (hI17.at 3 rfl) Has.nil))
  have hI18 : Inv w [(b1, #[.int .i64 n, .int .i64 q, .slice (loP p0 c0 1 2) F.length (c0 - 1), .slice p1 O.length c1], 85), (b2, #[.int .i64 n, .int .i64 q, .slice (loP p0 c0 1 2) F.length (c0 - 1), .slice p1 O.length c1], 85), (b3, #[.int .i64 (((y :: F).getD 0 (0, 0)).1), .int .i64 (((y :: F).getD 0 (0, 0)).2)], 108), (b4, #[.int .i64 (((y :: F).getD 0 (0, 0)).1), .int .i64 (((y :: F).getD 0 (0, 0)).2)], 108)] wd8 := hI17
  have hS3 : Has [(b1, #[.int .i64 n, .int .i64 q, .slice (loP p0 c0 1 2) F.length (c0 - 1), .slice p1 O.length c1], 85), (b4, #[.int .i64 (((y :: F).getD 0 (0, 0)).1), .int .i64 (((y :: F).getD 0 (0, 0)).2)], 108)] _ := (Has.cons (hI18.at 0 rfl) (Has.cons (hI18.at 3 rfl) Has.nil))
  refine any_val (i := 4) (v := .bool true) hf21 rfl rfl rfl rfl rfl rfl (fun _ _ _ h => h) (by kernel_rfl) (by kernel_rfl) (by kernel_rfl) (fun wd8 hS3 => (r_assign rfl)) hS3 fun ac21 hf22 => ?_
  refine any_end (by kernel_rfl) ?_
  clear hI13 ac18 hf19 ac19 hf20 wd6 hI14 hI15 hS1 wd7 hI16 hI17 hS2 ac20 hf21 hS3
  refine then_normal ?_
  refine wp_ret ?_
  refine then_ret ?_
  exact postCC1 rfl hf22 rfl ag_85 sz_85 (hI18.at 1 rfl) rfl rfl ag_108 sz_108 (hI18.at 2 rfl) rfl rfl ⟨rfl, hI18.done (fresh_keys (ks := [b1, b2, b3, b4]) rfl (fk_cons hb1 (fk_cons hb2 (fk_cons hb3 (fk_cons hb4 fk_nil)))))⟩
set_option maxHeartbeats 8000000 in
theorem out_walk1 {n q : Int} {y : Int × Int} {F O : List (Int × Int)} {p0 p1 : Option Addr} {c0 c1 : Nat} (hl0 : ([] : List (Int × Int)).length ≤ c0) (hl1 : (y :: O).length ≤ c1) (hF : ([] : List (Int × Int)).length ≤ 4096) (hO : (y :: O).length ≤ 4096) {w : World} (hr0 : Rows_ w p0 2 (prs ([] : List (Int × Int)))) (hr1 : Rows_ w p1 2 (prs (y :: O))) : Calls Try.prog 63 [.agg #[.int .i64 n, .int .i64 q, .slice p0 (([] : List (Int × Int)).length) c0, .slice p1 ((y :: O).length) c1]].toArray w fun e w' => e = .returned (.tuple #[.agg #[.int .i64 n, .int .i64 q, .slice p0 0 c0, .slice (loP p1 c1 1 2) O.length (c1 - 1)], .agg #[.int .i64 y.1, .int .i64 y.2], .bool false]) ∧ Inv w [] w' := by
  have hI1 := Inv.start w
  refine enter (n := 31) Try.func63 rfl rfl rfl ?_
  intro ac1 hf1
  refine code_seq ?_
  refine seq_start (l := [0, 1, 2, 3]) rfl ?_
  refine seq_one (op_box hf1 rfl rfl rfl rfl hI1 fun ac2 b1 wd1 hb1 hI2 hf2 => ?_)
  have hI3 : Inv w [(b1, #[.int .i64 n, .int .i64 q, .slice p0 (([] : List (Int × Int)).length) c0, .slice p1 ((y :: O).length) c1], 85)] wd1 := hI2
  refine seq_one (op_alloc hf2 rfl rfl rfl ze_85 hI3 fun ac3 b2 wd2 hb2 hI4 hf3 => ?_)
  have hI5 : Inv w [(b1, #[.int .i64 n, .int .i64 q, .slice p0 (([] : List (Int × Int)).length) c0, .slice p1 ((y :: O).length) c1], 85), (b2, #[.int .i64 0, .int .i64 0, .slice none 0 0, .slice none 0 0], 85)] wd2 := hI4
  refine seq_one (op_alloc hf3 rfl rfl rfl ze_108 hI5 fun ac4 b3 wd3 hb3 hI6 hf4 => ?_)
  have hI7 : Inv w [(b1, #[.int .i64 n, .int .i64 q, .slice p0 (([] : List (Int × Int)).length) c0, .slice p1 ((y :: O).length) c1], 85), (b2, #[.int .i64 0, .int .i64 0, .slice none 0 0, .slice none 0 0], 85), (b3, #[.int .i64 0, .int .i64 0], 108)] wd3 := hI6
  refine seq_one (op_val (v := .bool false) hf4 rfl rfl rfl rfl rfl rfl (r_assign rfl) fun ac5 hf5 => ?_)
  refine seq_end ?_
  clear ac1 hI1 hf1 hI2 ac2 wd1 hI3 hf2 hI4 ac3 wd2 hI5 hf3 hI6 ac4 hf4
  refine then_normal ?_
  refine code_seq ?_
  refine code_seq ?_
  refine seq_start (l := [0, 1, 2, 3]) rfl ?_
  refine seq_one (op_val (v := .pointer (some ⟨b1, 2, none⟩)) hf5 rfl rfl rfl rfl rfl rfl (r_fieldAddr fi_85_2 rfl rfl) fun ac6 hf6 => ?_)
  refine seq_one (op_val (v := .slice p0 (([] : List (Int × Int)).length) c0) hf6 rfl rfl rfl rfl rfl rfl (r_load ag_83 rfl (hI7.at 0 rfl) rfl) fun ac7 hf7 => ?_)
  refine seq_one (op_val (v := .int .i64 ((([] : List (Int × Int)).length : Nat) : Int)) hf7 rfl rfl rfl rfl rfl rfl (r_len sl_83 rfl) fun ac8 hf8 => ?_)
  refine seq_one (op_val (v := .bool (decide (((([] : List (Int × Int)).length : Nat) : Int) > 0))) hf8 rfl rfl rfl rfl rfl rfl (r_gtr rfl rfl) fun ac9 hf9 => ?_)
  refine seq_end ?_
  clear ac5 hf5 ac6 hf6 ac7 hf7 ac8 hf8
  refine then_normal ?_
  have hf10 := hf9.know 10 (u := .bool false) rfl (congrArg Value.bool (decide_eq_false (by simp)))
  refine code_if_false hf10 rfl ?_
  refine wp_skip ?_
  refine then_normal ?_
  refine code_seq ?_
  refine seq_start (l := [0, 1, 2, 3, 4, 5]) rfl ?_
  refine seq_one (op_val (v := .pointer (some ⟨b1, 3, none⟩)) hf10 rfl rfl rfl rfl rfl rfl (r_fieldAddr fi_85_3 rfl rfl) fun ac10 hf11 => ?_)
  refine seq_one (op_val (v := .slice p1 ((y :: O).length) c1) hf11 rfl rfl rfl rfl rfl rfl (r_load ag_83 rfl (hI7.at 0 rfl) rfl) fun ac11 hf12 => ?_)
  refine seq_one (op_val (v := .pointer (slAt p1 (0 * 2))) hf12 rfl rfl rfl rfl rfl rfl (r_indexAddrR (i := 0) (sz := 2) sl_83 rfl rfl rfl (Nat.succ_pos _) rfl ⟨_, ((View.rows (Tr.view (Tr.snd (a := (p0, c0, ([] : List (Int × Int)))) (b := (p1, c1, (y :: O))) (SS := [])) (View.start (SS := []) hl0 hr0) (View.start (SS := []) hl1 hr1)) hI7 (fresh_keys (ks := [b1, b2, b3]) rfl (fk_cons hb1 (fk_cons hb2 (fk_cons hb3 fk_nil)))) (fun _ h => by cases h)) _ _ (prs_get (F := (y :: O)) (j := 0) (Nat.succ_pos _))).choose_spec.1⟩) fun ac12 hf13 => ?_)
  refine seq_one (op_val (v := .agg #[.int .i64 (((y :: O).getD 0 (0, 0)).1), .int .i64 (((y :: O).getD 0 (0, 0)).2)]) hf13 rfl rfl rfl rfl rfl rfl (r_loadRow ag_108 sz_108 rfl (View.rows (Tr.view (Tr.snd (a := (p0, c0, ([] : List (Int × Int)))) (b := (p1, c1, (y :: O))) (SS := [])) (View.start (SS := []) hl0 hr0) (View.start (SS := []) hl1 hr1)) hI7 (fresh_keys (ks := [b1, b2, b3]) rfl (fk_cons hb1 (fk_cons hb2 (fk_cons hb3 fk_nil)))) (fun _ h => by cases h)) (prs_get (F := (y :: O)) (j := 0) (Nat.succ_pos _)) rfl) fun ac13 hf14 => ?_)
  refine seq_one (op_alloc hf14 rfl rfl rfl ze_108 hI7 fun ac14 b4 wd4 hb4 hI8 hf15 => ?_)
  have hI9 : Inv w [(b1, #[.int .i64 n, .int .i64 q, .slice p0 (([] : List (Int × Int)).length) c0, .slice p1 ((y :: O).length) c1], 85), (b2, #[.int .i64 0, .int .i64 0, .slice none 0 0, .slice none 0 0], 85), (b3, #[.int .i64 0, .int .i64 0], 108), (b4, #[.int .i64 0, .int .i64 0], 108)] wd4 := hI8
  refine seq_one (op_storeW (cells := #[.int .i64 (((y :: O).getD 0 (0, 0)).1), .int .i64 (((y :: O).getD 0 (0, 0)).2)]) 3 hf15 rfl rfl rfl rfl rfl sz_108 rfl rfl hI9 rfl rfl fun wd5 hI10 => ?_)
  have hI11 : Inv w [(b1, #[.int .i64 n, .int .i64 q, .slice p0 (([] : List (Int × Int)).length) c0, .slice p1 ((y :: O).length) c1], 85), (b2, #[.int .i64 0, .int .i64 0, .slice none 0 0, .slice none 0 0], 85), (b3, #[.int .i64 0, .int .i64 0], 108), (b4, #[.int .i64 (((y :: O).getD 0 (0, 0)).1), .int .i64 (((y :: O).getD 0 (0, 0)).2)], 108)] wd5 := hI10
  refine seq_end ?_
  clear hf9 ac9 hf10 ac10 hf11 ac11 hf12 ac12 hf13 ac13 wd3 hI7 hf14 hI8 wd4 hI9 hI10
  refine then_normal ?_
  refine code_seq ?_
  refine seq_start (l := [0, 1, 2, 3, 4]) rfl ?_
  refine seq_one (op_val (v := .pointer (some ⟨b1, 3, none⟩)) hf15 rfl rfl rfl rfl rfl rfl (r_fieldAddr fi_85_3 rfl rfl) fun ac15 hf16 => ?_)
  refine seq_one (op_val (v := .slice p1 ((y :: O).length) c1) hf16 rfl rfl rfl rfl rfl rfl (r_load ag_83 rfl (hI11.at 0 rfl) rfl) fun ac16 hf17 => ?_)
  refine seq_one (op_val (v := .slice (loP p1 c1 1 2) O.length (c1 - 1)) hf17 rfl rfl rfl rfl rfl rfl (r_sliceL (j := 1) sl_83 rfl rfl rfl (Nat.succ_le_succ (Nat.zero_le _))) fun ac17 hf18 => ?_)
  refine seq_one (op_val (v := .pointer (some ⟨b1, 3, none⟩)) hf18 rfl rfl rfl rfl rfl rfl (r_fieldAddr fi_85_3 rfl rfl) fun ac18 hf19 => ?_)
  refine seq_one (op_store (cs' := #[.int .i64 n, .int .i64 q, .slice p0 (([] : List (Int × Int)).length) c0, .slice (loP p1 c1 1 2) O.length (c1 - 1)]) 0 hf19 rfl rfl rfl rfl rfl sz_83 hI11 rfl (ltb rfl) (by kernel_rfl) fun wd6 hI12 => ?_)
  have hI13 : Inv w [(b1, #[.int .i64 n, .int .i64 q, .slice p0 (([] : List (Int × Int)).length) c0, .slice (loP p1 c1 1 2) O.length (c1 - 1)], 85), (b2, #[.int .i64 0, .int .i64 0, .slice none 0 0, .slice none 0 0], 85), (b3, #[.int .i64 0, .int .i64 0], 108), (b4, #[.int .i64 (((y :: O).getD 0 (0, 0)).1), .int .i64 (((y :: O).getD 0 (0, 0)).2)], 108)] wd6 := hI12
  refine seq_end ?_
  clear ac14 hf15 ac15 hf16 ac16 hf17 ac17 hf18 wd5 hI11 hI12
  refine then_normal ?_
  refine code_seq ?_
  refine any_start (fun w => Has [(b1, #[.int .i64 n, .int .i64 q, .slice p0 (([] : List (Int × Int)).length) c0, .slice (loP p1 c1 1 2) O.length (c1 - 1)], 85), (b4, #[.int .i64 (((y :: O).getD 0 (0, 0)).1), .int .i64 (((y :: O).getD 0 (0, 0)).2)], 108)] w) follows (Has.drew (Has.cons (hI13.at 0 rfl) (Has.cons (hI13.at 3 rfl) Has.nil))) ?_
  have hS1 : Has [(b1, #[.int .i64 n, .int .i64 q, .slice p0 (([] : List (Int × Int)).length) c0, .slice (loP p1 c1 1 2) O.length (c1 - 1)], 85), (b4, #[.int .i64 (((y :: O).getD 0 (0, 0)).1), .int .i64 (((y :: O).getD 0 (0, 0)).2)], 108)] _ := Has.drew (Has.cons (hI13.at 0 rfl) (Has.cons (hI13.at 3 rfl) Has.nil))
  have hI14 := hI13.drew
  refine any_val (i := 0) (v := .agg #[.int .i64 n, .int .i64 q, .slice p0 (([] : List (Int × Int)).length) c0, .slice (loP p1 c1 1 2) O.length (c1 - 1)]) hf19 rfl rfl rfl rfl rfl rfl (fun _ _ _ h => h) (by kernel_rfl) (by kernel_rfl) (by kernel_rfl) (fun wd6 hS1 => (r_loadW ag_85 sz_85 rfl (hS1.at 0 rfl) rfl)) hS1 fun ac19 hf20 => ?_
  refine any_val (i := 1) (v := .agg #[.int .i64 (((y :: O).getD 0 (0, 0)).1), .int .i64 (((y :: O).getD 0 (0, 0)).2)]) hf20 rfl rfl rfl rfl rfl rfl (fun _ _ _ h => h) (by kernel_rfl) (by kernel_rfl) (by kernel_rfl) (fun wd6 hS1 => (r_loadW ag_108 sz_108 rfl (hS1.at 1 rfl) rfl)) hS1 fun ac20 hf21 => ?_
  refine any_one (i := 2) (by kernel_rfl) ?_
  refine (op_storeW (cells := #[.int .i64 n, .int .i64 q, .slice p0 (([] : List (Int × Int)).length) c0, .slice (loP p1 c1 1 2) O.length (c1 - 1)]) 1 hf21 rfl rfl rfl rfl rfl sz_85 rfl rfl hI14 rfl rfl fun wd7 hI15 => ⟨?_, ?_⟩)
  · exact (Has.cons (hI15.at 0 rfl) (Has.cons (hI15.at 3 rfl) Has.nil))
  have hI16 : Inv w [(b1, #[.int .i64 n, .int .i64 q, .slice p0 (([] : List (Int × Int)).length) c0, .slice (loP p1 c1 1 2) O.length (c1 - 1)], 85), (b2, #[.int .i64 n, .int .i64 q, .slice p0 (([] : List (Int × Int)).length) c0, .slice (loP p1 c1 1 2) O.length (c1 - 1)], 85), (b3, #[.int .i64 0, .int .i64 0], 108), (b4, #[.int .i64 (((y :: O).getD 0 (0, 0)).1), .int .i64 (((y :: O).getD 0 (0, 0)).2)], 108)] wd7 := hI15
  have hS2 : Has [(b1, #[.int .i64 n, .int .i64 q, .slice p0 (([] : List (Int × Int)).length) c0, .slice (loP p1 c1 1 2) O.length (c1 - 1)], 85), (b4, #[.int .i64 (((y :: O).getD 0 (0, 0)).1), .int .i64 (((y :: O).getD 0 (0, 0)).2)], 108)] _ := (Has.cons (hI16.at 0 rfl) (Has.cons (hI16.at 3 rfl) Has.nil))
  refine any_one (i := 3) (by kernel_rfl) ?_
  refine (op_storeW (cells := #[.int .i64 (((y :: O).getD 0 (0, 0)).1), .int .i64 (((y :: O).getD 0 (0, 0)).2)]) 2 hf21 rfl rfl rfl rfl rfl sz_108 rfl rfl hI16 rfl rfl fun wd8 hI17 => ⟨?_, ?_⟩)
  · exact (Has.cons (hI17.at 0 rfl) (Has.cons (hI17.at 3 rfl) Has.nil))
  have hI18 : Inv w [(b1, #[.int .i64 n, .int .i64 q, .slice p0 (([] : List (Int × Int)).length) c0, .slice (loP p1 c1 1 2) O.length (c1 - 1)], 85), (b2, #[.int .i64 n, .int .i64 q, .slice p0 (([] : List (Int × Int)).length) c0, .slice (loP p1 c1 1 2) O.length (c1 - 1)], 85), (b3, #[.int .i64 (((y :: O).getD 0 (0, 0)).1), .int .i64 (((y :: O).getD 0 (0, 0)).2)], 108), (b4, #[.int .i64 (((y :: O).getD 0 (0, 0)).1), .int .i64 (((y :: O).getD 0 (0, 0)).2)], 108)] wd8 := hI17
  have hS3 : Has [(b1, #[.int .i64 n, .int .i64 q, .slice p0 (([] : List (Int × Int)).length) c0, .slice (loP p1 c1 1 2) O.length (c1 - 1)], 85), (b4, #[.int .i64 (((y :: O).getD 0 (0, 0)).1), .int .i64 (((y :: O).getD 0 (0, 0)).2)], 108)] _ := (Has.cons (hI18.at 0 rfl) (Has.cons (hI18.at 3 rfl) Has.nil))
  refine any_val (i := 4) (v := .bool false) hf21 rfl rfl rfl rfl rfl rfl (fun _ _ _ h => h) (by kernel_rfl) (by kernel_rfl) (by kernel_rfl) (fun wd8 hS3 => (r_assign rfl)) hS3 fun ac21 hf22 => ?_
  refine any_end (by kernel_rfl) ?_
  clear hI13 ac18 hf19 ac19 hf20 wd6 hI14 hI15 hS1 wd7 hI16 hI17 hS2 ac20 hf21 hS3
  refine then_normal ?_
  refine wp_ret ?_
  exact postCC1 rfl hf22 rfl ag_85 sz_85 (hI18.at 1 rfl) rfl rfl ag_108 sz_108 (hI18.at 2 rfl) rfl rfl ⟨rfl, hI18.done (fresh_keys (ks := [b1, b2, b3, b4]) rfl (fk_cons hb1 (fk_cons hb2 (fk_cons hb3 (fk_cons hb4 fk_nil)))))⟩
theorem out_any {n q : Int} {F O : List (Int × Int)} (he : emB F O = false) {p0 p1 : Option Addr} {c0 c1 : Nat} (hl0 : F.length ≤ c0) (hl1 : O.length ≤ c1) (hF : F.length ≤ 4096) (hO : O.length ≤ 4096) {w : World} (hr0 : Rows_ w p0 2 (prs F)) (hr1 : Rows_ w p1 2 (prs O)) : Calls Try.prog 63 [.agg #[.int .i64 n, .int .i64 q, .slice p0 F.length c0, .slice p1 O.length c1]].toArray w fun e w' => ∃ q0 d0 q1 d1, e = .returned (.tuple #[.agg #[.int .i64 n, .int .i64 q, .slice q0 F.tail.length d0, .slice q1 (tO F O).length d1], .agg #[.int .i64 (hdP F O).1, .int .i64 (hdP F O).2], .bool (nF F)]) ∧ Tr (p0, c0, F) (p1, c1, O) [] q0 d0 F.tail ∧ Tr (p0, c0, F) (p1, c1, O) [] q1 d1 (tO F O) ∧ Inv w [] w' := by
  cases F with
  | cons y F => exact (out_walk0 hl0 hl1 hF hO hr0 hr1).mono fun e w' h => ⟨_, _, _, _, h.1, Tr.low Tr.fst, Tr.snd, h.2⟩
  | nil => cases O with
    | cons y O => exact (out_walk1 (F := []) hl0 hl1 hF hO hr0 hr1).mono fun e w' h => ⟨_, _, _, _, h.1, Tr.fst, Tr.low Tr.snd, h.2⟩
    | nil => cases he
end Go.Proofs.Ytjelaoblpchmmaa
