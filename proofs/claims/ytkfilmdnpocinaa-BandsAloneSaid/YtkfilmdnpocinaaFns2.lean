/-
  The reference's Spend: what each call comes to.
-/
import Derived.Test.YtkfilmdnpocinaaFns2b
namespace Go.Proofs.Ytkfilmdnpocinaa
set_option linter.unusedVariables false
set_option linter.unusedSimpArgs false
set_option maxRecDepth 100000
open Go.RowKit
set_option maxHeartbeats 8000000 in
theorem spendR_pur0 (w0 w1 w2 c0 c1 c2 m : Int) (hv : WOK w0 w1 w2) (hs : Ok w0 w1 w2 ⟨c0, c1, c2, 0⟩) : Pur Try.prog 15 [.agg #[.int .i64 w0, .int .i64 w1, .int .i64 w2, .int .i64 c0, .int .i64 c1, .int .i64 c2, .int .i64 0], .int .i64 m] (.tuple #[.agg #[.int .i64 w0, .int .i64 w1, .int .i64 w2, .int .i64 (((spS m ⟨c0, c1, c2, 0⟩ : St)).c0), .int .i64 (((spS m ⟨c0, c1, c2, 0⟩ : St)).c1), .int .i64 (((spS m ⟨c0, c1, c2, 0⟩ : St)).c2), .int .i64 (((spS m ⟨c0, c1, c2, 0⟩ : St)).now)], .int .i64 (spE m ⟨c0, c1, c2, 0⟩)]) := by
  intro w
  have hI1 := Inv.start w
  refine enter (n := 33) Try.func15 rfl rfl rfl ?_
  intro ac1 hf1
  refine code_seq ?_
  refine seq_start (l := [0, 1, 2]) rfl ?_
  refine seq_one (op_box hf1 rfl rfl rfl rfl hI1 fun ac2 b1 wd1 hb1 hI2 hf2 => ?_)
  have hI3 : Inv w [(b1, #[.int .i64 w0, .int .i64 w1, .int .i64 w2, .int .i64 c0, .int .i64 c1, .int .i64 c2, .int .i64 0], 29)] wd1 := hI2
  refine seq_one (op_alloc hf2 rfl rfl rfl ze_29 hI3 fun ac3 b2 wd2 hb2 hI4 hf3 => ?_)
  have hI5 : Inv w [(b1, #[.int .i64 w0, .int .i64 w1, .int .i64 w2, .int .i64 c0, .int .i64 c1, .int .i64 c2, .int .i64 0], 29), (b2, #[.int .i64 0, .int .i64 0, .int .i64 0, .int .i64 0, .int .i64 0, .int .i64 0, .int .i64 0], 29)] wd2 := hI4
  refine seq_one (op_val (v := .int .i64 0) hf3 rfl rfl rfl rfl rfl rfl (r_assign rfl) fun ac4 hf4 => ?_)
  refine seq_end ?_
  clear ac1 hI1 hf1 hI2 ac2 wd1 hI3 hf2 hI4 ac3 hf3
  refine then_normal ?_
  refine code_seq ?_
  refine code_seq ?_
  refine seq_start (l := [0, 1, 2, 3, 4, 5, 6, 7, 8, 9, 10, 11, 12, 13]) rfl ?_
  refine seq_one (op_val (v := .int .i64 m) hf4 rfl rfl rfl rfl rfl rfl (r_move rfl) fun ac5 hf5 => ?_)
  refine seq_one (op_val (v := .bool (decide (m < 1))) hf5 rfl rfl rfl rfl rfl rfl (r_lss rfl rfl) fun ac6 hf6 => ?_)
  refine seq_one (op_val (v := .bool (decide (m < 1))) hf6 rfl rfl rfl rfl rfl rfl (r_move rfl) fun ac7 hf7 => ?_)
  rcases Bool.eq_false_or_eq_true (decide (m < 1) : Bool) with g8_1 | g8_1
  · have hf8 := hf7.know 8 (u := .bool true) rfl (congrArg Value.bool g8_1)
    refine seq_one (op_skip hf8 rfl rfl rfl rfl fun ac8 hf9 => ?_)
    refine seq_one (op_skip hf9 rfl rfl rfl rfl fun ac9 hf10 => ?_)
    refine seq_one (op_val (v := .bool true) hf10 rfl rfl rfl rfl rfl rfl (r_pickT rfl rfl) fun ac10 hf11 => ?_)
    refine seq_one (op_val (v := .bool true) hf11 rfl rfl rfl rfl rfl rfl (r_move rfl) fun ac11 hf12 => ?_)
    refine seq_one (op_skip hf12 rfl rfl rfl rfl fun ac12 hf13 => ?_)
    refine seq_one (op_skip hf13 rfl rfl rfl rfl fun ac13 hf14 => ?_)
    refine seq_one (op_skip hf14 rfl rfl rfl rfl fun ac14 hf15 => ?_)
    refine seq_one (op_skip hf15 rfl rfl rfl rfl fun ac15 hf16 => ?_)
    refine seq_one (op_skip hf16 rfl rfl rfl rfl fun ac16 hf17 => ?_)
    refine seq_one (op_skip hf17 rfl rfl rfl rfl fun ac17 hf18 => ?_)
    refine seq_one (op_val (v := .bool true) hf18 rfl rfl rfl rfl rfl rfl (r_pickT rfl rfl) fun ac18 hf19 => ?_)
    refine seq_end ?_
    clear ac4 hf4 ac5 hf5 ac6 hf6 hf7 ac7 hf8 ac8 hf9 ac9 hf10 ac10 hf11 ac11 hf12 ac12 hf13 ac13 hf14 ac14 hf15 ac15 hf16 ac16 hf17 ac17 hf18
    refine then_normal ?_
    refine code_if_true hf19 rfl ?_
    refine code_seq ?_
    refine seq_start (l := [0, 1, 2]) rfl ?_
    refine seq_one (op_val (v := .agg #[.int .i64 w0, .int .i64 w1, .int .i64 w2, .int .i64 c0, .int .i64 c1, .int .i64 c2, .int .i64 0]) hf19 rfl rfl rfl rfl rfl rfl (r_loadW ag_29 sz_29 rfl (hI5.at 0 rfl) rfl) fun ac19 hf20 => ?_)
    refine seq_one (op_storeW (cells := #[.int .i64 w0, .int .i64 w1, .int .i64 w2, .int .i64 c0, .int .i64 c1, .int .i64 c2, .int .i64 0]) 1 hf20 rfl rfl rfl rfl rfl sz_29 rfl rfl hI5 rfl rfl fun wd3 hI6 => ?_)
    have hI7 : Inv w [(b1, #[.int .i64 w0, .int .i64 w1, .int .i64 w2, .int .i64 c0, .int .i64 c1, .int .i64 c2, .int .i64 0], 29), (b2, #[.int .i64 w0, .int .i64 w1, .int .i64 w2, .int .i64 c0, .int .i64 c1, .int .i64 c2, .int .i64 0], 29)] wd3 := hI6
    refine seq_one (op_val (v := .int .i64 2) hf20 rfl rfl rfl rfl rfl rfl (r_assign rfl) fun ac20 hf21 => ?_)
    refine seq_end ?_
    clear ac18 hf19 wd2 hI5 hI6 ac19 hf20
    refine then_normal ?_
    refine wp_ret ?_
    refine then_ret ?_
    refine postC1 rfl hf21 rfl ag_29 sz_29 (hI7.at 1 rfl) rfl rfl ⟨?_, hI7.done (fresh_keys (ks := [b1, b2]) rfl (fk_cons hb1 (fk_cons hb2 fk_nil)))⟩
    have hb : (m < 1 ∨ m > 65536 ∨ (⟨c0, c1, c2, 0⟩ : St).cr ≤ 0) := by
      simp only [St.cr, if_true, if_false, show ((1 : Int) = 0) = False by simp, show ((2 : Int) = 0) = False by simp, show ((2 : Int) = 1) = False by simp]
      simp only [decide_eq_true_eq, decide_eq_false_iff_not] at g8_1
      omega
    unfold spE spS
    rw [if_pos hb, if_pos hb]
    try rfl
  · have hf22 := hf7.know 8 (u := .bool false) rfl (congrArg Value.bool g8_1)
    refine seq_one (op_val (v := .int .i64 m) hf22 rfl rfl rfl rfl rfl rfl (r_move rfl) fun ac21 hf23 => ?_)
    refine seq_one (op_val (v := .bool (decide (m > 65536))) hf23 rfl rfl rfl rfl rfl rfl (r_gtr rfl rfl) fun ac22 hf24 => ?_)
    refine seq_one (op_val (v := .bool (decide (m > 65536))) hf24 rfl rfl rfl rfl rfl rfl (r_pickF rfl rfl) fun ac23 hf25 => ?_)
    refine seq_one (op_val (v := .bool (decide (m > 65536))) hf25 rfl rfl rfl rfl rfl rfl (r_move rfl) fun ac24 hf26 => ?_)
    rcases Bool.eq_false_or_eq_true (decide (m > 65536) : Bool) with g12_2 | g12_2
    · have hf27 := hf26.know 12 (u := .bool true) rfl (congrArg Value.bool g12_2)
      refine seq_one (op_skip hf27 rfl rfl rfl rfl fun ac25 hf28 => ?_)
      refine seq_one (op_skip hf28 rfl rfl rfl rfl fun ac26 hf29 => ?_)
      refine seq_one (op_skip hf29 rfl rfl rfl rfl fun ac27 hf30 => ?_)
      refine seq_one (op_skip hf30 rfl rfl rfl rfl fun ac28 hf31 => ?_)
      refine seq_one (op_skip hf31 rfl rfl rfl rfl fun ac29 hf32 => ?_)
      refine seq_one (op_skip hf32 rfl rfl rfl rfl fun ac30 hf33 => ?_)
      refine seq_one (op_val (v := .bool true) hf33 rfl rfl rfl rfl rfl rfl (r_pickT rfl rfl) fun ac31 hf34 => ?_)
      refine seq_end ?_
      clear ac4 hf4 ac5 hf5 ac6 hf6 hf7 ac7 hf22 ac21 hf23 ac22 hf24 ac23 hf25 hf26 ac24 hf27 ac25 hf28 ac26 hf29 ac27 hf30 ac28 hf31 ac29 hf32 ac30 hf33
      refine then_normal ?_
      refine code_if_true hf34 rfl ?_
      refine code_seq ?_
      refine seq_start (l := [0, 1, 2]) rfl ?_
      refine seq_one (op_val (v := .agg #[.int .i64 w0, .int .i64 w1, .int .i64 w2, .int .i64 c0, .int .i64 c1, .int .i64 c2, .int .i64 0]) hf34 rfl rfl rfl rfl rfl rfl (r_loadW ag_29 sz_29 rfl (hI5.at 0 rfl) rfl) fun ac32 hf35 => ?_)
      refine seq_one (op_storeW (cells := #[.int .i64 w0, .int .i64 w1, .int .i64 w2, .int .i64 c0, .int .i64 c1, .int .i64 c2, .int .i64 0]) 1 hf35 rfl rfl rfl rfl rfl sz_29 rfl rfl hI5 rfl rfl fun wd4 hI8 => ?_)
      have hI9 : Inv w [(b1, #[.int .i64 w0, .int .i64 w1, .int .i64 w2, .int .i64 c0, .int .i64 c1, .int .i64 c2, .int .i64 0], 29), (b2, #[.int .i64 w0, .int .i64 w1, .int .i64 w2, .int .i64 c0, .int .i64 c1, .int .i64 c2, .int .i64 0], 29)] wd4 := hI8
      refine seq_one (op_val (v := .int .i64 2) hf35 rfl rfl rfl rfl rfl rfl (r_assign rfl) fun ac33 hf36 => ?_)
      refine seq_end ?_
      clear ac31 hf34 wd2 hI5 hI8 ac32 hf35
      refine then_normal ?_
      refine wp_ret ?_
      refine then_ret ?_
      refine postC1 rfl hf36 rfl ag_29 sz_29 (hI9.at 1 rfl) rfl rfl ⟨?_, hI9.done (fresh_keys (ks := [b1, b2]) rfl (fk_cons hb1 (fk_cons hb2 fk_nil)))⟩
      have hb : (m < 1 ∨ m > 65536 ∨ (⟨c0, c1, c2, 0⟩ : St).cr ≤ 0) := by
        simp only [St.cr, if_true, if_false, show ((1 : Int) = 0) = False by simp, show ((2 : Int) = 0) = False by simp, show ((2 : Int) = 1) = False by simp]
        simp only [decide_eq_true_eq, decide_eq_false_iff_not] at g8_1 g12_2
        omega
      unfold spE spS
      rw [if_pos hb, if_pos hb]
      try rfl
    · have hf37 := hf26.know 12 (u := .bool false) rfl (congrArg Value.bool g12_2)
      refine seq_one (op_val (v := .pointer (some ⟨b1, 6, none⟩)) hf37 rfl rfl rfl rfl rfl rfl (r_fieldAddr fi_29_2 rfl rfl) fun ac34 hf38 => ?_)
      refine seq_one (op_val (v := .int .i64 0) hf38 rfl rfl rfl rfl rfl rfl (r_load ag_3 rfl (hI5.at 0 rfl) rfl) fun ac35 hf39 => ?_)
      refine seq_one (op_val (v := .pointer (some ⟨b1, 3, none⟩)) hf39 rfl rfl rfl rfl rfl rfl (r_fieldAddr fi_29_1 rfl rfl) fun ac36 hf40 => ?_)
      refine seq_one (op_val (v := .pointer (some ⟨b1, 3, none⟩)) hf40 rfl rfl rfl rfl rfl rfl (r_indexAddr (i := 0) ar_22 rfl rfl rfl (by decide) rfl) fun ac37 hf41 => ?_)
      refine seq_one (op_val (v := .int .i64 c0) hf41 rfl rfl rfl rfl rfl rfl (r_load ag_3 rfl (hI5.at 0 rfl) rfl) fun ac38 hf42 => ?_)
      refine seq_one (op_val (v := .bool (decide (c0 ≤ 0))) hf42 rfl rfl rfl rfl rfl rfl (r_leq rfl rfl) fun ac39 hf43 => ?_)
      refine seq_one (op_val (v := .bool (decide (c0 ≤ 0))) hf43 rfl rfl rfl rfl rfl rfl (r_pickF rfl rfl) fun ac40 hf44 => ?_)
      refine seq_end ?_
      clear ac4 hf4 ac5 hf5 ac6 hf6 hf7 ac7 hf22 ac21 hf23 ac22 hf24 ac23 hf25 hf26 ac24 hf37 ac34 hf38 ac35 hf39 ac36 hf40 ac37 hf41 ac38 hf42 ac39 hf43
      refine then_normal ?_
      refine code_if hf44 rfl (fun c19_3 => ?_) (fun c19_3 => ?_)
      · have hf45 := hf44.know 19 (u := .bool true) rfl (congrArg Value.bool c19_3)
        refine code_seq ?_
        refine seq_start (l := [0, 1, 2]) rfl ?_
        refine seq_one (op_val (v := .agg #[.int .i64 w0, .int .i64 w1, .int .i64 w2, .int .i64 c0, .int .i64 c1, .int .i64 c2, .int .i64 0]) hf45 rfl rfl rfl rfl rfl rfl (r_loadW ag_29 sz_29 rfl (hI5.at 0 rfl) rfl) fun ac41 hf46 => ?_)
        refine seq_one (op_storeW (cells := #[.int .i64 w0, .int .i64 w1, .int .i64 w2, .int .i64 c0, .int .i64 c1, .int .i64 c2, .int .i64 0]) 1 hf46 rfl rfl rfl rfl rfl sz_29 rfl rfl hI5 rfl rfl fun wd5 hI10 => ?_)
        have hI11 : Inv w [(b1, #[.int .i64 w0, .int .i64 w1, .int .i64 w2, .int .i64 c0, .int .i64 c1, .int .i64 c2, .int .i64 0], 29), (b2, #[.int .i64 w0, .int .i64 w1, .int .i64 w2, .int .i64 c0, .int .i64 c1, .int .i64 c2, .int .i64 0], 29)] wd5 := hI10
        refine seq_one (op_val (v := .int .i64 2) hf46 rfl rfl rfl rfl rfl rfl (r_assign rfl) fun ac42 hf47 => ?_)
        refine seq_end ?_
        clear hf44 ac40 hf45 wd2 hI5 hI10 ac41 hf46
        refine then_normal ?_
        refine wp_ret ?_
        refine then_ret ?_
        refine postC1 rfl hf47 rfl ag_29 sz_29 (hI11.at 1 rfl) rfl rfl ⟨?_, hI11.done (fresh_keys (ks := [b1, b2]) rfl (fk_cons hb1 (fk_cons hb2 fk_nil)))⟩
        have hb : (m < 1 ∨ m > 65536 ∨ (⟨c0, c1, c2, 0⟩ : St).cr ≤ 0) := by
          simp only [St.cr, if_true, if_false, show ((1 : Int) = 0) = False by simp, show ((2 : Int) = 0) = False by simp, show ((2 : Int) = 1) = False by simp]
          simp only [decide_eq_true_eq, decide_eq_false_iff_not] at g8_1 g12_2 c19_3
          omega
        unfold spE spS
        rw [if_pos hb, if_pos hb]
        try rfl
      · have hf48 := hf44.know 19 (u := .bool false) rfl (congrArg Value.bool c19_3)
        refine wp_skip ?_
        refine then_normal ?_
        refine code_seq ?_
        refine any_start (fun w => Has [] w) follows (Has.drew Has.nil) ?_
        have hS1 : ∀ {w : World}, Has [] w := Has.nil
        have hI12 := hI5.drew
        refine any_val (i := 0) (v := .pointer (some ⟨b1, 6, none⟩)) hf48 rfl rfl rfl rfl rfl rfl (fun _ _ _ h => h) (by kernel_rfl) (by kernel_rfl) (by kernel_rfl) (fun wd2 hS1 => (r_fieldAddr fi_29_2 rfl rfl)) hS1 fun ac43 hf49 => ?_
        refine any_val (i := 2) (v := .pointer (some ⟨b1, 6, none⟩)) hf49 rfl rfl rfl rfl rfl rfl (fun _ _ _ h => h) (by kernel_rfl) (by kernel_rfl) (by kernel_rfl) (fun wd2 hS1 => (r_fieldAddr fi_29_2 rfl rfl)) hS1 fun ac44 hf50 => ?_
        refine any_val (i := 4) (v := .pointer (some ⟨b1, 3, none⟩)) hf50 rfl rfl rfl rfl rfl rfl (fun _ _ _ h => h) (by kernel_rfl) (by kernel_rfl) (by kernel_rfl) (fun wd2 hS1 => (r_fieldAddr fi_29_1 rfl rfl)) hS1 fun ac45 hf51 => ?_
        refine any_val (i := 7) (v := .int .i64 m) hf51 rfl rfl rfl rfl rfl rfl (fun _ _ _ h => h) (by kernel_rfl) (by kernel_rfl) (by kernel_rfl) (fun wd2 hS1 => (r_move rfl)) hS1 fun ac46 hf52 => ?_
        refine any_val (i := 9) (v := .pointer (some ⟨b1, 3, none⟩)) hf52 rfl rfl rfl rfl rfl rfl (fun _ _ _ h => h) (by kernel_rfl) (by kernel_rfl) (by kernel_rfl) (fun wd2 hS1 => (r_fieldAddr fi_29_1 rfl rfl)) hS1 fun ac47 hf53 => ?_
        refine any_two (i := 1) (j := 3) (by kernel_rfl) ?_ ?_
        ·
          refine op_val (v := .int .i64 0) hf53 rfl rfl rfl rfl rfl rfl (r_load ag_3 rfl (hI12.at 0 rfl) rfl) fun ac48 hf54 => ⟨?_, ?_⟩
          · exact Has.nil
          have hS2 : ∀ {w : World}, Has [] w := Has.nil
          refine any_one (i := 3) (by kernel_rfl) ?_
          refine op_val (v := .int .i64 0) hf54 rfl rfl rfl rfl rfl rfl (r_load ag_3 rfl (hI12.at 0 rfl) rfl) fun ac49 hf55 => ⟨?_, ?_⟩
          · exact Has.nil
          have hS3 : ∀ {w : World}, Has [] w := Has.nil
          refine any_val (i := 5) (v := .pointer (some ⟨b1, 3, none⟩)) hf55 rfl rfl rfl rfl rfl rfl (fun _ _ _ h => h) (by kernel_rfl) (by kernel_rfl) (by kernel_rfl) (fun wd2 hS3 => (r_indexAddr (i := 0) ar_22 rfl rfl rfl (by decide) rfl)) hS3 fun ac50 hf56 => ?_
          refine any_one (i := 6) (by kernel_rfl) ?_
          refine op_val (v := .int .i64 c0) hf56 rfl rfl rfl rfl rfl rfl (r_load ag_3 rfl (hI12.at 0 rfl) rfl) fun ac51 hf57 => ⟨?_, ?_⟩
          · exact Has.nil
          have hS4 : ∀ {w : World}, Has [] w := Has.nil
          refine any_val (i := 8) (v := .int .i64 (c0 - m)) hf57 rfl rfl rfl rfl rfl rfl (fun _ _ _ h => h) (by kernel_rfl) (by kernel_rfl) (by kernel_rfl) (fun wd2 hS4 => (r_sub (c := (c0 - m)) rfl rfl (by have h1 := hs.l0; have h2 := hs.r0; have h3 := hv.r0; dsimp only at h1 h2; simp only [decide_eq_true_eq, decide_eq_false_iff_not] at g8_1 g12_2 c19_3; exact wrap_i64 (by omega) (by omega)))) hS4 fun ac52 hf58 => ?_
          refine any_val (i := 10) (v := .pointer (some ⟨b1, 3, none⟩)) hf58 rfl rfl rfl rfl rfl rfl (fun _ _ _ h => h) (by kernel_rfl) (by kernel_rfl) (by kernel_rfl) (fun wd2 hS4 => (r_indexAddr (i := 0) ar_22 rfl rfl rfl (by decide) rfl)) hS4 fun ac53 hf59 => ?_
          refine any_one (i := 11) (by kernel_rfl) ?_
          refine (op_store (cs' := #[.int .i64 w0, .int .i64 w1, .int .i64 w2, .int .i64 (c0 - m), .int .i64 c1, .int .i64 c2, .int .i64 0]) 0 hf59 rfl rfl rfl rfl rfl sz_3 hI12 rfl (ltb rfl) (by kernel_rfl) fun wd6 hI13 => ⟨?_, ?_⟩)
          · exact Has.nil
          have hI14 : Inv w [(b1, #[.int .i64 w0, .int .i64 w1, .int .i64 w2, .int .i64 (c0 - m), .int .i64 c1, .int .i64 c2, .int .i64 0], 29), (b2, #[.int .i64 0, .int .i64 0, .int .i64 0, .int .i64 0, .int .i64 0, .int .i64 0, .int .i64 0], 29)] wd6 := hI13
          have hS5 : ∀ {w : World}, Has [] w := Has.nil
          refine any_end (by kernel_rfl) ?_
          clear hf44 hI5 ac40 hf48 ac43 hf49 ac44 hf50 ac45 hf51 ac46 hf52 ac47 hf53 hS1 ac48 hf54 hS2 ac49 hf55 ac50 hf56 hS3 ac51 hf57 ac52 hf58 wd2 hI12 hI13 hS4 hS5
          refine then_normal ?_
          refine code_seq ?_
          refine seq_start (l := [0, 1, 2]) rfl ?_
          refine seq_one (op_val (v := .agg #[.int .i64 w0, .int .i64 w1, .int .i64 w2, .int .i64 (c0 - m), .int .i64 c1, .int .i64 c2, .int .i64 0]) hf59 rfl rfl rfl rfl rfl rfl (r_loadW ag_29 sz_29 rfl (hI14.at 0 rfl) rfl) fun ac54 hf60 => ?_)
          refine seq_one (op_storeW (cells := #[.int .i64 w0, .int .i64 w1, .int .i64 w2, .int .i64 (c0 - m), .int .i64 c1, .int .i64 c2, .int .i64 0]) 1 hf60 rfl rfl rfl rfl rfl sz_29 rfl rfl hI14 rfl rfl fun wd7 hI15 => ?_)
          have hI16 : Inv w [(b1, #[.int .i64 w0, .int .i64 w1, .int .i64 w2, .int .i64 (c0 - m), .int .i64 c1, .int .i64 c2, .int .i64 0], 29), (b2, #[.int .i64 w0, .int .i64 w1, .int .i64 w2, .int .i64 (c0 - m), .int .i64 c1, .int .i64 c2, .int .i64 0], 29)] wd7 := hI15
          refine seq_one (op_val (v := .int .i64 0) hf60 rfl rfl rfl rfl rfl rfl (r_assign rfl) fun ac55 hf61 => ?_)
          refine seq_end ?_
          clear ac53 hf59 wd6 hI14 hI15 ac54 hf60
          refine then_normal ?_
          refine wp_ret ?_
          refine postC1 rfl hf61 rfl ag_29 sz_29 (hI16.at 1 rfl) rfl rfl ⟨?_, hI16.done (fresh_keys (ks := [b1, b2]) rfl (fk_cons hb1 (fk_cons hb2 fk_nil)))⟩
          have hb : ¬ (m < 1 ∨ m > 65536 ∨ (⟨c0, c1, c2, 0⟩ : St).cr ≤ 0) := by
            simp only [St.cr, if_true, if_false, show ((1 : Int) = 0) = False by simp, show ((2 : Int) = 0) = False by simp, show ((2 : Int) = 1) = False by simp]
            simp only [decide_eq_true_eq, decide_eq_false_iff_not] at g8_1 g12_2 c19_3
            omega
          unfold spE spS
          rw [if_neg hb, if_neg hb]
          try rfl
        ·
          refine op_val (v := .int .i64 0) hf53 rfl rfl rfl rfl rfl rfl (r_load ag_3 rfl (hI12.at 0 rfl) rfl) fun ac56 hf62 => ⟨?_, ?_⟩
          · exact Has.nil
          have hS6 : ∀ {w : World}, Has [] w := Has.nil
          refine any_val (i := 5) (v := .pointer (some ⟨b1, 3, none⟩)) hf62 rfl rfl rfl rfl rfl rfl (fun _ _ _ h => h) (by kernel_rfl) (by kernel_rfl) (by kernel_rfl) (fun wd2 hS6 => (r_indexAddr (i := 0) ar_22 rfl rfl rfl (by decide) rfl)) hS6 fun ac57 hf63 => ?_
          refine any_two (i := 1) (j := 6) (by kernel_rfl) ?_ ?_
          ·
            refine op_val (v := .int .i64 0) hf63 rfl rfl rfl rfl rfl rfl (r_load ag_3 rfl (hI12.at 0 rfl) rfl) fun ac58 hf64 => ⟨?_, ?_⟩
            · exact Has.nil
            have hS7 : ∀ {w : World}, Has [] w := Has.nil
            refine any_one (i := 6) (by kernel_rfl) ?_
            refine op_val (v := .int .i64 c0) hf64 rfl rfl rfl rfl rfl rfl (r_load ag_3 rfl (hI12.at 0 rfl) rfl) fun ac59 hf65 => ⟨?_, ?_⟩
            · exact Has.nil
            have hS8 : ∀ {w : World}, Has [] w := Has.nil
            refine any_val (i := 8) (v := .int .i64 (c0 - m)) hf65 rfl rfl rfl rfl rfl rfl (fun _ _ _ h => h) (by kernel_rfl) (by kernel_rfl) (by kernel_rfl) (fun wd2 hS8 => (r_sub (c := (c0 - m)) rfl rfl (by have h1 := hs.l0; have h2 := hs.r0; have h3 := hv.r0; dsimp only at h1 h2; simp only [decide_eq_true_eq, decide_eq_false_iff_not] at g8_1 g12_2 c19_3; exact wrap_i64 (by omega) (by omega)))) hS8 fun ac60 hf66 => ?_
            refine any_val (i := 10) (v := .pointer (some ⟨b1, 3, none⟩)) hf66 rfl rfl rfl rfl rfl rfl (fun _ _ _ h => h) (by kernel_rfl) (by kernel_rfl) (by kernel_rfl) (fun wd2 hS8 => (r_indexAddr (i := 0) ar_22 rfl rfl rfl (by decide) rfl)) hS8 fun ac61 hf67 => ?_
            refine any_one (i := 11) (by kernel_rfl) ?_
            refine (op_store (cs' := #[.int .i64 w0, .int .i64 w1, .int .i64 w2, .int .i64 (c0 - m), .int .i64 c1, .int .i64 c2, .int .i64 0]) 0 hf67 rfl rfl rfl rfl rfl sz_3 hI12 rfl (ltb rfl) (by kernel_rfl) fun wd8 hI17 => ⟨?_, ?_⟩)
            · exact Has.nil
            have hI18 : Inv w [(b1, #[.int .i64 w0, .int .i64 w1, .int .i64 w2, .int .i64 (c0 - m), .int .i64 c1, .int .i64 c2, .int .i64 0], 29), (b2, #[.int .i64 0, .int .i64 0, .int .i64 0, .int .i64 0, .int .i64 0, .int .i64 0, .int .i64 0], 29)] wd8 := hI17
            have hS9 : ∀ {w : World}, Has [] w := Has.nil
            refine any_end (by kernel_rfl) ?_
            clear hf44 hI5 ac40 hf48 ac43 hf49 ac44 hf50 ac45 hf51 ac46 hf52 ac47 hf53 hS1 ac56 hf62 ac57 hf63 hS6 ac58 hf64 hS7 ac59 hf65 ac60 hf66 wd2 hI12 hI17 hS8 hS9
            refine then_normal ?_
            refine code_seq ?_
            refine seq_start (l := [0, 1, 2]) rfl ?_
            refine seq_one (op_val (v := .agg #[.int .i64 w0, .int .i64 w1, .int .i64 w2, .int .i64 (c0 - m), .int .i64 c1, .int .i64 c2, .int .i64 0]) hf67 rfl rfl rfl rfl rfl rfl (r_loadW ag_29 sz_29 rfl (hI18.at 0 rfl) rfl) fun ac62 hf68 => ?_)
            refine seq_one (op_storeW (cells := #[.int .i64 w0, .int .i64 w1, .int .i64 w2, .int .i64 (c0 - m), .int .i64 c1, .int .i64 c2, .int .i64 0]) 1 hf68 rfl rfl rfl rfl rfl sz_29 rfl rfl hI18 rfl rfl fun wd9 hI19 => ?_)
            have hI20 : Inv w [(b1, #[.int .i64 w0, .int .i64 w1, .int .i64 w2, .int .i64 (c0 - m), .int .i64 c1, .int .i64 c2, .int .i64 0], 29), (b2, #[.int .i64 w0, .int .i64 w1, .int .i64 w2, .int .i64 (c0 - m), .int .i64 c1, .int .i64 c2, .int .i64 0], 29)] wd9 := hI19
            refine seq_one (op_val (v := .int .i64 0) hf68 rfl rfl rfl rfl rfl rfl (r_assign rfl) fun ac63 hf69 => ?_)
            refine seq_end ?_
            clear ac61 hf67 wd8 hI18 hI19 ac62 hf68
            refine then_normal ?_
            refine wp_ret ?_
            refine postC1 rfl hf69 rfl ag_29 sz_29 (hI20.at 1 rfl) rfl rfl ⟨?_, hI20.done (fresh_keys (ks := [b1, b2]) rfl (fk_cons hb1 (fk_cons hb2 fk_nil)))⟩
            have hb : ¬ (m < 1 ∨ m > 65536 ∨ (⟨c0, c1, c2, 0⟩ : St).cr ≤ 0) := by
              simp only [St.cr, if_true, if_false, show ((1 : Int) = 0) = False by simp, show ((2 : Int) = 0) = False by simp, show ((2 : Int) = 1) = False by simp]
              simp only [decide_eq_true_eq, decide_eq_false_iff_not] at g8_1 g12_2 c19_3
              omega
            unfold spE spS
            rw [if_neg hb, if_neg hb]
            try rfl
          ·
            refine op_val (v := .int .i64 c0) hf63 rfl rfl rfl rfl rfl rfl (r_load ag_3 rfl (hI12.at 0 rfl) rfl) fun ac64 hf70 => ⟨?_, ?_⟩
            · exact Has.nil
            have hS10 : ∀ {w : World}, Has [] w := Has.nil
            refine any_val (i := 8) (v := .int .i64 (c0 - m)) hf70 rfl rfl rfl rfl rfl rfl (fun _ _ _ h => h) (by kernel_rfl) (by kernel_rfl) (by kernel_rfl) (fun wd2 hS10 => (r_sub (c := (c0 - m)) rfl rfl (by have h1 := hs.l0; have h2 := hs.r0; have h3 := hv.r0; dsimp only at h1 h2; simp only [decide_eq_true_eq, decide_eq_false_iff_not] at g8_1 g12_2 c19_3; exact wrap_i64 (by omega) (by omega)))) hS10 fun ac65 hf71 => ?_
            refine any_one (i := 1) (by kernel_rfl) ?_
            refine op_val (v := .int .i64 0) hf71 rfl rfl rfl rfl rfl rfl (r_load ag_3 rfl (hI12.at 0 rfl) rfl) fun ac66 hf72 => ⟨?_, ?_⟩
            · exact Has.nil
            have hS11 : ∀ {w : World}, Has [] w := Has.nil
            refine any_val (i := 10) (v := .pointer (some ⟨b1, 3, none⟩)) hf72 rfl rfl rfl rfl rfl rfl (fun _ _ _ h => h) (by kernel_rfl) (by kernel_rfl) (by kernel_rfl) (fun wd2 hS11 => (r_indexAddr (i := 0) ar_22 rfl rfl rfl (by decide) rfl)) hS11 fun ac67 hf73 => ?_
            refine any_one (i := 11) (by kernel_rfl) ?_
            refine (op_store (cs' := #[.int .i64 w0, .int .i64 w1, .int .i64 w2, .int .i64 (c0 - m), .int .i64 c1, .int .i64 c2, .int .i64 0]) 0 hf73 rfl rfl rfl rfl rfl sz_3 hI12 rfl (ltb rfl) (by kernel_rfl) fun wd10 hI21 => ⟨?_, ?_⟩)
            · exact Has.nil
            have hI22 : Inv w [(b1, #[.int .i64 w0, .int .i64 w1, .int .i64 w2, .int .i64 (c0 - m), .int .i64 c1, .int .i64 c2, .int .i64 0], 29), (b2, #[.int .i64 0, .int .i64 0, .int .i64 0, .int .i64 0, .int .i64 0, .int .i64 0, .int .i64 0], 29)] wd10 := hI21
            have hS12 : ∀ {w : World}, Has [] w := Has.nil
            refine any_end (by kernel_rfl) ?_
            clear hf44 hI5 ac40 hf48 ac43 hf49 ac44 hf50 ac45 hf51 ac46 hf52 ac47 hf53 hS1 ac56 hf62 ac57 hf63 hS6 ac64 hf70 ac65 hf71 hS10 ac66 hf72 wd2 hI12 hI21 hS11 hS12
            refine then_normal ?_
            refine code_seq ?_
            refine seq_start (l := [0, 1, 2]) rfl ?_
            refine seq_one (op_val (v := .agg #[.int .i64 w0, .int .i64 w1, .int .i64 w2, .int .i64 (c0 - m), .int .i64 c1, .int .i64 c2, .int .i64 0]) hf73 rfl rfl rfl rfl rfl rfl (r_loadW ag_29 sz_29 rfl (hI22.at 0 rfl) rfl) fun ac68 hf74 => ?_)
            refine seq_one (op_storeW (cells := #[.int .i64 w0, .int .i64 w1, .int .i64 w2, .int .i64 (c0 - m), .int .i64 c1, .int .i64 c2, .int .i64 0]) 1 hf74 rfl rfl rfl rfl rfl sz_29 rfl rfl hI22 rfl rfl fun wd11 hI23 => ?_)
            have hI24 : Inv w [(b1, #[.int .i64 w0, .int .i64 w1, .int .i64 w2, .int .i64 (c0 - m), .int .i64 c1, .int .i64 c2, .int .i64 0], 29), (b2, #[.int .i64 w0, .int .i64 w1, .int .i64 w2, .int .i64 (c0 - m), .int .i64 c1, .int .i64 c2, .int .i64 0], 29)] wd11 := hI23
            refine seq_one (op_val (v := .int .i64 0) hf74 rfl rfl rfl rfl rfl rfl (r_assign rfl) fun ac69 hf75 => ?_)
            refine seq_end ?_
            clear ac67 hf73 wd10 hI22 hI23 ac68 hf74
            refine then_normal ?_
            refine wp_ret ?_
            refine postC1 rfl hf75 rfl ag_29 sz_29 (hI24.at 1 rfl) rfl rfl ⟨?_, hI24.done (fresh_keys (ks := [b1, b2]) rfl (fk_cons hb1 (fk_cons hb2 fk_nil)))⟩
            have hb : ¬ (m < 1 ∨ m > 65536 ∨ (⟨c0, c1, c2, 0⟩ : St).cr ≤ 0) := by
              simp only [St.cr, if_true, if_false, show ((1 : Int) = 0) = False by simp, show ((2 : Int) = 0) = False by simp, show ((2 : Int) = 1) = False by simp]
              simp only [decide_eq_true_eq, decide_eq_false_iff_not] at g8_1 g12_2 c19_3
              omega
            unfold spE spS
            rw [if_neg hb, if_neg hb]
            try rfl
set_option maxHeartbeats 8000000 in
theorem spendR_pur1 (w0 w1 w2 c0 c1 c2 m : Int) (hv : WOK w0 w1 w2) (hs : Ok w0 w1 w2 ⟨c0, c1, c2, 1⟩) : Pur Try.prog 15 [.agg #[.int .i64 w0, .int .i64 w1, .int .i64 w2, .int .i64 c0, .int .i64 c1, .int .i64 c2, .int .i64 1], .int .i64 m] (.tuple #[.agg #[.int .i64 w0, .int .i64 w1, .int .i64 w2, .int .i64 (((spS m ⟨c0, c1, c2, 1⟩ : St)).c0), .int .i64 (((spS m ⟨c0, c1, c2, 1⟩ : St)).c1), .int .i64 (((spS m ⟨c0, c1, c2, 1⟩ : St)).c2), .int .i64 (((spS m ⟨c0, c1, c2, 1⟩ : St)).now)], .int .i64 (spE m ⟨c0, c1, c2, 1⟩)]) := by
  intro w
  have hI1 := Inv.start w
  refine enter (n := 33) Try.func15 rfl rfl rfl ?_
  intro ac1 hf1
  refine code_seq ?_
  refine seq_start (l := [0, 1, 2]) rfl ?_
  refine seq_one (op_box hf1 rfl rfl rfl rfl hI1 fun ac2 b1 wd1 hb1 hI2 hf2 => ?_)
  have hI3 : Inv w [(b1, #[.int .i64 w0, .int .i64 w1, .int .i64 w2, .int .i64 c0, .int .i64 c1, .int .i64 c2, .int .i64 1], 29)] wd1 := hI2
  refine seq_one (op_alloc hf2 rfl rfl rfl ze_29 hI3 fun ac3 b2 wd2 hb2 hI4 hf3 => ?_)
  have hI5 : Inv w [(b1, #[.int .i64 w0, .int .i64 w1, .int .i64 w2, .int .i64 c0, .int .i64 c1, .int .i64 c2, .int .i64 1], 29), (b2, #[.int .i64 0, .int .i64 0, .int .i64 0, .int .i64 0, .int .i64 0, .int .i64 0, .int .i64 0], 29)] wd2 := hI4
  refine seq_one (op_val (v := .int .i64 0) hf3 rfl rfl rfl rfl rfl rfl (r_assign rfl) fun ac4 hf4 => ?_)
  refine seq_end ?_
  clear ac1 hI1 hf1 hI2 ac2 wd1 hI3 hf2 hI4 ac3 hf3
  refine then_normal ?_
  refine code_seq ?_
  refine code_seq ?_
  refine seq_start (l := [0, 1, 2, 3, 4, 5, 6, 7, 8, 9, 10, 11, 12, 13]) rfl ?_
  refine seq_one (op_val (v := .int .i64 m) hf4 rfl rfl rfl rfl rfl rfl (r_move rfl) fun ac5 hf5 => ?_)
  refine seq_one (op_val (v := .bool (decide (m < 1))) hf5 rfl rfl rfl rfl rfl rfl (r_lss rfl rfl) fun ac6 hf6 => ?_)
  refine seq_one (op_val (v := .bool (decide (m < 1))) hf6 rfl rfl rfl rfl rfl rfl (r_move rfl) fun ac7 hf7 => ?_)
  rcases Bool.eq_false_or_eq_true (decide (m < 1) : Bool) with g8_1 | g8_1
  · have hf8 := hf7.know 8 (u := .bool true) rfl (congrArg Value.bool g8_1)
    refine seq_one (op_skip hf8 rfl rfl rfl rfl fun ac8 hf9 => ?_)
    refine seq_one (op_skip hf9 rfl rfl rfl rfl fun ac9 hf10 => ?_)
    refine seq_one (op_val (v := .bool true) hf10 rfl rfl rfl rfl rfl rfl (r_pickT rfl rfl) fun ac10 hf11 => ?_)
    refine seq_one (op_val (v := .bool true) hf11 rfl rfl rfl rfl rfl rfl (r_move rfl) fun ac11 hf12 => ?_)
    refine seq_one (op_skip hf12 rfl rfl rfl rfl fun ac12 hf13 => ?_)
    refine seq_one (op_skip hf13 rfl rfl rfl rfl fun ac13 hf14 => ?_)
    refine seq_one (op_skip hf14 rfl rfl rfl rfl fun ac14 hf15 => ?_)
    refine seq_one (op_skip hf15 rfl rfl rfl rfl fun ac15 hf16 => ?_)
    refine seq_one (op_skip hf16 rfl rfl rfl rfl fun ac16 hf17 => ?_)
    refine seq_one (op_skip hf17 rfl rfl rfl rfl fun ac17 hf18 => ?_)
    refine seq_one (op_val (v := .bool true) hf18 rfl rfl rfl rfl rfl rfl (r_pickT rfl rfl) fun ac18 hf19 => ?_)
    refine seq_end ?_
    clear ac4 hf4 ac5 hf5 ac6 hf6 hf7 ac7 hf8 ac8 hf9 ac9 hf10 ac10 hf11 ac11 hf12 ac12 hf13 ac13 hf14 ac14 hf15 ac15 hf16 ac16 hf17 ac17 hf18
    refine then_normal ?_
    refine code_if_true hf19 rfl ?_
    refine code_seq ?_
    refine seq_start (l := [0, 1, 2]) rfl ?_
    refine seq_one (op_val (v := .agg #[.int .i64 w0, .int .i64 w1, .int .i64 w2, .int .i64 c0, .int .i64 c1, .int .i64 c2, .int .i64 1]) hf19 rfl rfl rfl rfl rfl rfl (r_loadW ag_29 sz_29 rfl (hI5.at 0 rfl) rfl) fun ac19 hf20 => ?_)
    refine seq_one (op_storeW (cells := #[.int .i64 w0, .int .i64 w1, .int .i64 w2, .int .i64 c0, .int .i64 c1, .int .i64 c2, .int .i64 1]) 1 hf20 rfl rfl rfl rfl rfl sz_29 rfl rfl hI5 rfl rfl fun wd3 hI6 => ?_)
    have hI7 : Inv w [(b1, #[.int .i64 w0, .int .i64 w1, .int .i64 w2, .int .i64 c0, .int .i64 c1, .int .i64 c2, .int .i64 1], 29), (b2, #[.int .i64 w0, .int .i64 w1, .int .i64 w2, .int .i64 c0, .int .i64 c1, .int .i64 c2, .int .i64 1], 29)] wd3 := hI6
    refine seq_one (op_val (v := .int .i64 2) hf20 rfl rfl rfl rfl rfl rfl (r_assign rfl) fun ac20 hf21 => ?_)
    refine seq_end ?_
    clear ac18 hf19 wd2 hI5 hI6 ac19 hf20
    refine then_normal ?_
    refine wp_ret ?_
    refine then_ret ?_
    refine postC1 rfl hf21 rfl ag_29 sz_29 (hI7.at 1 rfl) rfl rfl ⟨?_, hI7.done (fresh_keys (ks := [b1, b2]) rfl (fk_cons hb1 (fk_cons hb2 fk_nil)))⟩
    have hb : (m < 1 ∨ m > 65536 ∨ (⟨c0, c1, c2, 1⟩ : St).cr ≤ 0) := by
      simp only [St.cr, if_true, if_false, show ((1 : Int) = 0) = False by simp, show ((2 : Int) = 0) = False by simp, show ((2 : Int) = 1) = False by simp]
      simp only [decide_eq_true_eq, decide_eq_false_iff_not] at g8_1
      omega
    unfold spE spS
    rw [if_pos hb, if_pos hb]
    try rfl
  · have hf22 := hf7.know 8 (u := .bool false) rfl (congrArg Value.bool g8_1)
    refine seq_one (op_val (v := .int .i64 m) hf22 rfl rfl rfl rfl rfl rfl (r_move rfl) fun ac21 hf23 => ?_)
    refine seq_one (op_val (v := .bool (decide (m > 65536))) hf23 rfl rfl rfl rfl rfl rfl (r_gtr rfl rfl) fun ac22 hf24 => ?_)
    refine seq_one (op_val (v := .bool (decide (m > 65536))) hf24 rfl rfl rfl rfl rfl rfl (r_pickF rfl rfl) fun ac23 hf25 => ?_)
    refine seq_one (op_val (v := .bool (decide (m > 65536))) hf25 rfl rfl rfl rfl rfl rfl (r_move rfl) fun ac24 hf26 => ?_)
    rcases Bool.eq_false_or_eq_true (decide (m > 65536) : Bool) with g12_2 | g12_2
    · have hf27 := hf26.know 12 (u := .bool true) rfl (congrArg Value.bool g12_2)
      refine seq_one (op_skip hf27 rfl rfl rfl rfl fun ac25 hf28 => ?_)
      refine seq_one (op_skip hf28 rfl rfl rfl rfl fun ac26 hf29 => ?_)
      refine seq_one (op_skip hf29 rfl rfl rfl rfl fun ac27 hf30 => ?_)
      refine seq_one (op_skip hf30 rfl rfl rfl rfl fun ac28 hf31 => ?_)
      refine seq_one (op_skip hf31 rfl rfl rfl rfl fun ac29 hf32 => ?_)
      refine seq_one (op_skip hf32 rfl rfl rfl rfl fun ac30 hf33 => ?_)
      refine seq_one (op_val (v := .bool true) hf33 rfl rfl rfl rfl rfl rfl (r_pickT rfl rfl) fun ac31 hf34 => ?_)
      refine seq_end ?_
      clear ac4 hf4 ac5 hf5 ac6 hf6 hf7 ac7 hf22 ac21 hf23 ac22 hf24 ac23 hf25 hf26 ac24 hf27 ac25 hf28 ac26 hf29 ac27 hf30 ac28 hf31 ac29 hf32 ac30 hf33
      refine then_normal ?_
      refine code_if_true hf34 rfl ?_
      refine code_seq ?_
      refine seq_start (l := [0, 1, 2]) rfl ?_
      refine seq_one (op_val (v := .agg #[.int .i64 w0, .int .i64 w1, .int .i64 w2, .int .i64 c0, .int .i64 c1, .int .i64 c2, .int .i64 1]) hf34 rfl rfl rfl rfl rfl rfl (r_loadW ag_29 sz_29 rfl (hI5.at 0 rfl) rfl) fun ac32 hf35 => ?_)
      refine seq_one (op_storeW (cells := #[.int .i64 w0, .int .i64 w1, .int .i64 w2, .int .i64 c0, .int .i64 c1, .int .i64 c2, .int .i64 1]) 1 hf35 rfl rfl rfl rfl rfl sz_29 rfl rfl hI5 rfl rfl fun wd4 hI8 => ?_)
      have hI9 : Inv w [(b1, #[.int .i64 w0, .int .i64 w1, .int .i64 w2, .int .i64 c0, .int .i64 c1, .int .i64 c2, .int .i64 1], 29), (b2, #[.int .i64 w0, .int .i64 w1, .int .i64 w2, .int .i64 c0, .int .i64 c1, .int .i64 c2, .int .i64 1], 29)] wd4 := hI8
      refine seq_one (op_val (v := .int .i64 2) hf35 rfl rfl rfl rfl rfl rfl (r_assign rfl) fun ac33 hf36 => ?_)
      refine seq_end ?_
      clear ac31 hf34 wd2 hI5 hI8 ac32 hf35
      refine then_normal ?_
      refine wp_ret ?_
      refine then_ret ?_
      refine postC1 rfl hf36 rfl ag_29 sz_29 (hI9.at 1 rfl) rfl rfl ⟨?_, hI9.done (fresh_keys (ks := [b1, b2]) rfl (fk_cons hb1 (fk_cons hb2 fk_nil)))⟩
      have hb : (m < 1 ∨ m > 65536 ∨ (⟨c0, c1, c2, 1⟩ : St).cr ≤ 0) := by
        simp only [St.cr, if_true, if_false, show ((1 : Int) = 0) = False by simp, show ((2 : Int) = 0) = False by simp, show ((2 : Int) = 1) = False by simp]
        simp only [decide_eq_true_eq, decide_eq_false_iff_not] at g8_1 g12_2
        omega
      unfold spE spS
      rw [if_pos hb, if_pos hb]
      try rfl
    · have hf37 := hf26.know 12 (u := .bool false) rfl (congrArg Value.bool g12_2)
      refine seq_one (op_val (v := .pointer (some ⟨b1, 6, none⟩)) hf37 rfl rfl rfl rfl rfl rfl (r_fieldAddr fi_29_2 rfl rfl) fun ac34 hf38 => ?_)
      refine seq_one (op_val (v := .int .i64 1) hf38 rfl rfl rfl rfl rfl rfl (r_load ag_3 rfl (hI5.at 0 rfl) rfl) fun ac35 hf39 => ?_)
      refine seq_one (op_val (v := .pointer (some ⟨b1, 3, none⟩)) hf39 rfl rfl rfl rfl rfl rfl (r_fieldAddr fi_29_1 rfl rfl) fun ac36 hf40 => ?_)
      refine seq_one (op_val (v := .pointer (some ⟨b1, 4, none⟩)) hf40 rfl rfl rfl rfl rfl rfl (r_indexAddr (i := 1) ar_22 rfl rfl rfl (by decide) rfl) fun ac37 hf41 => ?_)
      refine seq_one (op_val (v := .int .i64 c1) hf41 rfl rfl rfl rfl rfl rfl (r_load ag_3 rfl (hI5.at 0 rfl) rfl) fun ac38 hf42 => ?_)
      refine seq_one (op_val (v := .bool (decide (c1 ≤ 0))) hf42 rfl rfl rfl rfl rfl rfl (r_leq rfl rfl) fun ac39 hf43 => ?_)
      refine seq_one (op_val (v := .bool (decide (c1 ≤ 0))) hf43 rfl rfl rfl rfl rfl rfl (r_pickF rfl rfl) fun ac40 hf44 => ?_)
      refine seq_end ?_
      clear ac4 hf4 ac5 hf5 ac6 hf6 hf7 ac7 hf22 ac21 hf23 ac22 hf24 ac23 hf25 hf26 ac24 hf37 ac34 hf38 ac35 hf39 ac36 hf40 ac37 hf41 ac38 hf42 ac39 hf43
      refine then_normal ?_
      refine code_if hf44 rfl (fun c19_3 => ?_) (fun c19_3 => ?_)
      · have hf45 := hf44.know 19 (u := .bool true) rfl (congrArg Value.bool c19_3)
        refine code_seq ?_
        refine seq_start (l := [0, 1, 2]) rfl ?_
        refine seq_one (op_val (v := .agg #[.int .i64 w0, .int .i64 w1, .int .i64 w2, .int .i64 c0, .int .i64 c1, .int .i64 c2, .int .i64 1]) hf45 rfl rfl rfl rfl rfl rfl (r_loadW ag_29 sz_29 rfl (hI5.at 0 rfl) rfl) fun ac41 hf46 => ?_)
        refine seq_one (op_storeW (cells := #[.int .i64 w0, .int .i64 w1, .int .i64 w2, .int .i64 c0, .int .i64 c1, .int .i64 c2, .int .i64 1]) 1 hf46 rfl rfl rfl rfl rfl sz_29 rfl rfl hI5 rfl rfl fun wd5 hI10 => ?_)
        have hI11 : Inv w [(b1, #[.int .i64 w0, .int .i64 w1, .int .i64 w2, .int .i64 c0, .int .i64 c1, .int .i64 c2, .int .i64 1], 29), (b2, #[.int .i64 w0, .int .i64 w1, .int .i64 w2, .int .i64 c0, .int .i64 c1, .int .i64 c2, .int .i64 1], 29)] wd5 := hI10
        refine seq_one (op_val (v := .int .i64 2) hf46 rfl rfl rfl rfl rfl rfl (r_assign rfl) fun ac42 hf47 => ?_)
        refine seq_end ?_
        clear hf44 ac40 hf45 wd2 hI5 hI10 ac41 hf46
        refine then_normal ?_
        refine wp_ret ?_
        refine then_ret ?_
        refine postC1 rfl hf47 rfl ag_29 sz_29 (hI11.at 1 rfl) rfl rfl ⟨?_, hI11.done (fresh_keys (ks := [b1, b2]) rfl (fk_cons hb1 (fk_cons hb2 fk_nil)))⟩
        have hb : (m < 1 ∨ m > 65536 ∨ (⟨c0, c1, c2, 1⟩ : St).cr ≤ 0) := by
          simp only [St.cr, if_true, if_false, show ((1 : Int) = 0) = False by simp, show ((2 : Int) = 0) = False by simp, show ((2 : Int) = 1) = False by simp]
          simp only [decide_eq_true_eq, decide_eq_false_iff_not] at g8_1 g12_2 c19_3
          omega
        unfold spE spS
        rw [if_pos hb, if_pos hb]
        try rfl
      · have hf48 := hf44.know 19 (u := .bool false) rfl (congrArg Value.bool c19_3)
        refine wp_skip ?_
        refine then_normal ?_
        refine code_seq ?_
        refine any_start (fun w => Has [] w) follows (Has.drew Has.nil) ?_
        have hS1 : ∀ {w : World}, Has [] w := Has.nil
        have hI12 := hI5.drew
        refine any_val (i := 0) (v := .pointer (some ⟨b1, 6, none⟩)) hf48 rfl rfl rfl rfl rfl rfl (fun _ _ _ h => h) (by kernel_rfl) (by kernel_rfl) (by kernel_rfl) (fun wd2 hS1 => (r_fieldAddr fi_29_2 rfl rfl)) hS1 fun ac43 hf49 => ?_
        refine any_val (i := 2) (v := .pointer (some ⟨b1, 6, none⟩)) hf49 rfl rfl rfl rfl rfl rfl (fun _ _ _ h => h) (by kernel_rfl) (by kernel_rfl) (by kernel_rfl) (fun wd2 hS1 => (r_fieldAddr fi_29_2 rfl rfl)) hS1 fun ac44 hf50 => ?_
        refine any_val (i := 4) (v := .pointer (some ⟨b1, 3, none⟩)) hf50 rfl rfl rfl rfl rfl rfl (fun _ _ _ h => h) (by kernel_rfl) (by kernel_rfl) (by kernel_rfl) (fun wd2 hS1 => (r_fieldAddr fi_29_1 rfl rfl)) hS1 fun ac45 hf51 => ?_
        refine any_val (i := 7) (v := .int .i64 m) hf51 rfl rfl rfl rfl rfl rfl (fun _ _ _ h => h) (by kernel_rfl) (by kernel_rfl) (by kernel_rfl) (fun wd2 hS1 => (r_move rfl)) hS1 fun ac46 hf52 => ?_
        refine any_val (i := 9) (v := .pointer (some ⟨b1, 3, none⟩)) hf52 rfl rfl rfl rfl rfl rfl (fun _ _ _ h => h) (by kernel_rfl) (by kernel_rfl) (by kernel_rfl) (fun wd2 hS1 => (r_fieldAddr fi_29_1 rfl rfl)) hS1 fun ac47 hf53 => ?_
        refine any_two (i := 1) (j := 3) (by kernel_rfl) ?_ ?_
        ·
          refine op_val (v := .int .i64 1) hf53 rfl rfl rfl rfl rfl rfl (r_load ag_3 rfl (hI12.at 0 rfl) rfl) fun ac48 hf54 => ⟨?_, ?_⟩
          · exact Has.nil
          have hS2 : ∀ {w : World}, Has [] w := Has.nil
          refine any_one (i := 3) (by kernel_rfl) ?_
          refine op_val (v := .int .i64 1) hf54 rfl rfl rfl rfl rfl rfl (r_load ag_3 rfl (hI12.at 0 rfl) rfl) fun ac49 hf55 => ⟨?_, ?_⟩
          · exact Has.nil
          have hS3 : ∀ {w : World}, Has [] w := Has.nil
          refine any_val (i := 5) (v := .pointer (some ⟨b1, 4, none⟩)) hf55 rfl rfl rfl rfl rfl rfl (fun _ _ _ h => h) (by kernel_rfl) (by kernel_rfl) (by kernel_rfl) (fun wd2 hS3 => (r_indexAddr (i := 1) ar_22 rfl rfl rfl (by decide) rfl)) hS3 fun ac50 hf56 => ?_
          refine any_one (i := 6) (by kernel_rfl) ?_
          refine op_val (v := .int .i64 c1) hf56 rfl rfl rfl rfl rfl rfl (r_load ag_3 rfl (hI12.at 0 rfl) rfl) fun ac51 hf57 => ⟨?_, ?_⟩
          · exact Has.nil
          have hS4 : ∀ {w : World}, Has [] w := Has.nil
          refine any_val (i := 8) (v := .int .i64 (c1 - m)) hf57 rfl rfl rfl rfl rfl rfl (fun _ _ _ h => h) (by kernel_rfl) (by kernel_rfl) (by kernel_rfl) (fun wd2 hS4 => (r_sub (c := (c1 - m)) rfl rfl (by have h1 := hs.l1; have h2 := hs.r1; have h3 := hv.r1; dsimp only at h1 h2; simp only [decide_eq_true_eq, decide_eq_false_iff_not] at g8_1 g12_2 c19_3; exact wrap_i64 (by omega) (by omega)))) hS4 fun ac52 hf58 => ?_
          refine any_val (i := 10) (v := .pointer (some ⟨b1, 4, none⟩)) hf58 rfl rfl rfl rfl rfl rfl (fun _ _ _ h => h) (by kernel_rfl) (by kernel_rfl) (by kernel_rfl) (fun wd2 hS4 => (r_indexAddr (i := 1) ar_22 rfl rfl rfl (by decide) rfl)) hS4 fun ac53 hf59 => ?_
          refine any_one (i := 11) (by kernel_rfl) ?_
          refine (op_store (cs' := #[.int .i64 w0, .int .i64 w1, .int .i64 w2, .int .i64 c0, .int .i64 (c1 - m), .int .i64 c2, .int .i64 1]) 0 hf59 rfl rfl rfl rfl rfl sz_3 hI12 rfl (ltb rfl) (by kernel_rfl) fun wd6 hI13 => ⟨?_, ?_⟩)
          · exact Has.nil
          have hI14 : Inv w [(b1, #[.int .i64 w0, .int .i64 w1, .int .i64 w2, .int .i64 c0, .int .i64 (c1 - m), .int .i64 c2, .int .i64 1], 29), (b2, #[.int .i64 0, .int .i64 0, .int .i64 0, .int .i64 0, .int .i64 0, .int .i64 0, .int .i64 0], 29)] wd6 := hI13
          have hS5 : ∀ {w : World}, Has [] w := Has.nil
          refine any_end (by kernel_rfl) ?_
          clear hf44 hI5 ac40 hf48 ac43 hf49 ac44 hf50 ac45 hf51 ac46 hf52 ac47 hf53 hS1 ac48 hf54 hS2 ac49 hf55 ac50 hf56 hS3 ac51 hf57 ac52 hf58 wd2 hI12 hI13 hS4 hS5
          refine then_normal ?_
          refine code_seq ?_
          refine seq_start (l := [0, 1, 2]) rfl ?_
          refine seq_one (op_val (v := .agg #[.int .i64 w0, .int .i64 w1, .int .i64 w2, .int .i64 c0, .int .i64 (c1 - m), .int .i64 c2, .int .i64 1]) hf59 rfl rfl rfl rfl rfl rfl (r_loadW ag_29 sz_29 rfl (hI14.at 0 rfl) rfl) fun ac54 hf60 => ?_)
          refine seq_one (op_storeW (cells := #[.int .i64 w0, .int .i64 w1, .int .i64 w2, .int .i64 c0, .int .i64 (c1 - m), .int .i64 c2, .int .i64 1]) 1 hf60 rfl rfl rfl rfl rfl sz_29 rfl rfl hI14 rfl rfl fun wd7 hI15 => ?_)
          have hI16 : Inv w [(b1, #[.int .i64 w0, .int .i64 w1, .int .i64 w2, .int .i64 c0, .int .i64 (c1 - m), .int .i64 c2, .int .i64 1], 29), (b2, #[.int .i64 w0, .int .i64 w1, .int .i64 w2, .int .i64 c0, .int .i64 (c1 - m), .int .i64 c2, .int .i64 1], 29)] wd7 := hI15
          refine seq_one (op_val (v := .int .i64 0) hf60 rfl rfl rfl rfl rfl rfl (r_assign rfl) fun ac55 hf61 => ?_)
          refine seq_end ?_
          clear ac53 hf59 wd6 hI14 hI15 ac54 hf60
          refine then_normal ?_
          refine wp_ret ?_
          refine postC1 rfl hf61 rfl ag_29 sz_29 (hI16.at 1 rfl) rfl rfl ⟨?_, hI16.done (fresh_keys (ks := [b1, b2]) rfl (fk_cons hb1 (fk_cons hb2 fk_nil)))⟩
          have hb : ¬ (m < 1 ∨ m > 65536 ∨ (⟨c0, c1, c2, 1⟩ : St).cr ≤ 0) := by
            simp only [St.cr, if_true, if_false, show ((1 : Int) = 0) = False by simp, show ((2 : Int) = 0) = False by simp, show ((2 : Int) = 1) = False by simp]
            simp only [decide_eq_true_eq, decide_eq_false_iff_not] at g8_1 g12_2 c19_3
            omega
          unfold spE spS
          rw [if_neg hb, if_neg hb]
          try rfl
        ·
          refine op_val (v := .int .i64 1) hf53 rfl rfl rfl rfl rfl rfl (r_load ag_3 rfl (hI12.at 0 rfl) rfl) fun ac56 hf62 => ⟨?_, ?_⟩
          · exact Has.nil
          have hS6 : ∀ {w : World}, Has [] w := Has.nil
          refine any_val (i := 5) (v := .pointer (some ⟨b1, 4, none⟩)) hf62 rfl rfl rfl rfl rfl rfl (fun _ _ _ h => h) (by kernel_rfl) (by kernel_rfl) (by kernel_rfl) (fun wd2 hS6 => (r_indexAddr (i := 1) ar_22 rfl rfl rfl (by decide) rfl)) hS6 fun ac57 hf63 => ?_
          refine any_two (i := 1) (j := 6) (by kernel_rfl) ?_ ?_
          ·
            refine op_val (v := .int .i64 1) hf63 rfl rfl rfl rfl rfl rfl (r_load ag_3 rfl (hI12.at 0 rfl) rfl) fun ac58 hf64 => ⟨?_, ?_⟩
            · exact Has.nil
            have hS7 : ∀ {w : World}, Has [] w := Has.nil
            refine any_one (i := 6) (by kernel_rfl) ?_
            refine op_val (v := .int .i64 c1) hf64 rfl rfl rfl rfl rfl rfl (r_load ag_3 rfl (hI12.at 0 rfl) rfl) fun ac59 hf65 => ⟨?_, ?_⟩
            · exact Has.nil
            have hS8 : ∀ {w : World}, Has [] w := Has.nil
            refine any_val (i := 8) (v := .int .i64 (c1 - m)) hf65 rfl rfl rfl rfl rfl rfl (fun _ _ _ h => h) (by kernel_rfl) (by kernel_rfl) (by kernel_rfl) (fun wd2 hS8 => (r_sub (c := (c1 - m)) rfl rfl (by have h1 := hs.l1; have h2 := hs.r1; have h3 := hv.r1; dsimp only at h1 h2; simp only [decide_eq_true_eq, decide_eq_false_iff_not] at g8_1 g12_2 c19_3; exact wrap_i64 (by omega) (by omega)))) hS8 fun ac60 hf66 => ?_
            refine any_val (i := 10) (v := .pointer (some ⟨b1, 4, none⟩)) hf66 rfl rfl rfl rfl rfl rfl (fun _ _ _ h => h) (by kernel_rfl) (by kernel_rfl) (by kernel_rfl) (fun wd2 hS8 => (r_indexAddr (i := 1) ar_22 rfl rfl rfl (by decide) rfl)) hS8 fun ac61 hf67 => ?_
            refine any_one (i := 11) (by kernel_rfl) ?_
            refine (op_store (cs' := #[.int .i64 w0, .int .i64 w1, .int .i64 w2, .int .i64 c0, .int .i64 (c1 - m), .int .i64 c2, .int .i64 1]) 0 hf67 rfl rfl rfl rfl rfl sz_3 hI12 rfl (ltb rfl) (by kernel_rfl) fun wd8 hI17 => ⟨?_, ?_⟩)
            · exact Has.nil
            have hI18 : Inv w [(b1, #[.int .i64 w0, .int .i64 w1, .int .i64 w2, .int .i64 c0, .int .i64 (c1 - m), .int .i64 c2, .int .i64 1], 29), (b2, #[.int .i64 0, .int .i64 0, .int .i64 0, .int .i64 0, .int .i64 0, .int .i64 0, .int .i64 0], 29)] wd8 := hI17
            have hS9 : ∀ {w : World}, Has [] w := Has.nil
            refine any_end (by kernel_rfl) ?_
            clear hf44 hI5 ac40 hf48 ac43 hf49 ac44 hf50 ac45 hf51 ac46 hf52 ac47 hf53 hS1 ac56 hf62 ac57 hf63 hS6 ac58 hf64 hS7 ac59 hf65 ac60 hf66 wd2 hI12 hI17 hS8 hS9
            refine then_normal ?_
            refine code_seq ?_
            refine seq_start (l := [0, 1, 2]) rfl ?_
            refine seq_one (op_val (v := .agg #[.int .i64 w0, .int .i64 w1, .int .i64 w2, .int .i64 c0, .int .i64 (c1 - m), .int .i64 c2, .int .i64 1]) hf67 rfl rfl rfl rfl rfl rfl (r_loadW ag_29 sz_29 rfl (hI18.at 0 rfl) rfl) fun ac62 hf68 => ?_)
            refine seq_one (op_storeW (cells := #[.int .i64 w0, .int .i64 w1, .int .i64 w2, .int .i64 c0, .int .i64 (c1 - m), .int .i64 c2, .int .i64 1]) 1 hf68 rfl rfl rfl rfl rfl sz_29 rfl rfl hI18 rfl rfl fun wd9 hI19 => ?_)
            have hI20 : Inv w [(b1, #[.int .i64 w0, .int .i64 w1, .int .i64 w2, .int .i64 c0, .int .i64 (c1 - m), .int .i64 c2, .int .i64 1], 29), (b2, #[.int .i64 w0, .int .i64 w1, .int .i64 w2, .int .i64 c0, .int .i64 (c1 - m), .int .i64 c2, .int .i64 1], 29)] wd9 := hI19
            refine seq_one (op_val (v := .int .i64 0) hf68 rfl rfl rfl rfl rfl rfl (r_assign rfl) fun ac63 hf69 => ?_)
            refine seq_end ?_
            clear ac61 hf67 wd8 hI18 hI19 ac62 hf68
            refine then_normal ?_
            refine wp_ret ?_
            refine postC1 rfl hf69 rfl ag_29 sz_29 (hI20.at 1 rfl) rfl rfl ⟨?_, hI20.done (fresh_keys (ks := [b1, b2]) rfl (fk_cons hb1 (fk_cons hb2 fk_nil)))⟩
            have hb : ¬ (m < 1 ∨ m > 65536 ∨ (⟨c0, c1, c2, 1⟩ : St).cr ≤ 0) := by
              simp only [St.cr, if_true, if_false, show ((1 : Int) = 0) = False by simp, show ((2 : Int) = 0) = False by simp, show ((2 : Int) = 1) = False by simp]
              simp only [decide_eq_true_eq, decide_eq_false_iff_not] at g8_1 g12_2 c19_3
              omega
            unfold spE spS
            rw [if_neg hb, if_neg hb]
            try rfl
          ·
            refine op_val (v := .int .i64 c1) hf63 rfl rfl rfl rfl rfl rfl (r_load ag_3 rfl (hI12.at 0 rfl) rfl) fun ac64 hf70 => ⟨?_, ?_⟩
            · exact Has.nil
            have hS10 : ∀ {w : World}, Has [] w := Has.nil
            refine any_val (i := 8) (v := .int .i64 (c1 - m)) hf70 rfl rfl rfl rfl rfl rfl (fun _ _ _ h => h) (by kernel_rfl) (by kernel_rfl) (by kernel_rfl) (fun wd2 hS10 => (r_sub (c := (c1 - m)) rfl rfl (by have h1 := hs.l1; have h2 := hs.r1; have h3 := hv.r1; dsimp only at h1 h2; simp only [decide_eq_true_eq, decide_eq_false_iff_not] at g8_1 g12_2 c19_3; exact wrap_i64 (by omega) (by omega)))) hS10 fun ac65 hf71 => ?_
            refine any_one (i := 1) (by kernel_rfl) ?_
            refine op_val (v := .int .i64 1) hf71 rfl rfl rfl rfl rfl rfl (r_load ag_3 rfl (hI12.at 0 rfl) rfl) fun ac66 hf72 => ⟨?_, ?_⟩
            · exact Has.nil
            have hS11 : ∀ {w : World}, Has [] w := Has.nil
            refine any_val (i := 10) (v := .pointer (some ⟨b1, 4, none⟩)) hf72 rfl rfl rfl rfl rfl rfl (fun _ _ _ h => h) (by kernel_rfl) (by kernel_rfl) (by kernel_rfl) (fun wd2 hS11 => (r_indexAddr (i := 1) ar_22 rfl rfl rfl (by decide) rfl)) hS11 fun ac67 hf73 => ?_
            refine any_one (i := 11) (by kernel_rfl) ?_
            refine (op_store (cs' := #[.int .i64 w0, .int .i64 w1, .int .i64 w2, .int .i64 c0, .int .i64 (c1 - m), .int .i64 c2, .int .i64 1]) 0 hf73 rfl rfl rfl rfl rfl sz_3 hI12 rfl (ltb rfl) (by kernel_rfl) fun wd10 hI21 => ⟨?_, ?_⟩)
            · exact Has.nil
            have hI22 : Inv w [(b1, #[.int .i64 w0, .int .i64 w1, .int .i64 w2, .int .i64 c0, .int .i64 (c1 - m), .int .i64 c2, .int .i64 1], 29), (b2, #[.int .i64 0, .int .i64 0, .int .i64 0, .int .i64 0, .int .i64 0, .int .i64 0, .int .i64 0], 29)] wd10 := hI21
            have hS12 : ∀ {w : World}, Has [] w := Has.nil
            refine any_end (by kernel_rfl) ?_
            clear hf44 hI5 ac40 hf48 ac43 hf49 ac44 hf50 ac45 hf51 ac46 hf52 ac47 hf53 hS1 ac56 hf62 ac57 hf63 hS6 ac64 hf70 ac65 hf71 hS10 ac66 hf72 wd2 hI12 hI21 hS11 hS12
            refine then_normal ?_
            refine code_seq ?_
            refine seq_start (l := [0, 1, 2]) rfl ?_
            refine seq_one (op_val (v := .agg #[.int .i64 w0, .int .i64 w1, .int .i64 w2, .int .i64 c0, .int .i64 (c1 - m), .int .i64 c2, .int .i64 1]) hf73 rfl rfl rfl rfl rfl rfl (r_loadW ag_29 sz_29 rfl (hI22.at 0 rfl) rfl) fun ac68 hf74 => ?_)
            refine seq_one (op_storeW (cells := #[.int .i64 w0, .int .i64 w1, .int .i64 w2, .int .i64 c0, .int .i64 (c1 - m), .int .i64 c2, .int .i64 1]) 1 hf74 rfl rfl rfl rfl rfl sz_29 rfl rfl hI22 rfl rfl fun wd11 hI23 => ?_)
            have hI24 : Inv w [(b1, #[.int .i64 w0, .int .i64 w1, .int .i64 w2, .int .i64 c0, .int .i64 (c1 - m), .int .i64 c2, .int .i64 1], 29), (b2, #[.int .i64 w0, .int .i64 w1, .int .i64 w2, .int .i64 c0, .int .i64 (c1 - m), .int .i64 c2, .int .i64 1], 29)] wd11 := hI23
            refine seq_one (op_val (v := .int .i64 0) hf74 rfl rfl rfl rfl rfl rfl (r_assign rfl) fun ac69 hf75 => ?_)
            refine seq_end ?_
            clear ac67 hf73 wd10 hI22 hI23 ac68 hf74
            refine then_normal ?_
            refine wp_ret ?_
            refine postC1 rfl hf75 rfl ag_29 sz_29 (hI24.at 1 rfl) rfl rfl ⟨?_, hI24.done (fresh_keys (ks := [b1, b2]) rfl (fk_cons hb1 (fk_cons hb2 fk_nil)))⟩
            have hb : ¬ (m < 1 ∨ m > 65536 ∨ (⟨c0, c1, c2, 1⟩ : St).cr ≤ 0) := by
              simp only [St.cr, if_true, if_false, show ((1 : Int) = 0) = False by simp, show ((2 : Int) = 0) = False by simp, show ((2 : Int) = 1) = False by simp]
              simp only [decide_eq_true_eq, decide_eq_false_iff_not] at g8_1 g12_2 c19_3
              omega
            unfold spE spS
            rw [if_neg hb, if_neg hb]
            try rfl
set_option maxHeartbeats 8000000 in
theorem spendR_pur2 (w0 w1 w2 c0 c1 c2 m : Int) (hv : WOK w0 w1 w2) (hs : Ok w0 w1 w2 ⟨c0, c1, c2, 2⟩) : Pur Try.prog 15 [.agg #[.int .i64 w0, .int .i64 w1, .int .i64 w2, .int .i64 c0, .int .i64 c1, .int .i64 c2, .int .i64 2], .int .i64 m] (.tuple #[.agg #[.int .i64 w0, .int .i64 w1, .int .i64 w2, .int .i64 (((spS m ⟨c0, c1, c2, 2⟩ : St)).c0), .int .i64 (((spS m ⟨c0, c1, c2, 2⟩ : St)).c1), .int .i64 (((spS m ⟨c0, c1, c2, 2⟩ : St)).c2), .int .i64 (((spS m ⟨c0, c1, c2, 2⟩ : St)).now)], .int .i64 (spE m ⟨c0, c1, c2, 2⟩)]) := by
  intro w
  have hI1 := Inv.start w
  refine enter (n := 33) Try.func15 rfl rfl rfl ?_
  intro ac1 hf1
  refine code_seq ?_
  refine seq_start (l := [0, 1, 2]) rfl ?_
  refine seq_one (op_box hf1 rfl rfl rfl rfl hI1 fun ac2 b1 wd1 hb1 hI2 hf2 => ?_)
  have hI3 : Inv w [(b1, #[.int .i64 w0, .int .i64 w1, .int .i64 w2, .int .i64 c0, .int .i64 c1, .int .i64 c2, .int .i64 2], 29)] wd1 := hI2
  refine seq_one (op_alloc hf2 rfl rfl rfl ze_29 hI3 fun ac3 b2 wd2 hb2 hI4 hf3 => ?_)
  have hI5 : Inv w [(b1, #[.int .i64 w0, .int .i64 w1, .int .i64 w2, .int .i64 c0, .int .i64 c1, .int .i64 c2, .int .i64 2], 29), (b2, #[.int .i64 0, .int .i64 0, .int .i64 0, .int .i64 0, .int .i64 0, .int .i64 0, .int .i64 0], 29)] wd2 := hI4
  refine seq_one (op_val (v := .int .i64 0) hf3 rfl rfl rfl rfl rfl rfl (r_assign rfl) fun ac4 hf4 => ?_)
  refine seq_end ?_
  clear ac1 hI1 hf1 hI2 ac2 wd1 hI3 hf2 hI4 ac3 hf3
  refine then_normal ?_
  refine code_seq ?_
  refine code_seq ?_
  refine seq_start (l := [0, 1, 2, 3, 4, 5, 6, 7, 8, 9, 10, 11, 12, 13]) rfl ?_
  refine seq_one (op_val (v := .int .i64 m) hf4 rfl rfl rfl rfl rfl rfl (r_move rfl) fun ac5 hf5 => ?_)
  refine seq_one (op_val (v := .bool (decide (m < 1))) hf5 rfl rfl rfl rfl rfl rfl (r_lss rfl rfl) fun ac6 hf6 => ?_)
  refine seq_one (op_val (v := .bool (decide (m < 1))) hf6 rfl rfl rfl rfl rfl rfl (r_move rfl) fun ac7 hf7 => ?_)
  rcases Bool.eq_false_or_eq_true (decide (m < 1) : Bool) with g8_1 | g8_1
  · have hf8 := hf7.know 8 (u := .bool true) rfl (congrArg Value.bool g8_1)
    refine seq_one (op_skip hf8 rfl rfl rfl rfl fun ac8 hf9 => ?_)
    refine seq_one (op_skip hf9 rfl rfl rfl rfl fun ac9 hf10 => ?_)
    refine seq_one (op_val (v := .bool true) hf10 rfl rfl rfl rfl rfl rfl (r_pickT rfl rfl) fun ac10 hf11 => ?_)
    refine seq_one (op_val (v := .bool true) hf11 rfl rfl rfl rfl rfl rfl (r_move rfl) fun ac11 hf12 => ?_)
    refine seq_one (op_skip hf12 rfl rfl rfl rfl fun ac12 hf13 => ?_)
    refine seq_one (op_skip hf13 rfl rfl rfl rfl fun ac13 hf14 => ?_)
    refine seq_one (op_skip hf14 rfl rfl rfl rfl fun ac14 hf15 => ?_)
    refine seq_one (op_skip hf15 rfl rfl rfl rfl fun ac15 hf16 => ?_)
    refine seq_one (op_skip hf16 rfl rfl rfl rfl fun ac16 hf17 => ?_)
    refine seq_one (op_skip hf17 rfl rfl rfl rfl fun ac17 hf18 => ?_)
    refine seq_one (op_val (v := .bool true) hf18 rfl rfl rfl rfl rfl rfl (r_pickT rfl rfl) fun ac18 hf19 => ?_)
    refine seq_end ?_
    clear ac4 hf4 ac5 hf5 ac6 hf6 hf7 ac7 hf8 ac8 hf9 ac9 hf10 ac10 hf11 ac11 hf12 ac12 hf13 ac13 hf14 ac14 hf15 ac15 hf16 ac16 hf17 ac17 hf18
    refine then_normal ?_
    refine code_if_true hf19 rfl ?_
    refine code_seq ?_
    refine seq_start (l := [0, 1, 2]) rfl ?_
    refine seq_one (op_val (v := .agg #[.int .i64 w0, .int .i64 w1, .int .i64 w2, .int .i64 c0, .int .i64 c1, .int .i64 c2, .int .i64 2]) hf19 rfl rfl rfl rfl rfl rfl (r_loadW ag_29 sz_29 rfl (hI5.at 0 rfl) rfl) fun ac19 hf20 => ?_)
    refine seq_one (op_storeW (cells := #[.int .i64 w0, .int .i64 w1, .int .i64 w2, .int .i64 c0, .int .i64 c1, .int .i64 c2, .int .i64 2]) 1 hf20 rfl rfl rfl rfl rfl sz_29 rfl rfl hI5 rfl rfl fun wd3 hI6 => ?_)
    have hI7 : Inv w [(b1, #[.int .i64 w0, .int .i64 w1, .int .i64 w2, .int .i64 c0, .int .i64 c1, .int .i64 c2, .int .i64 2], 29), (b2, #[.int .i64 w0, .int .i64 w1, .int .i64 w2, .int .i64 c0, .int .i64 c1, .int .i64 c2, .int .i64 2], 29)] wd3 := hI6
    refine seq_one (op_val (v := .int .i64 2) hf20 rfl rfl rfl rfl rfl rfl (r_assign rfl) fun ac20 hf21 => ?_)
    refine seq_end ?_
    clear ac18 hf19 wd2 hI5 hI6 ac19 hf20
    refine then_normal ?_
    refine wp_ret ?_
    refine then_ret ?_
    refine postC1 rfl hf21 rfl ag_29 sz_29 (hI7.at 1 rfl) rfl rfl ⟨?_, hI7.done (fresh_keys (ks := [b1, b2]) rfl (fk_cons hb1 (fk_cons hb2 fk_nil)))⟩
    have hb : (m < 1 ∨ m > 65536 ∨ (⟨c0, c1, c2, 2⟩ : St).cr ≤ 0) := by
      simp only [St.cr, if_true, if_false, show ((1 : Int) = 0) = False by simp, show ((2 : Int) = 0) = False by simp, show ((2 : Int) = 1) = False by simp]
      simp only [decide_eq_true_eq, decide_eq_false_iff_not] at g8_1
      omega
    unfold spE spS
    rw [if_pos hb, if_pos hb]
    try rfl
  · have hf22 := hf7.know 8 (u := .bool false) rfl (congrArg Value.bool g8_1)
    refine seq_one (op_val (v := .int .i64 m) hf22 rfl rfl rfl rfl rfl rfl (r_move rfl) fun ac21 hf23 => ?_)
    refine seq_one (op_val (v := .bool (decide (m > 65536))) hf23 rfl rfl rfl rfl rfl rfl (r_gtr rfl rfl) fun ac22 hf24 => ?_)
    refine seq_one (op_val (v := .bool (decide (m > 65536))) hf24 rfl rfl rfl rfl rfl rfl (r_pickF rfl rfl) fun ac23 hf25 => ?_)
    refine seq_one (op_val (v := .bool (decide (m > 65536))) hf25 rfl rfl rfl rfl rfl rfl (r_move rfl) fun ac24 hf26 => ?_)
    rcases Bool.eq_false_or_eq_true (decide (m > 65536) : Bool) with g12_2 | g12_2
    · have hf27 := hf26.know 12 (u := .bool true) rfl (congrArg Value.bool g12_2)
      refine seq_one (op_skip hf27 rfl rfl rfl rfl fun ac25 hf28 => ?_)
      refine seq_one (op_skip hf28 rfl rfl rfl rfl fun ac26 hf29 => ?_)
      refine seq_one (op_skip hf29 rfl rfl rfl rfl fun ac27 hf30 => ?_)
      refine seq_one (op_skip hf30 rfl rfl rfl rfl fun ac28 hf31 => ?_)
      refine seq_one (op_skip hf31 rfl rfl rfl rfl fun ac29 hf32 => ?_)
      refine seq_one (op_skip hf32 rfl rfl rfl rfl fun ac30 hf33 => ?_)
      refine seq_one (op_val (v := .bool true) hf33 rfl rfl rfl rfl rfl rfl (r_pickT rfl rfl) fun ac31 hf34 => ?_)
      refine seq_end ?_
      clear ac4 hf4 ac5 hf5 ac6 hf6 hf7 ac7 hf22 ac21 hf23 ac22 hf24 ac23 hf25 hf26 ac24 hf27 ac25 hf28 ac26 hf29 ac27 hf30 ac28 hf31 ac29 hf32 ac30 hf33
      refine then_normal ?_
      refine code_if_true hf34 rfl ?_
      refine code_seq ?_
      refine seq_start (l := [0, 1, 2]) rfl ?_
      refine seq_one (op_val (v := .agg #[.int .i64 w0, .int .i64 w1, .int .i64 w2, .int .i64 c0, .int .i64 c1, .int .i64 c2, .int .i64 2]) hf34 rfl rfl rfl rfl rfl rfl (r_loadW ag_29 sz_29 rfl (hI5.at 0 rfl) rfl) fun ac32 hf35 => ?_)
      refine seq_one (op_storeW (cells := #[.int .i64 w0, .int .i64 w1, .int .i64 w2, .int .i64 c0, .int .i64 c1, .int .i64 c2, .int .i64 2]) 1 hf35 rfl rfl rfl rfl rfl sz_29 rfl rfl hI5 rfl rfl fun wd4 hI8 => ?_)
      have hI9 : Inv w [(b1, #[.int .i64 w0, .int .i64 w1, .int .i64 w2, .int .i64 c0, .int .i64 c1, .int .i64 c2, .int .i64 2], 29), (b2, #[.int .i64 w0, .int .i64 w1, .int .i64 w2, .int .i64 c0, .int .i64 c1, .int .i64 c2, .int .i64 2], 29)] wd4 := hI8
      refine seq_one (op_val (v := .int .i64 2) hf35 rfl rfl rfl rfl rfl rfl (r_assign rfl) fun ac33 hf36 => ?_)
      refine seq_end ?_
      clear ac31 hf34 wd2 hI5 hI8 ac32 hf35
      refine then_normal ?_
      refine wp_ret ?_
      refine then_ret ?_
      refine postC1 rfl hf36 rfl ag_29 sz_29 (hI9.at 1 rfl) rfl rfl ⟨?_, hI9.done (fresh_keys (ks := [b1, b2]) rfl (fk_cons hb1 (fk_cons hb2 fk_nil)))⟩
      have hb : (m < 1 ∨ m > 65536 ∨ (⟨c0, c1, c2, 2⟩ : St).cr ≤ 0) := by
        simp only [St.cr, if_true, if_false, show ((1 : Int) = 0) = False by simp, show ((2 : Int) = 0) = False by simp, show ((2 : Int) = 1) = False by simp]
        simp only [decide_eq_true_eq, decide_eq_false_iff_not] at g8_1 g12_2
        omega
      unfold spE spS
      rw [if_pos hb, if_pos hb]
      try rfl
    · have hf37 := hf26.know 12 (u := .bool false) rfl (congrArg Value.bool g12_2)
      refine seq_one (op_val (v := .pointer (some ⟨b1, 6, none⟩)) hf37 rfl rfl rfl rfl rfl rfl (r_fieldAddr fi_29_2 rfl rfl) fun ac34 hf38 => ?_)
      refine seq_one (op_val (v := .int .i64 2) hf38 rfl rfl rfl rfl rfl rfl (r_load ag_3 rfl (hI5.at 0 rfl) rfl) fun ac35 hf39 => ?_)
      refine seq_one (op_val (v := .pointer (some ⟨b1, 3, none⟩)) hf39 rfl rfl rfl rfl rfl rfl (r_fieldAddr fi_29_1 rfl rfl) fun ac36 hf40 => ?_)
      refine seq_one (op_val (v := .pointer (some ⟨b1, 5, none⟩)) hf40 rfl rfl rfl rfl rfl rfl (r_indexAddr (i := 2) ar_22 rfl rfl rfl (by decide) rfl) fun ac37 hf41 => ?_)
      refine seq_one (op_val (v := .int .i64 c2) hf41 rfl rfl rfl rfl rfl rfl (r_load ag_3 rfl (hI5.at 0 rfl) rfl) fun ac38 hf42 => ?_)
      refine seq_one (op_val (v := .bool (decide (c2 ≤ 0))) hf42 rfl rfl rfl rfl rfl rfl (r_leq rfl rfl) fun ac39 hf43 => ?_)
      refine seq_one (op_val (v := .bool (decide (c2 ≤ 0))) hf43 rfl rfl rfl rfl rfl rfl (r_pickF rfl rfl) fun ac40 hf44 => ?_)
      refine seq_end ?_
      clear ac4 hf4 ac5 hf5 ac6 hf6 hf7 ac7 hf22 ac21 hf23 ac22 hf24 ac23 hf25 hf26 ac24 hf37 ac34 hf38 ac35 hf39 ac36 hf40 ac37 hf41 ac38 hf42 ac39 hf43
      refine then_normal ?_
      refine code_if hf44 rfl (fun c19_3 => ?_) (fun c19_3 => ?_)
      · have hf45 := hf44.know 19 (u := .bool true) rfl (congrArg Value.bool c19_3)
        refine code_seq ?_
        refine seq_start (l := [0, 1, 2]) rfl ?_
        refine seq_one (op_val (v := .agg #[.int .i64 w0, .int .i64 w1, .int .i64 w2, .int .i64 c0, .int .i64 c1, .int .i64 c2, .int .i64 2]) hf45 rfl rfl rfl rfl rfl rfl (r_loadW ag_29 sz_29 rfl (hI5.at 0 rfl) rfl) fun ac41 hf46 => ?_)
        refine seq_one (op_storeW (cells := #[.int .i64 w0, .int .i64 w1, .int .i64 w2, .int .i64 c0, .int .i64 c1, .int .i64 c2, .int .i64 2]) 1 hf46 rfl rfl rfl rfl rfl sz_29 rfl rfl hI5 rfl rfl fun wd5 hI10 => ?_)
        have hI11 : Inv w [(b1, #[.int .i64 w0, .int .i64 w1, .int .i64 w2, .int .i64 c0, .int .i64 c1, .int .i64 c2, .int .i64 2], 29), (b2, #[.int .i64 w0, .int .i64 w1, .int .i64 w2, .int .i64 c0, .int .i64 c1, .int .i64 c2, .int .i64 2], 29)] wd5 := hI10
        refine seq_one (op_val (v := .int .i64 2) hf46 rfl rfl rfl rfl rfl rfl (r_assign rfl) fun ac42 hf47 => ?_)
        refine seq_end ?_
        clear hf44 ac40 hf45 wd2 hI5 hI10 ac41 hf46
        refine then_normal ?_
        refine wp_ret ?_
        refine then_ret ?_
        refine postC1 rfl hf47 rfl ag_29 sz_29 (hI11.at 1 rfl) rfl rfl ⟨?_, hI11.done (fresh_keys (ks := [b1, b2]) rfl (fk_cons hb1 (fk_cons hb2 fk_nil)))⟩
        have hb : (m < 1 ∨ m > 65536 ∨ (⟨c0, c1, c2, 2⟩ : St).cr ≤ 0) := by
          simp only [St.cr, if_true, if_false, show ((1 : Int) = 0) = False by simp, show ((2 : Int) = 0) = False by simp, show ((2 : Int) = 1) = False by simp]
          simp only [decide_eq_true_eq, decide_eq_false_iff_not] at g8_1 g12_2 c19_3
          omega
        unfold spE spS
        rw [if_pos hb, if_pos hb]
        try rfl
      · have hf48 := hf44.know 19 (u := .bool false) rfl (congrArg Value.bool c19_3)
        refine wp_skip ?_
        refine then_normal ?_
        refine code_seq ?_
        refine any_start (fun w => Has [] w) follows (Has.drew Has.nil) ?_
        have hS1 : ∀ {w : World}, Has [] w := Has.nil
        have hI12 := hI5.drew
        refine any_val (i := 0) (v := .pointer (some ⟨b1, 6, none⟩)) hf48 rfl rfl rfl rfl rfl rfl (fun _ _ _ h => h) (by kernel_rfl) (by kernel_rfl) (by kernel_rfl) (fun wd2 hS1 => (r_fieldAddr fi_29_2 rfl rfl)) hS1 fun ac43 hf49 => ?_
        refine any_val (i := 2) (v := .pointer (some ⟨b1, 6, none⟩)) hf49 rfl rfl rfl rfl rfl rfl (fun _ _ _ h => h) (by kernel_rfl) (by kernel_rfl) (by kernel_rfl) (fun wd2 hS1 => (r_fieldAddr fi_29_2 rfl rfl)) hS1 fun ac44 hf50 => ?_
        refine any_val (i := 4) (v := .pointer (some ⟨b1, 3, none⟩)) hf50 rfl rfl rfl rfl rfl rfl (fun _ _ _ h => h) (by kernel_rfl) (by kernel_rfl) (by kernel_rfl) (fun wd2 hS1 => (r_fieldAddr fi_29_1 rfl rfl)) hS1 fun ac45 hf51 => ?_
        refine any_val (i := 7) (v := .int .i64 m) hf51 rfl rfl rfl rfl rfl rfl (fun _ _ _ h => h) (by kernel_rfl) (by kernel_rfl) (by kernel_rfl) (fun wd2 hS1 => (r_move rfl)) hS1 fun ac46 hf52 => ?_
        refine any_val (i := 9) (v := .pointer (some ⟨b1, 3, none⟩)) hf52 rfl rfl rfl rfl rfl rfl (fun _ _ _ h => h) (by kernel_rfl) (by kernel_rfl) (by kernel_rfl) (fun wd2 hS1 => (r_fieldAddr fi_29_1 rfl rfl)) hS1 fun ac47 hf53 => ?_
        refine any_two (i := 1) (j := 3) (by kernel_rfl) ?_ ?_
        ·
          refine op_val (v := .int .i64 2) hf53 rfl rfl rfl rfl rfl rfl (r_load ag_3 rfl (hI12.at 0 rfl) rfl) fun ac48 hf54 => ⟨?_, ?_⟩
          · exact Has.nil
          have hS2 : ∀ {w : World}, Has [] w := Has.nil
          refine any_one (i := 3) (by kernel_rfl) ?_
          refine op_val (v := .int .i64 2) hf54 rfl rfl rfl rfl rfl rfl (r_load ag_3 rfl (hI12.at 0 rfl) rfl) fun ac49 hf55 => ⟨?_, ?_⟩
          · exact Has.nil
          have hS3 : ∀ {w : World}, Has [] w := Has.nil
          refine any_val (i := 5) (v := .pointer (some ⟨b1, 5, none⟩)) hf55 rfl rfl rfl rfl rfl rfl (fun _ _ _ h => h) (by kernel_rfl) (by kernel_rfl) (by kernel_rfl) (fun wd2 hS3 => (r_indexAddr (i := 2) ar_22 rfl rfl rfl (by decide) rfl)) hS3 fun ac50 hf56 => ?_
          refine any_one (i := 6) (by kernel_rfl) ?_
          refine op_val (v := .int .i64 c2) hf56 rfl rfl rfl rfl rfl rfl (r_load ag_3 rfl (hI12.at 0 rfl) rfl) fun ac51 hf57 => ⟨?_, ?_⟩
          · exact Has.nil
          have hS4 : ∀ {w : World}, Has [] w := Has.nil
          refine any_val (i := 8) (v := .int .i64 (c2 - m)) hf57 rfl rfl rfl rfl rfl rfl (fun _ _ _ h => h) (by kernel_rfl) (by kernel_rfl) (by kernel_rfl) (fun wd2 hS4 => (r_sub (c := (c2 - m)) rfl rfl (by have h1 := hs.l2; have h2 := hs.r2; have h3 := hv.r2; dsimp only at h1 h2; simp only [decide_eq_true_eq, decide_eq_false_iff_not] at g8_1 g12_2 c19_3; exact wrap_i64 (by omega) (by omega)))) hS4 fun ac52 hf58 => ?_
          refine any_val (i := 10) (v := .pointer (some ⟨b1, 5, none⟩)) hf58 rfl rfl rfl rfl rfl rfl (fun _ _ _ h => h) (by kernel_rfl) (by kernel_rfl) (by kernel_rfl) (fun wd2 hS4 => (r_indexAddr (i := 2) ar_22 rfl rfl rfl (by decide) rfl)) hS4 fun ac53 hf59 => ?_
          refine any_one (i := 11) (by kernel_rfl) ?_
          refine (op_store (cs' := #[.int .i64 w0, .int .i64 w1, .int .i64 w2, .int .i64 c0, .int .i64 c1, .int .i64 (c2 - m), .int .i64 2]) 0 hf59 rfl rfl rfl rfl rfl sz_3 hI12 rfl (ltb rfl) (by kernel_rfl) fun wd6 hI13 => ⟨?_, ?_⟩)
          · exact Has.nil
          have hI14 : Inv w [(b1, #[.int .i64 w0, .int .i64 w1, .int .i64 w2, .int .i64 c0, .int .i64 c1, .int .i64 (c2 - m), .int .i64 2], 29), (b2, #[.int .i64 0, .int .i64 0, .int .i64 0, .int .i64 0, .int .i64 0, .int .i64 0, .int .i64 0], 29)] wd6 := hI13
          have hS5 : ∀ {w : World}, Has [] w := Has.nil
          refine any_end (by kernel_rfl) ?_
          clear hf44 hI5 ac40 hf48 ac43 hf49 ac44 hf50 ac45 hf51 ac46 hf52 ac47 hf53 hS1 ac48 hf54 hS2 ac49 hf55 ac50 hf56 hS3 ac51 hf57 ac52 hf58 wd2 hI12 hI13 hS4 hS5
          refine then_normal ?_
          refine code_seq ?_
          refine seq_start (l := [0, 1, 2]) rfl ?_
          refine seq_one (op_val (v := .agg #[.int .i64 w0, .int .i64 w1, .int .i64 w2, .int .i64 c0, .int .i64 c1, .int .i64 (c2 - m), .int .i64 2]) hf59 rfl rfl rfl rfl rfl rfl (r_loadW ag_29 sz_29 rfl (hI14.at 0 rfl) rfl) fun ac54 hf60 => ?_)
          refine seq_one (op_storeW (cells := #[.int .i64 w0, .int .i64 w1, .int .i64 w2, .int .i64 c0, .int .i64 c1, .int .i64 (c2 - m), .int .i64 2]) 1 hf60 rfl rfl rfl rfl rfl sz_29 rfl rfl hI14 rfl rfl fun wd7 hI15 => ?_)
          have hI16 : Inv w [(b1, #[.int .i64 w0, .int .i64 w1, .int .i64 w2, .int .i64 c0, .int .i64 c1, .int .i64 (c2 - m), .int .i64 2], 29), (b2, #[.int .i64 w0, .int .i64 w1, .int .i64 w2, .int .i64 c0, .int .i64 c1, .int .i64 (c2 - m), .int .i64 2], 29)] wd7 := hI15
          refine seq_one (op_val (v := .int .i64 0) hf60 rfl rfl rfl rfl rfl rfl (r_assign rfl) fun ac55 hf61 => ?_)
          refine seq_end ?_
          clear ac53 hf59 wd6 hI14 hI15 ac54 hf60
          refine then_normal ?_
          refine wp_ret ?_
          refine postC1 rfl hf61 rfl ag_29 sz_29 (hI16.at 1 rfl) rfl rfl ⟨?_, hI16.done (fresh_keys (ks := [b1, b2]) rfl (fk_cons hb1 (fk_cons hb2 fk_nil)))⟩
          have hb : ¬ (m < 1 ∨ m > 65536 ∨ (⟨c0, c1, c2, 2⟩ : St).cr ≤ 0) := by
            simp only [St.cr, if_true, if_false, show ((1 : Int) = 0) = False by simp, show ((2 : Int) = 0) = False by simp, show ((2 : Int) = 1) = False by simp]
            simp only [decide_eq_true_eq, decide_eq_false_iff_not] at g8_1 g12_2 c19_3
            omega
          unfold spE spS
          rw [if_neg hb, if_neg hb]
          try rfl
        ·
          refine op_val (v := .int .i64 2) hf53 rfl rfl rfl rfl rfl rfl (r_load ag_3 rfl (hI12.at 0 rfl) rfl) fun ac56 hf62 => ⟨?_, ?_⟩
          · exact Has.nil
          have hS6 : ∀ {w : World}, Has [] w := Has.nil
          refine any_val (i := 5) (v := .pointer (some ⟨b1, 5, none⟩)) hf62 rfl rfl rfl rfl rfl rfl (fun _ _ _ h => h) (by kernel_rfl) (by kernel_rfl) (by kernel_rfl) (fun wd2 hS6 => (r_indexAddr (i := 2) ar_22 rfl rfl rfl (by decide) rfl)) hS6 fun ac57 hf63 => ?_
          refine any_two (i := 1) (j := 6) (by kernel_rfl) ?_ ?_
          ·
            refine op_val (v := .int .i64 2) hf63 rfl rfl rfl rfl rfl rfl (r_load ag_3 rfl (hI12.at 0 rfl) rfl) fun ac58 hf64 => ⟨?_, ?_⟩
            · exact Has.nil
            have hS7 : ∀ {w : World}, Has [] w := Has.nil
            refine any_one (i := 6) (by kernel_rfl) ?_
            refine op_val (v := .int .i64 c2) hf64 rfl rfl rfl rfl rfl rfl (r_load ag_3 rfl (hI12.at 0 rfl) rfl) fun ac59 hf65 => ⟨?_, ?_⟩
            · exact Has.nil
            have hS8 : ∀ {w : World}, Has [] w := Has.nil
            refine any_val (i := 8) (v := .int .i64 (c2 - m)) hf65 rfl rfl rfl rfl rfl rfl (fun _ _ _ h => h) (by kernel_rfl) (by kernel_rfl) (by kernel_rfl) (fun wd2 hS8 => (r_sub (c := (c2 - m)) rfl rfl (by have h1 := hs.l2; have h2 := hs.r2; have h3 := hv.r2; dsimp only at h1 h2; simp only [decide_eq_true_eq, decide_eq_false_iff_not] at g8_1 g12_2 c19_3; exact wrap_i64 (by omega) (by omega)))) hS8 fun ac60 hf66 => ?_
            refine any_val (i := 10) (v := .pointer (some ⟨b1, 5, none⟩)) hf66 rfl rfl rfl rfl rfl rfl (fun _ _ _ h => h) (by kernel_rfl) (by kernel_rfl) (by kernel_rfl) (fun wd2 hS8 => (r_indexAddr (i := 2) ar_22 rfl rfl rfl (by decide) rfl)) hS8 fun ac61 hf67 => ?_
            refine any_one (i := 11) (by kernel_rfl) ?_
            refine (op_store (cs' := #[.int .i64 w0, .int .i64 w1, .int .i64 w2, .int .i64 c0, .int .i64 c1, .int .i64 (c2 - m), .int .i64 2]) 0 hf67 rfl rfl rfl rfl rfl sz_3 hI12 rfl (ltb rfl) (by kernel_rfl) fun wd8 hI17 => ⟨?_, ?_⟩)
            · exact Has.nil
            have hI18 : Inv w [(b1, #[.int .i64 w0, .int .i64 w1, .int .i64 w2, .int .i64 c0, .int .i64 c1, .int .i64 (c2 - m), .int .i64 2], 29), (b2, #[.int .i64 0, .int .i64 0, .int .i64 0, .int .i64 0, .int .i64 0, .int .i64 0, .int .i64 0], 29)] wd8 := hI17
            have hS9 : ∀ {w : World}, Has [] w := Has.nil
            refine any_end (by kernel_rfl) ?_
            clear hf44 hI5 ac40 hf48 ac43 hf49 ac44 hf50 ac45 hf51 ac46 hf52 ac47 hf53 hS1 ac56 hf62 ac57 hf63 hS6 ac58 hf64 hS7 ac59 hf65 ac60 hf66 wd2 hI12 hI17 hS8 hS9
            refine then_normal ?_
            refine code_seq ?_
            refine seq_start (l := [0, 1, 2]) rfl ?_
            refine seq_one (op_val (v := .agg #[.int .i64 w0, .int .i64 w1, .int .i64 w2, .int .i64 c0, .int .i64 c1, .int .i64 (c2 - m), .int .i64 2]) hf67 rfl rfl rfl rfl rfl rfl (r_loadW ag_29 sz_29 rfl (hI18.at 0 rfl) rfl) fun ac62 hf68 => ?_)
            refine seq_one (op_storeW (cells := #[.int .i64 w0, .int .i64 w1, .int .i64 w2, .int .i64 c0, .int .i64 c1, .int .i64 (c2 - m), .int .i64 2]) 1 hf68 rfl rfl rfl rfl rfl sz_29 rfl rfl hI18 rfl rfl fun wd9 hI19 => ?_)
            have hI20 : Inv w [(b1, #[.int .i64 w0, .int .i64 w1, .int .i64 w2, .int .i64 c0, .int .i64 c1, .int .i64 (c2 - m), .int .i64 2], 29), (b2, #[.int .i64 w0, .int .i64 w1, .int .i64 w2, .int .i64 c0, .int .i64 c1, .int .i64 (c2 - m), .int .i64 2], 29)] wd9 := hI19
            refine seq_one (op_val (v := .int .i64 0) hf68 rfl rfl rfl rfl rfl rfl (r_assign rfl) fun ac63 hf69 => ?_)
            refine seq_end ?_
            clear ac61 hf67 wd8 hI18 hI19 ac62 hf68
            refine then_normal ?_
            refine wp_ret ?_
            refine postC1 rfl hf69 rfl ag_29 sz_29 (hI20.at 1 rfl) rfl rfl ⟨?_, hI20.done (fresh_keys (ks := [b1, b2]) rfl (fk_cons hb1 (fk_cons hb2 fk_nil)))⟩
            have hb : ¬ (m < 1 ∨ m > 65536 ∨ (⟨c0, c1, c2, 2⟩ : St).cr ≤ 0) := by
              simp only [St.cr, if_true, if_false, show ((1 : Int) = 0) = False by simp, show ((2 : Int) = 0) = False by simp, show ((2 : Int) = 1) = False by simp]
              simp only [decide_eq_true_eq, decide_eq_false_iff_not] at g8_1 g12_2 c19_3
              omega
            unfold spE spS
            rw [if_neg hb, if_neg hb]
            try rfl
          ·
            refine op_val (v := .int .i64 c2) hf63 rfl rfl rfl rfl rfl rfl (r_load ag_3 rfl (hI12.at 0 rfl) rfl) fun ac64 hf70 => ⟨?_, ?_⟩
            · exact Has.nil
            have hS10 : ∀ {w : World}, Has [] w := Has.nil
            refine any_val (i := 8) (v := .int .i64 (c2 - m)) hf70 rfl rfl rfl rfl rfl rfl (fun _ _ _ h => h) (by kernel_rfl) (by kernel_rfl) (by kernel_rfl) (fun wd2 hS10 => (r_sub (c := (c2 - m)) rfl rfl (by have h1 := hs.l2; have h2 := hs.r2; have h3 := hv.r2; dsimp only at h1 h2; simp only [decide_eq_true_eq, decide_eq_false_iff_not] at g8_1 g12_2 c19_3; exact wrap_i64 (by omega) (by omega)))) hS10 fun ac65 hf71 => ?_
            refine any_one (i := 1) (by kernel_rfl) ?_
            refine op_val (v := .int .i64 2) hf71 rfl rfl rfl rfl rfl rfl (r_load ag_3 rfl (hI12.at 0 rfl) rfl) fun ac66 hf72 => ⟨?_, ?_⟩
            · exact Has.nil
            have hS11 : ∀ {w : World}, Has [] w := Has.nil
            refine any_val (i := 10) (v := .pointer (some ⟨b1, 5, none⟩)) hf72 rfl rfl rfl rfl rfl rfl (fun _ _ _ h => h) (by kernel_rfl) (by kernel_rfl) (by kernel_rfl) (fun wd2 hS11 => (r_indexAddr (i := 2) ar_22 rfl rfl rfl (by decide) rfl)) hS11 fun ac67 hf73 => ?_
            refine any_one (i := 11) (by kernel_rfl) ?_
            refine (op_store (cs' := #[.int .i64 w0, .int .i64 w1, .int .i64 w2, .int .i64 c0, .int .i64 c1, .int .i64 (c2 - m), .int .i64 2]) 0 hf73 rfl rfl rfl rfl rfl sz_3 hI12 rfl (ltb rfl) (by kernel_rfl) fun wd10 hI21 => ⟨?_, ?_⟩)
            · exact Has.nil
            have hI22 : Inv w [(b1, #[.int .i64 w0, .int .i64 w1, .int .i64 w2, .int .i64 c0, .int .i64 c1, .int .i64 (c2 - m), .int .i64 2], 29), (b2, #[.int .i64 0, .int .i64 0, .int .i64 0, .int .i64 0, .int .i64 0, .int .i64 0, .int .i64 0], 29)] wd10 := hI21
            have hS12 : ∀ {w : World}, Has [] w := Has.nil
            refine any_end (by kernel_rfl) ?_
            clear hf44 hI5 ac40 hf48 ac43 hf49 ac44 hf50 ac45 hf51 ac46 hf52 ac47 hf53 hS1 ac56 hf62 ac57 hf63 hS6 ac64 hf70 ac65 hf71 hS10 ac66 hf72 wd2 hI12 hI21 hS11 hS12
            refine then_normal ?_
            refine code_seq ?_
            refine seq_start (l := [0, 1, 2]) rfl ?_
            refine seq_one (op_val (v := .agg #[.int .i64 w0, .int .i64 w1, .int .i64 w2, .int .i64 c0, .int .i64 c1, .int .i64 (c2 - m), .int .i64 2]) hf73 rfl rfl rfl rfl rfl rfl (r_loadW ag_29 sz_29 rfl (hI22.at 0 rfl) rfl) fun ac68 hf74 => ?_)
            refine seq_one (op_storeW (cells := #[.int .i64 w0, .int .i64 w1, .int .i64 w2, .int .i64 c0, .int .i64 c1, .int .i64 (c2 - m), .int .i64 2]) 1 hf74 rfl rfl rfl rfl rfl sz_29 rfl rfl hI22 rfl rfl fun wd11 hI23 => ?_)
            have hI24 : Inv w [(b1, #[.int .i64 w0, .int .i64 w1, .int .i64 w2, .int .i64 c0, .int .i64 c1, .int .i64 (c2 - m), .int .i64 2], 29), (b2, #[.int .i64 w0, .int .i64 w1, .int .i64 w2, .int .i64 c0, .int .i64 c1, .int .i64 (c2 - m), .int .i64 2], 29)] wd11 := hI23
            refine seq_one (op_val (v := .int .i64 0) hf74 rfl rfl rfl rfl rfl rfl (r_assign rfl) fun ac69 hf75 => ?_)
            refine seq_end ?_
            clear ac67 hf73 wd10 hI22 hI23 ac68 hf74
            refine then_normal ?_
            refine wp_ret ?_
            refine postC1 rfl hf75 rfl ag_29 sz_29 (hI24.at 1 rfl) rfl rfl ⟨?_, hI24.done (fresh_keys (ks := [b1, b2]) rfl (fk_cons hb1 (fk_cons hb2 fk_nil)))⟩
            have hb : ¬ (m < 1 ∨ m > 65536 ∨ (⟨c0, c1, c2, 2⟩ : St).cr ≤ 0) := by
              simp only [St.cr, if_true, if_false, show ((1 : Int) = 0) = False by simp, show ((2 : Int) = 0) = False by simp, show ((2 : Int) = 1) = False by simp]
              simp only [decide_eq_true_eq, decide_eq_false_iff_not] at g8_1 g12_2 c19_3
              omega
            unfold spE spS
            rw [if_neg hb, if_neg hb]
            try rfl
theorem spendR_pur (w0 w1 w2 c0 c1 c2 n m : Int) (hv : WOK w0 w1 w2) (hs : Ok w0 w1 w2 ⟨c0, c1, c2, n⟩) : Pur Try.prog 15 [.agg #[.int .i64 w0, .int .i64 w1, .int .i64 w2, .int .i64 c0, .int .i64 c1, .int .i64 c2, .int .i64 n], .int .i64 m] (.tuple #[.agg #[.int .i64 w0, .int .i64 w1, .int .i64 w2, .int .i64 ((spS m ⟨c0, c1, c2, n⟩).c0), .int .i64 ((spS m ⟨c0, c1, c2, n⟩).c1), .int .i64 ((spS m ⟨c0, c1, c2, n⟩).c2), .int .i64 ((spS m ⟨c0, c1, c2, n⟩).now)], .int .i64 (spE m ⟨c0, c1, c2, n⟩)]) := by
  rcases hs.n with h | h | h
  all_goals (dsimp only at h; subst h)
  · exact spendR_pur0 w0 w1 w2 c0 c1 c2 m hv hs
  · exact spendR_pur1 w0 w1 w2 c0 c1 c2 m hv hs
  · exact spendR_pur2 w0 w1 w2 c0 c1 c2 m hv hs
end Go.Proofs.Ytkfilmdnpocinaa
