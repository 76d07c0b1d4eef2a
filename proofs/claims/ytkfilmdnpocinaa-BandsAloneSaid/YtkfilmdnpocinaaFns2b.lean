/-
  The reference's Pick: what each call comes to.
-/
import Derived.Test.YtkfilmdnpocinaaFns2a
namespace Go.Proofs.Ytkfilmdnpocinaa
set_option linter.unusedVariables false
set_option linter.unusedSimpArgs false
set_option maxRecDepth 100000
open Go.RowKit
set_option maxHeartbeats 8000000 in
theorem next_pur0 (w0 w1 w2 d0 d1 d2 : Int) (hv : WOK w0 w1 w2) (hs : Ok w0 w1 w2 ⟨d0, d1, d2, 0⟩) : Pur Try.prog 21 [.agg #[.int .i64 w0, .int .i64 w1, .int .i64 w2, .int .i64 d0, .int .i64 d1, .int .i64 d2, .int .i64 0]] (.agg #[.int .i64 w0, .int .i64 w1, .int .i64 w2, .int .i64 d0, .int .i64 (mn2 d1 w1), .int .i64 d2, .int .i64 1]) := by
  intro w
  have hI1 := Inv.start w
  refine enter (n := 41) Try.func21 rfl rfl rfl ?_
  intro ac1 hf1
  refine code_seq ?_
  refine seq_start (l := [0, 1]) rfl ?_
  refine seq_one (op_box hf1 rfl rfl rfl rfl hI1 fun ac2 b1 wd1 hb1 hI2 hf2 => ?_)
  have hI3 : Inv w [(b1, #[.int .i64 w0, .int .i64 w1, .int .i64 w2, .int .i64 d0, .int .i64 d1, .int .i64 d2, .int .i64 0], 29)] wd1 := hI2
  refine seq_one (op_alloc hf2 rfl rfl rfl ze_29 hI3 fun ac3 b2 wd2 hb2 hI4 hf3 => ?_)
  have hI5 : Inv w [(b1, #[.int .i64 w0, .int .i64 w1, .int .i64 w2, .int .i64 d0, .int .i64 d1, .int .i64 d2, .int .i64 0], 29), (b2, #[.int .i64 0, .int .i64 0, .int .i64 0, .int .i64 0, .int .i64 0, .int .i64 0, .int .i64 0], 29)] wd2 := hI4
  refine seq_end ?_
  clear ac1 hI1 hf1 hI2 ac2 wd1 hI3 hf2 hI4
  refine then_normal ?_
  refine code_seq ?_
  refine seq_start (l := [0, 1, 2, 3, 4]) rfl ?_
  refine seq_one (op_val (v := .pointer (some ⟨b1, 6, none⟩)) hf3 rfl rfl rfl rfl rfl rfl (r_fieldAddr fi_29_2 rfl rfl) fun ac4 hf4 => ?_)
  refine seq_one (op_val (v := .int .i64 0) hf4 rfl rfl rfl rfl rfl rfl (r_load ag_3 rfl (hI5.at 0 rfl) rfl) fun ac5 hf5 => ?_)
  refine seq_one (op_val (v := .int .i64 1) hf5 rfl rfl rfl rfl rfl rfl (r_add (c := 1) rfl rfl (by rfl)) fun ac6 hf6 => ?_)
  refine seq_one (op_val (v := .pointer (some ⟨b1, 6, none⟩)) hf6 rfl rfl rfl rfl rfl rfl (r_fieldAddr fi_29_2 rfl rfl) fun ac7 hf7 => ?_)
  refine seq_one (op_store (cs' := #[.int .i64 w0, .int .i64 w1, .int .i64 w2, .int .i64 d0, .int .i64 d1, .int .i64 d2, .int .i64 1]) 0 hf7 rfl rfl rfl rfl rfl sz_3 hI5 rfl (ltb rfl) (by kernel_rfl) fun wd3 hI6 => ?_)
  have hI7 : Inv w [(b1, #[.int .i64 w0, .int .i64 w1, .int .i64 w2, .int .i64 d0, .int .i64 d1, .int .i64 d2, .int .i64 1], 29), (b2, #[.int .i64 0, .int .i64 0, .int .i64 0, .int .i64 0, .int .i64 0, .int .i64 0, .int .i64 0], 29)] wd3 := hI6
  refine seq_end ?_
  clear ac3 hf3 ac4 hf4 ac5 hf5 ac6 hf6 wd2 hI5 hI6
  refine then_normal ?_
  refine code_seq ?_
  refine code_seq ?_
  refine seq_start (l := [0, 1, 2]) rfl ?_
  refine seq_one (op_val (v := .pointer (some ⟨b1, 6, none⟩)) hf7 rfl rfl rfl rfl rfl rfl (r_fieldAddr fi_29_2 rfl rfl) fun ac8 hf8 => ?_)
  refine seq_one (op_val (v := .int .i64 1) hf8 rfl rfl rfl rfl rfl rfl (r_load ag_3 rfl (hI7.at 0 rfl) rfl) fun ac9 hf9 => ?_)
  refine seq_one (op_val (v := .bool false) hf9 rfl rfl rfl rfl rfl rfl (r_eqlC rfl rfl (by decide)) fun ac10 hf10 => ?_)
  refine seq_end ?_
  clear ac7 hf7 ac8 hf8 ac9 hf9
  refine then_normal ?_
  refine code_if_false hf10 rfl ?_
  refine wp_skip ?_
  refine then_normal ?_
  refine code_seq ?_
  refine any_start (fun w => Has [(b1, #[.int .i64 w0, .int .i64 w1, .int .i64 w2, .int .i64 d0, .int .i64 d1, .int .i64 d2, .int .i64 1], 29)] w) follows (Has.drew (Has.cons (hI7.at 0 rfl) Has.nil)) ?_
  have hS1 : Has [(b1, #[.int .i64 w0, .int .i64 w1, .int .i64 w2, .int .i64 d0, .int .i64 d1, .int .i64 d2, .int .i64 1], 29)] _ := Has.drew (Has.cons (hI7.at 0 rfl) Has.nil)
  have hI8 := hI7.drew
  refine any_val (i := 0) (v := .pointer (some ⟨b1, 6, none⟩)) hf10 rfl rfl rfl rfl rfl rfl (fun _ _ _ h => h) (by kernel_rfl) (by kernel_rfl) (by kernel_rfl) (fun wd3 hS1 => (r_fieldAddr fi_29_2 rfl rfl)) hS1 fun ac11 hf11 => ?_
  refine any_val (i := 1) (v := .int .i64 1) hf11 rfl rfl rfl rfl rfl rfl (fun _ _ _ h => h) (by kernel_rfl) (by kernel_rfl) (by kernel_rfl) (fun wd3 hS1 => (r_load ag_3 rfl (hS1.at 0 rfl) rfl)) hS1 fun ac12 hf12 => ?_
  refine any_val (i := 2) (v := .pointer (some ⟨b1, 3, none⟩)) hf12 rfl rfl rfl rfl rfl rfl (fun _ _ _ h => h) (by kernel_rfl) (by kernel_rfl) (by kernel_rfl) (fun wd3 hS1 => (r_fieldAddr fi_29_1 rfl rfl)) hS1 fun ac13 hf13 => ?_
  refine any_val (i := 3) (v := .pointer (some ⟨b1, 4, none⟩)) hf13 rfl rfl rfl rfl rfl rfl (fun _ _ _ h => h) (by kernel_rfl) (by kernel_rfl) (by kernel_rfl) (fun wd3 hS1 => (r_indexAddr (i := 1) ar_22 rfl rfl rfl (by decide) rfl)) hS1 fun ac14 hf14 => ?_
  refine any_val (i := 4) (v := .int .i64 d1) hf14 rfl rfl rfl rfl rfl rfl (fun _ _ _ h => h) (by kernel_rfl) (by kernel_rfl) (by kernel_rfl) (fun wd3 hS1 => (r_load ag_3 rfl (hS1.at 0 rfl) rfl)) hS1 fun ac15 hf15 => ?_
  refine any_val (i := 5) (v := .pointer (some ⟨b1, 6, none⟩)) hf15 rfl rfl rfl rfl rfl rfl (fun _ _ _ h => h) (by kernel_rfl) (by kernel_rfl) (by kernel_rfl) (fun wd3 hS1 => (r_fieldAddr fi_29_2 rfl rfl)) hS1 fun ac16 hf16 => ?_
  refine any_val (i := 6) (v := .int .i64 1) hf16 rfl rfl rfl rfl rfl rfl (fun _ _ _ h => h) (by kernel_rfl) (by kernel_rfl) (by kernel_rfl) (fun wd3 hS1 => (r_load ag_3 rfl (hS1.at 0 rfl) rfl)) hS1 fun ac17 hf17 => ?_
  refine any_val (i := 7) (v := .pointer (some ⟨b1, 0, none⟩)) hf17 rfl rfl rfl rfl rfl rfl (fun _ _ _ h => h) (by kernel_rfl) (by kernel_rfl) (by kernel_rfl) (fun wd3 hS1 => (r_fieldAddr fi_29_0 rfl rfl)) hS1 fun ac18 hf18 => ?_
  refine any_val (i := 8) (v := .pointer (some ⟨b1, 1, none⟩)) hf18 rfl rfl rfl rfl rfl rfl (fun _ _ _ h => h) (by kernel_rfl) (by kernel_rfl) (by kernel_rfl) (fun wd3 hS1 => (r_indexAddr (i := 1) ar_22 rfl rfl rfl (by decide) rfl)) hS1 fun ac19 hf19 => ?_
  refine any_val (i := 9) (v := .int .i64 w1) hf19 rfl rfl rfl rfl rfl rfl (fun _ _ _ h => h) (by kernel_rfl) (by kernel_rfl) (by kernel_rfl) (fun wd3 hS1 => (r_load ag_3 rfl (hS1.at 0 rfl) rfl)) hS1 fun ac20 hf20 => ?_
  refine any_val (i := 10) (v := .int .i64 (d1 + w1)) hf20 rfl rfl rfl rfl rfl rfl (fun _ _ _ h => h) (by kernel_rfl) (by kernel_rfl) (by kernel_rfl) (fun wd3 hS1 => (r_add (c := (d1 + w1)) rfl rfl (by have h1 := hs.l1; have h2 := hs.r1; have h3 := hv.r1; have h4 := hv.l1; dsimp only at h1 h2; exact wrap_i64 (by omega) (by omega)))) hS1 fun ac21 hf21 => ?_
  refine any_val (i := 11) (v := .int .i64 (d1 + w1)) hf21 rfl rfl rfl rfl rfl rfl (fun _ _ _ h => h) (by kernel_rfl) (by kernel_rfl) (by kernel_rfl) (fun wd3 hS1 => (r_assign rfl)) hS1 fun ac22 hf22 => ?_
  refine any_end (by kernel_rfl) ?_
  clear hI7 ac10 hf10 ac11 hf11 ac12 hf12 ac13 hf13 ac14 hf14 ac15 hf15 ac16 hf16 ac17 hf17 ac18 hf18 ac19 hf19 ac20 hf20 ac21 hf21 hS1
  refine then_normal ?_
  refine code_seq ?_
  refine code_seq ?_
  refine seq_start (l := [0, 1, 2, 3, 4, 5, 6]) rfl ?_
  refine seq_one (op_val (v := .int .i64 (d1 + w1)) hf22 rfl rfl rfl rfl rfl rfl (r_move rfl) fun ac23 hf23 => ?_)
  refine seq_one (op_val (v := .pointer (some ⟨b1, 6, none⟩)) hf23 rfl rfl rfl rfl rfl rfl (r_fieldAddr fi_29_2 rfl rfl) fun ac24 hf24 => ?_)
  refine seq_one (op_val (v := .int .i64 1) hf24 rfl rfl rfl rfl rfl rfl (r_load ag_3 rfl (hI8.at 0 rfl) rfl) fun ac25 hf25 => ?_)
  refine seq_one (op_val (v := .pointer (some ⟨b1, 0, none⟩)) hf25 rfl rfl rfl rfl rfl rfl (r_fieldAddr fi_29_0 rfl rfl) fun ac26 hf26 => ?_)
  refine seq_one (op_val (v := .pointer (some ⟨b1, 1, none⟩)) hf26 rfl rfl rfl rfl rfl rfl (r_indexAddr (i := 1) ar_22 rfl rfl rfl (by decide) rfl) fun ac27 hf27 => ?_)
  refine seq_one (op_val (v := .int .i64 w1) hf27 rfl rfl rfl rfl rfl rfl (r_load ag_3 rfl (hI8.at 0 rfl) rfl) fun ac28 hf28 => ?_)
  refine seq_one (op_val (v := .bool (decide ((d1 + w1) > w1))) hf28 rfl rfl rfl rfl rfl rfl (r_gtr rfl rfl) fun ac29 hf29 => ?_)
  refine seq_end ?_
  clear ac22 hf22 ac23 hf23 ac24 hf24 ac25 hf25 ac26 hf26 ac27 hf27 ac28 hf28
  refine then_normal ?_
  refine code_if hf29 rfl (fun c29_1 => ?_) (fun c29_1 => ?_)
  · have hf30 := hf29.know 29 (u := .bool true) rfl (congrArg Value.bool c29_1)
    refine seq_start (l := [0, 1, 2, 3, 4, 5]) rfl ?_
    refine seq_one (op_val (v := .pointer (some ⟨b1, 6, none⟩)) hf30 rfl rfl rfl rfl rfl rfl (r_fieldAddr fi_29_2 rfl rfl) fun ac30 hf31 => ?_)
    refine seq_one (op_val (v := .int .i64 1) hf31 rfl rfl rfl rfl rfl rfl (r_load ag_3 rfl (hI8.at 0 rfl) rfl) fun ac31 hf32 => ?_)
    refine seq_one (op_val (v := .pointer (some ⟨b1, 0, none⟩)) hf32 rfl rfl rfl rfl rfl rfl (r_fieldAddr fi_29_0 rfl rfl) fun ac32 hf33 => ?_)
    refine seq_one (op_val (v := .pointer (some ⟨b1, 1, none⟩)) hf33 rfl rfl rfl rfl rfl rfl (r_indexAddr (i := 1) ar_22 rfl rfl rfl (by decide) rfl) fun ac33 hf34 => ?_)
    refine seq_one (op_val (v := .int .i64 w1) hf34 rfl rfl rfl rfl rfl rfl (r_load ag_3 rfl (hI8.at 0 rfl) rfl) fun ac34 hf35 => ?_)
    refine seq_one (op_val (v := .int .i64 w1) hf35 rfl rfl rfl rfl rfl rfl (r_assign rfl) fun ac35 hf36 => ?_)
    refine seq_end ?_
    clear hf29 ac29 hf30 ac30 hf31 ac31 hf32 ac32 hf33 ac33 hf34 ac34 hf35
    refine then_normal ?_
    refine code_seq ?_
    refine seq_start (l := [0, 1, 2, 3, 4, 5]) rfl ?_
    refine seq_one (op_val (v := .pointer (some ⟨b1, 6, none⟩)) hf36 rfl rfl rfl rfl rfl rfl (r_fieldAddr fi_29_2 rfl rfl) fun ac36 hf37 => ?_)
    refine seq_one (op_val (v := .int .i64 1) hf37 rfl rfl rfl rfl rfl rfl (r_load ag_3 rfl (hI8.at 0 rfl) rfl) fun ac37 hf38 => ?_)
    refine seq_one (op_val (v := .int .i64 w1) hf38 rfl rfl rfl rfl rfl rfl (r_move rfl) fun ac38 hf39 => ?_)
    refine seq_one (op_val (v := .pointer (some ⟨b1, 3, none⟩)) hf39 rfl rfl rfl rfl rfl rfl (r_fieldAddr fi_29_1 rfl rfl) fun ac39 hf40 => ?_)
    refine seq_one (op_val (v := .pointer (some ⟨b1, 4, none⟩)) hf40 rfl rfl rfl rfl rfl rfl (r_indexAddr (i := 1) ar_22 rfl rfl rfl (by decide) rfl) fun ac40 hf41 => ?_)
    refine seq_one (op_store (cs' := #[.int .i64 w0, .int .i64 w1, .int .i64 w2, .int .i64 d0, .int .i64 w1, .int .i64 d2, .int .i64 1]) 0 hf41 rfl rfl rfl rfl rfl sz_3 hI8 rfl (ltb rfl) (by kernel_rfl) fun wd4 hI9 => ?_)
    have hI10 : Inv w [(b1, #[.int .i64 w0, .int .i64 w1, .int .i64 w2, .int .i64 d0, .int .i64 w1, .int .i64 d2, .int .i64 1], 29), (b2, #[.int .i64 0, .int .i64 0, .int .i64 0, .int .i64 0, .int .i64 0, .int .i64 0, .int .i64 0], 29)] wd4 := hI9
    refine seq_end ?_
    clear ac35 hf36 ac36 hf37 ac37 hf38 ac38 hf39 ac39 hf40 wd3 hI8 hI9
    refine then_normal ?_
    refine code_seq ?_
    refine seq_start (l := [0, 1]) rfl ?_
    refine seq_one (op_val (v := .agg #[.int .i64 w0, .int .i64 w1, .int .i64 w2, .int .i64 d0, .int .i64 w1, .int .i64 d2, .int .i64 1]) hf41 rfl rfl rfl rfl rfl rfl (r_loadW ag_29 sz_29 rfl (hI10.at 0 rfl) rfl) fun ac41 hf42 => ?_)
    refine seq_one (op_storeW (cells := #[.int .i64 w0, .int .i64 w1, .int .i64 w2, .int .i64 d0, .int .i64 w1, .int .i64 d2, .int .i64 1]) 1 hf42 rfl rfl rfl rfl rfl sz_29 rfl rfl hI10 rfl rfl fun wd5 hI11 => ?_)
    have hI12 : Inv w [(b1, #[.int .i64 w0, .int .i64 w1, .int .i64 w2, .int .i64 d0, .int .i64 w1, .int .i64 d2, .int .i64 1], 29), (b2, #[.int .i64 w0, .int .i64 w1, .int .i64 w2, .int .i64 d0, .int .i64 w1, .int .i64 d2, .int .i64 1], 29)] wd5 := hI11
    refine seq_end ?_
    clear ac40 hf41 wd4 hI10 hI11
    refine then_normal ?_
    refine wp_ret ?_
    refine postC rfl hf42 rfl ag_29 sz_29 (hI12.at 1 rfl) rfl ⟨?_, hI12.done (fresh_keys (ks := [b1, b2]) rfl (fk_cons hb1 (fk_cons hb2 fk_nil)))⟩
    rw [mn2_gt c29_1]
  · have hf43 := hf29.know 29 (u := .bool false) rfl (congrArg Value.bool c29_1)
    refine wp_skip ?_
    refine then_normal ?_
    refine code_seq ?_
    refine seq_start (l := [0, 1, 2, 3, 4, 5]) rfl ?_
    refine seq_one (op_val (v := .pointer (some ⟨b1, 6, none⟩)) hf43 rfl rfl rfl rfl rfl rfl (r_fieldAddr fi_29_2 rfl rfl) fun ac42 hf44 => ?_)
    refine seq_one (op_val (v := .int .i64 1) hf44 rfl rfl rfl rfl rfl rfl (r_load ag_3 rfl (hI8.at 0 rfl) rfl) fun ac43 hf45 => ?_)
    refine seq_one (op_val (v := .int .i64 (d1 + w1)) hf45 rfl rfl rfl rfl rfl rfl (r_move rfl) fun ac44 hf46 => ?_)
    refine seq_one (op_val (v := .pointer (some ⟨b1, 3, none⟩)) hf46 rfl rfl rfl rfl rfl rfl (r_fieldAddr fi_29_1 rfl rfl) fun ac45 hf47 => ?_)
    refine seq_one (op_val (v := .pointer (some ⟨b1, 4, none⟩)) hf47 rfl rfl rfl rfl rfl rfl (r_indexAddr (i := 1) ar_22 rfl rfl rfl (by decide) rfl) fun ac46 hf48 => ?_)
    refine seq_one (op_store (cs' := #[.int .i64 w0, .int .i64 w1, .int .i64 w2, .int .i64 d0, .int .i64 (d1 + w1), .int .i64 d2, .int .i64 1]) 0 hf48 rfl rfl rfl rfl rfl sz_3 hI8 rfl (ltb rfl) (by kernel_rfl) fun wd6 hI13 => ?_)
    have hI14 : Inv w [(b1, #[.int .i64 w0, .int .i64 w1, .int .i64 w2, .int .i64 d0, .int .i64 (d1 + w1), .int .i64 d2, .int .i64 1], 29), (b2, #[.int .i64 0, .int .i64 0, .int .i64 0, .int .i64 0, .int .i64 0, .int .i64 0, .int .i64 0], 29)] wd6 := hI13
    refine seq_end ?_
    clear hf29 ac29 hf43 ac42 hf44 ac43 hf45 ac44 hf46 ac45 hf47 wd3 hI8 hI13
    refine then_normal ?_
    refine code_seq ?_
    refine seq_start (l := [0, 1]) rfl ?_
    refine seq_one (op_val (v := .agg #[.int .i64 w0, .int .i64 w1, .int .i64 w2, .int .i64 d0, .int .i64 (d1 + w1), .int .i64 d2, .int .i64 1]) hf48 rfl rfl rfl rfl rfl rfl (r_loadW ag_29 sz_29 rfl (hI14.at 0 rfl) rfl) fun ac47 hf49 => ?_)
    refine seq_one (op_storeW (cells := #[.int .i64 w0, .int .i64 w1, .int .i64 w2, .int .i64 d0, .int .i64 (d1 + w1), .int .i64 d2, .int .i64 1]) 1 hf49 rfl rfl rfl rfl rfl sz_29 rfl rfl hI14 rfl rfl fun wd7 hI15 => ?_)
    have hI16 : Inv w [(b1, #[.int .i64 w0, .int .i64 w1, .int .i64 w2, .int .i64 d0, .int .i64 (d1 + w1), .int .i64 d2, .int .i64 1], 29), (b2, #[.int .i64 w0, .int .i64 w1, .int .i64 w2, .int .i64 d0, .int .i64 (d1 + w1), .int .i64 d2, .int .i64 1], 29)] wd7 := hI15
    refine seq_end ?_
    clear ac46 hf48 wd6 hI14 hI15
    refine then_normal ?_
    refine wp_ret ?_
    refine postC rfl hf49 rfl ag_29 sz_29 (hI16.at 1 rfl) rfl ⟨?_, hI16.done (fresh_keys (ks := [b1, b2]) rfl (fk_cons hb1 (fk_cons hb2 fk_nil)))⟩
    rw [mn2_le' c29_1]
set_option maxHeartbeats 8000000 in
theorem next_pur1 (w0 w1 w2 d0 d1 d2 : Int) (hv : WOK w0 w1 w2) (hs : Ok w0 w1 w2 ⟨d0, d1, d2, 1⟩) : Pur Try.prog 21 [.agg #[.int .i64 w0, .int .i64 w1, .int .i64 w2, .int .i64 d0, .int .i64 d1, .int .i64 d2, .int .i64 1]] (.agg #[.int .i64 w0, .int .i64 w1, .int .i64 w2, .int .i64 d0, .int .i64 d1, .int .i64 (mn2 d2 w2), .int .i64 2]) := by
  intro w
  have hI1 := Inv.start w
  refine enter (n := 41) Try.func21 rfl rfl rfl ?_
  intro ac1 hf1
  refine code_seq ?_
  refine seq_start (l := [0, 1]) rfl ?_
  refine seq_one (op_box hf1 rfl rfl rfl rfl hI1 fun ac2 b1 wd1 hb1 hI2 hf2 => ?_)
  have hI3 : Inv w [(b1, #[.int .i64 w0, .int .i64 w1, .int .i64 w2, .int .i64 d0, .int .i64 d1, .int .i64 d2, .int .i64 1], 29)] wd1 := hI2
  refine seq_one (op_alloc hf2 rfl rfl rfl ze_29 hI3 fun ac3 b2 wd2 hb2 hI4 hf3 => ?_)
  have hI5 : Inv w [(b1, #[.int .i64 w0, .int .i64 w1, .int .i64 w2, .int .i64 d0, .int .i64 d1, .int .i64 d2, .int .i64 1], 29), (b2, #[.int .i64 0, .int .i64 0, .int .i64 0, .int .i64 0, .int .i64 0, .int .i64 0, .int .i64 0], 29)] wd2 := hI4
  refine seq_end ?_
  clear ac1 hI1 hf1 hI2 ac2 wd1 hI3 hf2 hI4
  refine then_normal ?_
  refine code_seq ?_
  refine seq_start (l := [0, 1, 2, 3, 4]) rfl ?_
  refine seq_one (op_val (v := .pointer (some ⟨b1, 6, none⟩)) hf3 rfl rfl rfl rfl rfl rfl (r_fieldAddr fi_29_2 rfl rfl) fun ac4 hf4 => ?_)
  refine seq_one (op_val (v := .int .i64 1) hf4 rfl rfl rfl rfl rfl rfl (r_load ag_3 rfl (hI5.at 0 rfl) rfl) fun ac5 hf5 => ?_)
  refine seq_one (op_val (v := .int .i64 2) hf5 rfl rfl rfl rfl rfl rfl (r_add (c := 2) rfl rfl (by rfl)) fun ac6 hf6 => ?_)
  refine seq_one (op_val (v := .pointer (some ⟨b1, 6, none⟩)) hf6 rfl rfl rfl rfl rfl rfl (r_fieldAddr fi_29_2 rfl rfl) fun ac7 hf7 => ?_)
  refine seq_one (op_store (cs' := #[.int .i64 w0, .int .i64 w1, .int .i64 w2, .int .i64 d0, .int .i64 d1, .int .i64 d2, .int .i64 2]) 0 hf7 rfl rfl rfl rfl rfl sz_3 hI5 rfl (ltb rfl) (by kernel_rfl) fun wd3 hI6 => ?_)
  have hI7 : Inv w [(b1, #[.int .i64 w0, .int .i64 w1, .int .i64 w2, .int .i64 d0, .int .i64 d1, .int .i64 d2, .int .i64 2], 29), (b2, #[.int .i64 0, .int .i64 0, .int .i64 0, .int .i64 0, .int .i64 0, .int .i64 0, .int .i64 0], 29)] wd3 := hI6
  refine seq_end ?_
  clear ac3 hf3 ac4 hf4 ac5 hf5 ac6 hf6 wd2 hI5 hI6
  refine then_normal ?_
  refine code_seq ?_
  refine code_seq ?_
  refine seq_start (l := [0, 1, 2]) rfl ?_
  refine seq_one (op_val (v := .pointer (some ⟨b1, 6, none⟩)) hf7 rfl rfl rfl rfl rfl rfl (r_fieldAddr fi_29_2 rfl rfl) fun ac8 hf8 => ?_)
  refine seq_one (op_val (v := .int .i64 2) hf8 rfl rfl rfl rfl rfl rfl (r_load ag_3 rfl (hI7.at 0 rfl) rfl) fun ac9 hf9 => ?_)
  refine seq_one (op_val (v := .bool false) hf9 rfl rfl rfl rfl rfl rfl (r_eqlC rfl rfl (by decide)) fun ac10 hf10 => ?_)
  refine seq_end ?_
  clear ac7 hf7 ac8 hf8 ac9 hf9
  refine then_normal ?_
  refine code_if_false hf10 rfl ?_
  refine wp_skip ?_
  refine then_normal ?_
  refine code_seq ?_
  refine any_start (fun w => Has [(b1, #[.int .i64 w0, .int .i64 w1, .int .i64 w2, .int .i64 d0, .int .i64 d1, .int .i64 d2, .int .i64 2], 29)] w) follows (Has.drew (Has.cons (hI7.at 0 rfl) Has.nil)) ?_
  have hS1 : Has [(b1, #[.int .i64 w0, .int .i64 w1, .int .i64 w2, .int .i64 d0, .int .i64 d1, .int .i64 d2, .int .i64 2], 29)] _ := Has.drew (Has.cons (hI7.at 0 rfl) Has.nil)
  have hI8 := hI7.drew
  refine any_val (i := 0) (v := .pointer (some ⟨b1, 6, none⟩)) hf10 rfl rfl rfl rfl rfl rfl (fun _ _ _ h => h) (by kernel_rfl) (by kernel_rfl) (by kernel_rfl) (fun wd3 hS1 => (r_fieldAddr fi_29_2 rfl rfl)) hS1 fun ac11 hf11 => ?_
  refine any_val (i := 1) (v := .int .i64 2) hf11 rfl rfl rfl rfl rfl rfl (fun _ _ _ h => h) (by kernel_rfl) (by kernel_rfl) (by kernel_rfl) (fun wd3 hS1 => (r_load ag_3 rfl (hS1.at 0 rfl) rfl)) hS1 fun ac12 hf12 => ?_
  refine any_val (i := 2) (v := .pointer (some ⟨b1, 3, none⟩)) hf12 rfl rfl rfl rfl rfl rfl (fun _ _ _ h => h) (by kernel_rfl) (by kernel_rfl) (by kernel_rfl) (fun wd3 hS1 => (r_fieldAddr fi_29_1 rfl rfl)) hS1 fun ac13 hf13 => ?_
  refine any_val (i := 3) (v := .pointer (some ⟨b1, 5, none⟩)) hf13 rfl rfl rfl rfl rfl rfl (fun _ _ _ h => h) (by kernel_rfl) (by kernel_rfl) (by kernel_rfl) (fun wd3 hS1 => (r_indexAddr (i := 2) ar_22 rfl rfl rfl (by decide) rfl)) hS1 fun ac14 hf14 => ?_
  refine any_val (i := 4) (v := .int .i64 d2) hf14 rfl rfl rfl rfl rfl rfl (fun _ _ _ h => h) (by kernel_rfl) (by kernel_rfl) (by kernel_rfl) (fun wd3 hS1 => (r_load ag_3 rfl (hS1.at 0 rfl) rfl)) hS1 fun ac15 hf15 => ?_
  refine any_val (i := 5) (v := .pointer (some ⟨b1, 6, none⟩)) hf15 rfl rfl rfl rfl rfl rfl (fun _ _ _ h => h) (by kernel_rfl) (by kernel_rfl) (by kernel_rfl) (fun wd3 hS1 => (r_fieldAddr fi_29_2 rfl rfl)) hS1 fun ac16 hf16 => ?_
  refine any_val (i := 6) (v := .int .i64 2) hf16 rfl rfl rfl rfl rfl rfl (fun _ _ _ h => h) (by kernel_rfl) (by kernel_rfl) (by kernel_rfl) (fun wd3 hS1 => (r_load ag_3 rfl (hS1.at 0 rfl) rfl)) hS1 fun ac17 hf17 => ?_
  refine any_val (i := 7) (v := .pointer (some ⟨b1, 0, none⟩)) hf17 rfl rfl rfl rfl rfl rfl (fun _ _ _ h => h) (by kernel_rfl) (by kernel_rfl) (by kernel_rfl) (fun wd3 hS1 => (r_fieldAddr fi_29_0 rfl rfl)) hS1 fun ac18 hf18 => ?_
  refine any_val (i := 8) (v := .pointer (some ⟨b1, 2, none⟩)) hf18 rfl rfl rfl rfl rfl rfl (fun _ _ _ h => h) (by kernel_rfl) (by kernel_rfl) (by kernel_rfl) (fun wd3 hS1 => (r_indexAddr (i := 2) ar_22 rfl rfl rfl (by decide) rfl)) hS1 fun ac19 hf19 => ?_
  refine any_val (i := 9) (v := .int .i64 w2) hf19 rfl rfl rfl rfl rfl rfl (fun _ _ _ h => h) (by kernel_rfl) (by kernel_rfl) (by kernel_rfl) (fun wd3 hS1 => (r_load ag_3 rfl (hS1.at 0 rfl) rfl)) hS1 fun ac20 hf20 => ?_
  refine any_val (i := 10) (v := .int .i64 (d2 + w2)) hf20 rfl rfl rfl rfl rfl rfl (fun _ _ _ h => h) (by kernel_rfl) (by kernel_rfl) (by kernel_rfl) (fun wd3 hS1 => (r_add (c := (d2 + w2)) rfl rfl (by have h1 := hs.l2; have h2 := hs.r2; have h3 := hv.r2; have h4 := hv.l2; dsimp only at h1 h2; exact wrap_i64 (by omega) (by omega)))) hS1 fun ac21 hf21 => ?_
  refine any_val (i := 11) (v := .int .i64 (d2 + w2)) hf21 rfl rfl rfl rfl rfl rfl (fun _ _ _ h => h) (by kernel_rfl) (by kernel_rfl) (by kernel_rfl) (fun wd3 hS1 => (r_assign rfl)) hS1 fun ac22 hf22 => ?_
  refine any_end (by kernel_rfl) ?_
  clear hI7 ac10 hf10 ac11 hf11 ac12 hf12 ac13 hf13 ac14 hf14 ac15 hf15 ac16 hf16 ac17 hf17 ac18 hf18 ac19 hf19 ac20 hf20 ac21 hf21 hS1
  refine then_normal ?_
  refine code_seq ?_
  refine code_seq ?_
  refine seq_start (l := [0, 1, 2, 3, 4, 5, 6]) rfl ?_
  refine seq_one (op_val (v := .int .i64 (d2 + w2)) hf22 rfl rfl rfl rfl rfl rfl (r_move rfl) fun ac23 hf23 => ?_)
  refine seq_one (op_val (v := .pointer (some ⟨b1, 6, none⟩)) hf23 rfl rfl rfl rfl rfl rfl (r_fieldAddr fi_29_2 rfl rfl) fun ac24 hf24 => ?_)
  refine seq_one (op_val (v := .int .i64 2) hf24 rfl rfl rfl rfl rfl rfl (r_load ag_3 rfl (hI8.at 0 rfl) rfl) fun ac25 hf25 => ?_)
  refine seq_one (op_val (v := .pointer (some ⟨b1, 0, none⟩)) hf25 rfl rfl rfl rfl rfl rfl (r_fieldAddr fi_29_0 rfl rfl) fun ac26 hf26 => ?_)
  refine seq_one (op_val (v := .pointer (some ⟨b1, 2, none⟩)) hf26 rfl rfl rfl rfl rfl rfl (r_indexAddr (i := 2) ar_22 rfl rfl rfl (by decide) rfl) fun ac27 hf27 => ?_)
  refine seq_one (op_val (v := .int .i64 w2) hf27 rfl rfl rfl rfl rfl rfl (r_load ag_3 rfl (hI8.at 0 rfl) rfl) fun ac28 hf28 => ?_)
  refine seq_one (op_val (v := .bool (decide ((d2 + w2) > w2))) hf28 rfl rfl rfl rfl rfl rfl (r_gtr rfl rfl) fun ac29 hf29 => ?_)
  refine seq_end ?_
  clear ac22 hf22 ac23 hf23 ac24 hf24 ac25 hf25 ac26 hf26 ac27 hf27 ac28 hf28
  refine then_normal ?_
  refine code_if hf29 rfl (fun c29_1 => ?_) (fun c29_1 => ?_)
  · have hf30 := hf29.know 29 (u := .bool true) rfl (congrArg Value.bool c29_1)
    refine seq_start (l := [0, 1, 2, 3, 4, 5]) rfl ?_
    refine seq_one (op_val (v := .pointer (some ⟨b1, 6, none⟩)) hf30 rfl rfl rfl rfl rfl rfl (r_fieldAddr fi_29_2 rfl rfl) fun ac30 hf31 => ?_)
    refine seq_one (op_val (v := .int .i64 2) hf31 rfl rfl rfl rfl rfl rfl (r_load ag_3 rfl (hI8.at 0 rfl) rfl) fun ac31 hf32 => ?_)
    refine seq_one (op_val (v := .pointer (some ⟨b1, 0, none⟩)) hf32 rfl rfl rfl rfl rfl rfl (r_fieldAddr fi_29_0 rfl rfl) fun ac32 hf33 => ?_)
    refine seq_one (op_val (v := .pointer (some ⟨b1, 2, none⟩)) hf33 rfl rfl rfl rfl rfl rfl (r_indexAddr (i := 2) ar_22 rfl rfl rfl (by decide) rfl) fun ac33 hf34 => ?_)
    refine seq_one (op_val (v := .int .i64 w2) hf34 rfl rfl rfl rfl rfl rfl (r_load ag_3 rfl (hI8.at 0 rfl) rfl) fun ac34 hf35 => ?_)
    refine seq_one (op_val (v := .int .i64 w2) hf35 rfl rfl rfl rfl rfl rfl (r_assign rfl) fun ac35 hf36 => ?_)
    refine seq_end ?_
    clear hf29 ac29 hf30 ac30 hf31 ac31 hf32 ac32 hf33 ac33 hf34 ac34 hf35
    refine then_normal ?_
    refine code_seq ?_
    refine seq_start (l := [0, 1, 2, 3, 4, 5]) rfl ?_
    refine seq_one (op_val (v := .pointer (some ⟨b1, 6, none⟩)) hf36 rfl rfl rfl rfl rfl rfl (r_fieldAddr fi_29_2 rfl rfl) fun ac36 hf37 => ?_)
    refine seq_one (op_val (v := .int .i64 2) hf37 rfl rfl rfl rfl rfl rfl (r_load ag_3 rfl (hI8.at 0 rfl) rfl) fun ac37 hf38 => ?_)
    refine seq_one (op_val (v := .int .i64 w2) hf38 rfl rfl rfl rfl rfl rfl (r_move rfl) fun ac38 hf39 => ?_)
    refine seq_one (op_val (v := .pointer (some ⟨b1, 3, none⟩)) hf39 rfl rfl rfl rfl rfl rfl (r_fieldAddr fi_29_1 rfl rfl) fun ac39 hf40 => ?_)
    refine seq_one (op_val (v := .pointer (some ⟨b1, 5, none⟩)) hf40 rfl rfl rfl rfl rfl rfl (r_indexAddr (i := 2) ar_22 rfl rfl rfl (by decide) rfl) fun ac40 hf41 => ?_)
    refine seq_one (op_store (cs' := #[.int .i64 w0, .int .i64 w1, .int .i64 w2, .int .i64 d0, .int .i64 d1, .int .i64 w2, .int .i64 2]) 0 hf41 rfl rfl rfl rfl rfl sz_3 hI8 rfl (ltb rfl) (by kernel_rfl) fun wd4 hI9 => ?_)
    have hI10 : Inv w [(b1, #[.int .i64 w0, .int .i64 w1, .int .i64 w2, .int .i64 d0, .int .i64 d1, .int .i64 w2, .int .i64 2], 29), (b2, #[.int .i64 0, .int .i64 0, .int .i64 0, .int .i64 0, .int .i64 0, .int .i64 0, .int .i64 0], 29)] wd4 := hI9
    refine seq_end ?_
    clear ac35 hf36 ac36 hf37 ac37 hf38 ac38 hf39 ac39 hf40 wd3 hI8 hI9
    refine then_normal ?_
    refine code_seq ?_
    refine seq_start (l := [0, 1]) rfl ?_
    refine seq_one (op_val (v := .agg #[.int .i64 w0, .int .i64 w1, .int .i64 w2, .int .i64 d0, .int .i64 d1, .int .i64 w2, .int .i64 2]) hf41 rfl rfl rfl rfl rfl rfl (r_loadW ag_29 sz_29 rfl (hI10.at 0 rfl) rfl) fun ac41 hf42 => ?_)
    refine seq_one (op_storeW (cells := #[.int .i64 w0, .int .i64 w1, .int .i64 w2, .int .i64 d0, .int .i64 d1, .int .i64 w2, .int .i64 2]) 1 hf42 rfl rfl rfl rfl rfl sz_29 rfl rfl hI10 rfl rfl fun wd5 hI11 => ?_)
    have hI12 : Inv w [(b1, #[.int .i64 w0, .int .i64 w1, .int .i64 w2, .int .i64 d0, .int .i64 d1, .int .i64 w2, .int .i64 2], 29), (b2, #[.int .i64 w0, .int .i64 w1, .int .i64 w2, .int .i64 d0, .int .i64 d1, .int .i64 w2, .int .i64 2], 29)] wd5 := hI11
    refine seq_end ?_
    clear ac40 hf41 wd4 hI10 hI11
    refine then_normal ?_
    refine wp_ret ?_
    refine postC rfl hf42 rfl ag_29 sz_29 (hI12.at 1 rfl) rfl ⟨?_, hI12.done (fresh_keys (ks := [b1, b2]) rfl (fk_cons hb1 (fk_cons hb2 fk_nil)))⟩
    rw [mn2_gt c29_1]
  · have hf43 := hf29.know 29 (u := .bool false) rfl (congrArg Value.bool c29_1)
    refine wp_skip ?_
    refine then_normal ?_
    refine code_seq ?_
    refine seq_start (l := [0, 1, 2, 3, 4, 5]) rfl ?_
    refine seq_one (op_val (v := .pointer (some ⟨b1, 6, none⟩)) hf43 rfl rfl rfl rfl rfl rfl (r_fieldAddr fi_29_2 rfl rfl) fun ac42 hf44 => ?_)
    refine seq_one (op_val (v := .int .i64 2) hf44 rfl rfl rfl rfl rfl rfl (r_load ag_3 rfl (hI8.at 0 rfl) rfl) fun ac43 hf45 => ?_)
    refine seq_one (op_val (v := .int .i64 (d2 + w2)) hf45 rfl rfl rfl rfl rfl rfl (r_move rfl) fun ac44 hf46 => ?_)
    refine seq_one (op_val (v := .pointer (some ⟨b1, 3, none⟩)) hf46 rfl rfl rfl rfl rfl rfl (r_fieldAddr fi_29_1 rfl rfl) fun ac45 hf47 => ?_)
    refine seq_one (op_val (v := .pointer (some ⟨b1, 5, none⟩)) hf47 rfl rfl rfl rfl rfl rfl (r_indexAddr (i := 2) ar_22 rfl rfl rfl (by decide) rfl) fun ac46 hf48 => ?_)
    refine seq_one (op_store (cs' := #[.int .i64 w0, .int .i64 w1, .int .i64 w2, .int .i64 d0, .int .i64 d1, .int .i64 (d2 + w2), .int .i64 2]) 0 hf48 rfl rfl rfl rfl rfl sz_3 hI8 rfl (ltb rfl) (by kernel_rfl) fun wd6 hI13 => ?_)
    have hI14 : Inv w [(b1, #[.int .i64 w0, .int .i64 w1, .int .i64 w2, .int .i64 d0, .int .i64 d1, .int .i64 (d2 + w2), .int .i64 2], 29), (b2, #[.int .i64 0, .int .i64 0, .int .i64 0, .int .i64 0, .int .i64 0, .int .i64 0, .int .i64 0], 29)] wd6 := hI13
    refine seq_end ?_
    clear hf29 ac29 hf43 ac42 hf44 ac43 hf45 ac44 hf46 ac45 hf47 wd3 hI8 hI13
    refine then_normal ?_
    refine code_seq ?_
    refine seq_start (l := [0, 1]) rfl ?_
    refine seq_one (op_val (v := .agg #[.int .i64 w0, .int .i64 w1, .int .i64 w2, .int .i64 d0, .int .i64 d1, .int .i64 (d2 + w2), .int .i64 2]) hf48 rfl rfl rfl rfl rfl rfl (r_loadW ag_29 sz_29 rfl (hI14.at 0 rfl) rfl) fun ac47 hf49 => ?_)
    refine seq_one (op_storeW (cells := #[.int .i64 w0, .int .i64 w1, .int .i64 w2, .int .i64 d0, .int .i64 d1, .int .i64 (d2 + w2), .int .i64 2]) 1 hf49 rfl rfl rfl rfl rfl sz_29 rfl rfl hI14 rfl rfl fun wd7 hI15 => ?_)
    have hI16 : Inv w [(b1, #[.int .i64 w0, .int .i64 w1, .int .i64 w2, .int .i64 d0, .int .i64 d1, .int .i64 (d2 + w2), .int .i64 2], 29), (b2, #[.int .i64 w0, .int .i64 w1, .int .i64 w2, .int .i64 d0, .int .i64 d1, .int .i64 (d2 + w2), .int .i64 2], 29)] wd7 := hI15
    refine seq_end ?_
    clear ac46 hf48 wd6 hI14 hI15
    refine then_normal ?_
    refine wp_ret ?_
    refine postC rfl hf49 rfl ag_29 sz_29 (hI16.at 1 rfl) rfl ⟨?_, hI16.done (fresh_keys (ks := [b1, b2]) rfl (fk_cons hb1 (fk_cons hb2 fk_nil)))⟩
    rw [mn2_le' c29_1]
set_option maxHeartbeats 8000000 in
theorem next_pur2 (w0 w1 w2 d0 d1 d2 : Int) (hv : WOK w0 w1 w2) (hs : Ok w0 w1 w2 ⟨d0, d1, d2, 2⟩) : Pur Try.prog 21 [.agg #[.int .i64 w0, .int .i64 w1, .int .i64 w2, .int .i64 d0, .int .i64 d1, .int .i64 d2, .int .i64 2]] (.agg #[.int .i64 w0, .int .i64 w1, .int .i64 w2, .int .i64 (mn2 d0 w0), .int .i64 d1, .int .i64 d2, .int .i64 0]) := by
  intro w
  have hI1 := Inv.start w
  refine enter (n := 41) Try.func21 rfl rfl rfl ?_
  intro ac1 hf1
  refine code_seq ?_
  refine seq_start (l := [0, 1]) rfl ?_
  refine seq_one (op_box hf1 rfl rfl rfl rfl hI1 fun ac2 b1 wd1 hb1 hI2 hf2 => ?_)
  have hI3 : Inv w [(b1, #[.int .i64 w0, .int .i64 w1, .int .i64 w2, .int .i64 d0, .int .i64 d1, .int .i64 d2, .int .i64 2], 29)] wd1 := hI2
  refine seq_one (op_alloc hf2 rfl rfl rfl ze_29 hI3 fun ac3 b2 wd2 hb2 hI4 hf3 => ?_)
  have hI5 : Inv w [(b1, #[.int .i64 w0, .int .i64 w1, .int .i64 w2, .int .i64 d0, .int .i64 d1, .int .i64 d2, .int .i64 2], 29), (b2, #[.int .i64 0, .int .i64 0, .int .i64 0, .int .i64 0, .int .i64 0, .int .i64 0, .int .i64 0], 29)] wd2 := hI4
  refine seq_end ?_
  clear ac1 hI1 hf1 hI2 ac2 wd1 hI3 hf2 hI4
  refine then_normal ?_
  refine code_seq ?_
  refine seq_start (l := [0, 1, 2, 3, 4]) rfl ?_
  refine seq_one (op_val (v := .pointer (some ⟨b1, 6, none⟩)) hf3 rfl rfl rfl rfl rfl rfl (r_fieldAddr fi_29_2 rfl rfl) fun ac4 hf4 => ?_)
  refine seq_one (op_val (v := .int .i64 2) hf4 rfl rfl rfl rfl rfl rfl (r_load ag_3 rfl (hI5.at 0 rfl) rfl) fun ac5 hf5 => ?_)
  refine seq_one (op_val (v := .int .i64 3) hf5 rfl rfl rfl rfl rfl rfl (r_add (c := 3) rfl rfl (by rfl)) fun ac6 hf6 => ?_)
  refine seq_one (op_val (v := .pointer (some ⟨b1, 6, none⟩)) hf6 rfl rfl rfl rfl rfl rfl (r_fieldAddr fi_29_2 rfl rfl) fun ac7 hf7 => ?_)
  refine seq_one (op_store (cs' := #[.int .i64 w0, .int .i64 w1, .int .i64 w2, .int .i64 d0, .int .i64 d1, .int .i64 d2, .int .i64 3]) 0 hf7 rfl rfl rfl rfl rfl sz_3 hI5 rfl (ltb rfl) (by kernel_rfl) fun wd3 hI6 => ?_)
  have hI7 : Inv w [(b1, #[.int .i64 w0, .int .i64 w1, .int .i64 w2, .int .i64 d0, .int .i64 d1, .int .i64 d2, .int .i64 3], 29), (b2, #[.int .i64 0, .int .i64 0, .int .i64 0, .int .i64 0, .int .i64 0, .int .i64 0, .int .i64 0], 29)] wd3 := hI6
  refine seq_end ?_
  clear ac3 hf3 ac4 hf4 ac5 hf5 ac6 hf6 wd2 hI5 hI6
  refine then_normal ?_
  refine code_seq ?_
  refine code_seq ?_
  refine seq_start (l := [0, 1, 2]) rfl ?_
  refine seq_one (op_val (v := .pointer (some ⟨b1, 6, none⟩)) hf7 rfl rfl rfl rfl rfl rfl (r_fieldAddr fi_29_2 rfl rfl) fun ac8 hf8 => ?_)
  refine seq_one (op_val (v := .int .i64 3) hf8 rfl rfl rfl rfl rfl rfl (r_load ag_3 rfl (hI7.at 0 rfl) rfl) fun ac9 hf9 => ?_)
  refine seq_one (op_val (v := .bool true) hf9 rfl rfl rfl rfl rfl rfl (r_eqlC rfl rfl (by decide)) fun ac10 hf10 => ?_)
  refine seq_end ?_
  clear ac7 hf7 ac8 hf8 ac9 hf9
  refine then_normal ?_
  refine code_if_true hf10 rfl ?_
  refine seq_start (l := [0, 1]) rfl ?_
  refine seq_one (op_val (v := .pointer (some ⟨b1, 6, none⟩)) hf10 rfl rfl rfl rfl rfl rfl (r_fieldAddr fi_29_2 rfl rfl) fun ac11 hf11 => ?_)
  refine seq_one (op_store (cs' := #[.int .i64 w0, .int .i64 w1, .int .i64 w2, .int .i64 d0, .int .i64 d1, .int .i64 d2, .int .i64 0]) 0 hf11 rfl rfl rfl rfl rfl sz_3 hI7 rfl (ltb rfl) (by kernel_rfl) fun wd4 hI8 => ?_)
  have hI9 : Inv w [(b1, #[.int .i64 w0, .int .i64 w1, .int .i64 w2, .int .i64 d0, .int .i64 d1, .int .i64 d2, .int .i64 0], 29), (b2, #[.int .i64 0, .int .i64 0, .int .i64 0, .int .i64 0, .int .i64 0, .int .i64 0, .int .i64 0], 29)] wd4 := hI8
  refine seq_end ?_
  clear ac10 hf10 wd3 hI7 hI8
  refine then_normal ?_
  refine code_seq ?_
  refine any_start (fun w => Has [(b1, #[.int .i64 w0, .int .i64 w1, .int .i64 w2, .int .i64 d0, .int .i64 d1, .int .i64 d2, .int .i64 0], 29)] w) follows (Has.drew (Has.cons (hI9.at 0 rfl) Has.nil)) ?_
  have hS1 : Has [(b1, #[.int .i64 w0, .int .i64 w1, .int .i64 w2, .int .i64 d0, .int .i64 d1, .int .i64 d2, .int .i64 0], 29)] _ := Has.drew (Has.cons (hI9.at 0 rfl) Has.nil)
  have hI10 := hI9.drew
  refine any_val (i := 0) (v := .pointer (some ⟨b1, 6, none⟩)) hf11 rfl rfl rfl rfl rfl rfl (fun _ _ _ h => h) (by kernel_rfl) (by kernel_rfl) (by kernel_rfl) (fun wd4 hS1 => (r_fieldAddr fi_29_2 rfl rfl)) hS1 fun ac12 hf12 => ?_
  refine any_val (i := 1) (v := .int .i64 0) hf12 rfl rfl rfl rfl rfl rfl (fun _ _ _ h => h) (by kernel_rfl) (by kernel_rfl) (by kernel_rfl) (fun wd4 hS1 => (r_load ag_3 rfl (hS1.at 0 rfl) rfl)) hS1 fun ac13 hf13 => ?_
  refine any_val (i := 2) (v := .pointer (some ⟨b1, 3, none⟩)) hf13 rfl rfl rfl rfl rfl rfl (fun _ _ _ h => h) (by kernel_rfl) (by kernel_rfl) (by kernel_rfl) (fun wd4 hS1 => (r_fieldAddr fi_29_1 rfl rfl)) hS1 fun ac14 hf14 => ?_
  refine any_val (i := 3) (v := .pointer (some ⟨b1, 3, none⟩)) hf14 rfl rfl rfl rfl rfl rfl (fun _ _ _ h => h) (by kernel_rfl) (by kernel_rfl) (by kernel_rfl) (fun wd4 hS1 => (r_indexAddr (i := 0) ar_22 rfl rfl rfl (by decide) rfl)) hS1 fun ac15 hf15 => ?_
  refine any_val (i := 4) (v := .int .i64 d0) hf15 rfl rfl rfl rfl rfl rfl (fun _ _ _ h => h) (by kernel_rfl) (by kernel_rfl) (by kernel_rfl) (fun wd4 hS1 => (r_load ag_3 rfl (hS1.at 0 rfl) rfl)) hS1 fun ac16 hf16 => ?_
  refine any_val (i := 5) (v := .pointer (some ⟨b1, 6, none⟩)) hf16 rfl rfl rfl rfl rfl rfl (fun _ _ _ h => h) (by kernel_rfl) (by kernel_rfl) (by kernel_rfl) (fun wd4 hS1 => (r_fieldAddr fi_29_2 rfl rfl)) hS1 fun ac17 hf17 => ?_
  refine any_val (i := 6) (v := .int .i64 0) hf17 rfl rfl rfl rfl rfl rfl (fun _ _ _ h => h) (by kernel_rfl) (by kernel_rfl) (by kernel_rfl) (fun wd4 hS1 => (r_load ag_3 rfl (hS1.at 0 rfl) rfl)) hS1 fun ac18 hf18 => ?_
  refine any_val (i := 7) (v := .pointer (some ⟨b1, 0, none⟩)) hf18 rfl rfl rfl rfl rfl rfl (fun _ _ _ h => h) (by kernel_rfl) (by kernel_rfl) (by kernel_rfl) (fun wd4 hS1 => (r_fieldAddr fi_29_0 rfl rfl)) hS1 fun ac19 hf19 => ?_
  refine any_val (i := 8) (v := .pointer (some ⟨b1, 0, none⟩)) hf19 rfl rfl rfl rfl rfl rfl (fun _ _ _ h => h) (by kernel_rfl) (by kernel_rfl) (by kernel_rfl) (fun wd4 hS1 => (r_indexAddr (i := 0) ar_22 rfl rfl rfl (by decide) rfl)) hS1 fun ac20 hf20 => ?_
  refine any_val (i := 9) (v := .int .i64 w0) hf20 rfl rfl rfl rfl rfl rfl (fun _ _ _ h => h) (by kernel_rfl) (by kernel_rfl) (by kernel_rfl) (fun wd4 hS1 => (r_load ag_3 rfl (hS1.at 0 rfl) rfl)) hS1 fun ac21 hf21 => ?_
  refine any_val (i := 10) (v := .int .i64 (d0 + w0)) hf21 rfl rfl rfl rfl rfl rfl (fun _ _ _ h => h) (by kernel_rfl) (by kernel_rfl) (by kernel_rfl) (fun wd4 hS1 => (r_add (c := (d0 + w0)) rfl rfl (by have h1 := hs.l0; have h2 := hs.r0; have h3 := hv.r0; have h4 := hv.l0; dsimp only at h1 h2; exact wrap_i64 (by omega) (by omega)))) hS1 fun ac22 hf22 => ?_
  refine any_val (i := 11) (v := .int .i64 (d0 + w0)) hf22 rfl rfl rfl rfl rfl rfl (fun _ _ _ h => h) (by kernel_rfl) (by kernel_rfl) (by kernel_rfl) (fun wd4 hS1 => (r_assign rfl)) hS1 fun ac23 hf23 => ?_
  refine any_end (by kernel_rfl) ?_
  clear hI9 ac11 hf11 ac12 hf12 ac13 hf13 ac14 hf14 ac15 hf15 ac16 hf16 ac17 hf17 ac18 hf18 ac19 hf19 ac20 hf20 ac21 hf21 ac22 hf22 hS1
  refine then_normal ?_
  refine code_seq ?_
  refine code_seq ?_
  refine seq_start (l := [0, 1, 2, 3, 4, 5, 6]) rfl ?_
  refine seq_one (op_val (v := .int .i64 (d0 + w0)) hf23 rfl rfl rfl rfl rfl rfl (r_move rfl) fun ac24 hf24 => ?_)
  refine seq_one (op_val (v := .pointer (some ⟨b1, 6, none⟩)) hf24 rfl rfl rfl rfl rfl rfl (r_fieldAddr fi_29_2 rfl rfl) fun ac25 hf25 => ?_)
  refine seq_one (op_val (v := .int .i64 0) hf25 rfl rfl rfl rfl rfl rfl (r_load ag_3 rfl (hI10.at 0 rfl) rfl) fun ac26 hf26 => ?_)
  refine seq_one (op_val (v := .pointer (some ⟨b1, 0, none⟩)) hf26 rfl rfl rfl rfl rfl rfl (r_fieldAddr fi_29_0 rfl rfl) fun ac27 hf27 => ?_)
  refine seq_one (op_val (v := .pointer (some ⟨b1, 0, none⟩)) hf27 rfl rfl rfl rfl rfl rfl (r_indexAddr (i := 0) ar_22 rfl rfl rfl (by decide) rfl) fun ac28 hf28 => ?_)
  refine seq_one (op_val (v := .int .i64 w0) hf28 rfl rfl rfl rfl rfl rfl (r_load ag_3 rfl (hI10.at 0 rfl) rfl) fun ac29 hf29 => ?_)
  refine seq_one (op_val (v := .bool (decide ((d0 + w0) > w0))) hf29 rfl rfl rfl rfl rfl rfl (r_gtr rfl rfl) fun ac30 hf30 => ?_)
  refine seq_end ?_
  clear ac23 hf23 ac24 hf24 ac25 hf25 ac26 hf26 ac27 hf27 ac28 hf28 ac29 hf29
  refine then_normal ?_
  refine code_if hf30 rfl (fun c29_1 => ?_) (fun c29_1 => ?_)
  · have hf31 := hf30.know 29 (u := .bool true) rfl (congrArg Value.bool c29_1)
    refine seq_start (l := [0, 1, 2, 3, 4, 5]) rfl ?_
    refine seq_one (op_val (v := .pointer (some ⟨b1, 6, none⟩)) hf31 rfl rfl rfl rfl rfl rfl (r_fieldAddr fi_29_2 rfl rfl) fun ac31 hf32 => ?_)
    refine seq_one (op_val (v := .int .i64 0) hf32 rfl rfl rfl rfl rfl rfl (r_load ag_3 rfl (hI10.at 0 rfl) rfl) fun ac32 hf33 => ?_)
    refine seq_one (op_val (v := .pointer (some ⟨b1, 0, none⟩)) hf33 rfl rfl rfl rfl rfl rfl (r_fieldAddr fi_29_0 rfl rfl) fun ac33 hf34 => ?_)
    refine seq_one (op_val (v := .pointer (some ⟨b1, 0, none⟩)) hf34 rfl rfl rfl rfl rfl rfl (r_indexAddr (i := 0) ar_22 rfl rfl rfl (by decide) rfl) fun ac34 hf35 => ?_)
    refine seq_one (op_val (v := .int .i64 w0) hf35 rfl rfl rfl rfl rfl rfl (r_load ag_3 rfl (hI10.at 0 rfl) rfl) fun ac35 hf36 => ?_)
    refine seq_one (op_val (v := .int .i64 w0) hf36 rfl rfl rfl rfl rfl rfl (r_assign rfl) fun ac36 hf37 => ?_)
    refine seq_end ?_
    clear hf30 ac30 hf31 ac31 hf32 ac32 hf33 ac33 hf34 ac34 hf35 ac35 hf36
    refine then_normal ?_
    refine code_seq ?_
    refine seq_start (l := [0, 1, 2, 3, 4, 5]) rfl ?_
    refine seq_one (op_val (v := .pointer (some ⟨b1, 6, none⟩)) hf37 rfl rfl rfl rfl rfl rfl (r_fieldAddr fi_29_2 rfl rfl) fun ac37 hf38 => ?_)
    refine seq_one (op_val (v := .int .i64 0) hf38 rfl rfl rfl rfl rfl rfl (r_load ag_3 rfl (hI10.at 0 rfl) rfl) fun ac38 hf39 => ?_)
    refine seq_one (op_val (v := .int .i64 w0) hf39 rfl rfl rfl rfl rfl rfl (r_move rfl) fun ac39 hf40 => ?_)
    refine seq_one (op_val (v := .pointer (some ⟨b1, 3, none⟩)) hf40 rfl rfl rfl rfl rfl rfl (r_fieldAddr fi_29_1 rfl rfl) fun ac40 hf41 => ?_)
    refine seq_one (op_val (v := .pointer (some ⟨b1, 3, none⟩)) hf41 rfl rfl rfl rfl rfl rfl (r_indexAddr (i := 0) ar_22 rfl rfl rfl (by decide) rfl) fun ac41 hf42 => ?_)
    refine seq_one (op_store (cs' := #[.int .i64 w0, .int .i64 w1, .int .i64 w2, .int .i64 w0, .int .i64 d1, .int .i64 d2, .int .i64 0]) 0 hf42 rfl rfl rfl rfl rfl sz_3 hI10 rfl (ltb rfl) (by kernel_rfl) fun wd5 hI11 => ?_)
    have hI12 : Inv w [(b1, #[.int .i64 w0, .int .i64 w1, .int .i64 w2, .int .i64 w0, .int .i64 d1, .int .i64 d2, .int .i64 0], 29), (b2, #[.int .i64 0, .int .i64 0, .int .i64 0, .int .i64 0, .int .i64 0, .int .i64 0, .int .i64 0], 29)] wd5 := hI11
    refine seq_end ?_
    clear ac36 hf37 ac37 hf38 ac38 hf39 ac39 hf40 ac40 hf41 wd4 hI10 hI11
    refine then_normal ?_
    refine code_seq ?_
    refine seq_start (l := [0, 1]) rfl ?_
    refine seq_one (op_val (v := .agg #[.int .i64 w0, .int .i64 w1, .int .i64 w2, .int .i64 w0, .int .i64 d1, .int .i64 d2, .int .i64 0]) hf42 rfl rfl rfl rfl rfl rfl (r_loadW ag_29 sz_29 rfl (hI12.at 0 rfl) rfl) fun ac42 hf43 => ?_)
    refine seq_one (op_storeW (cells := #[.int .i64 w0, .int .i64 w1, .int .i64 w2, .int .i64 w0, .int .i64 d1, .int .i64 d2, .int .i64 0]) 1 hf43 rfl rfl rfl rfl rfl sz_29 rfl rfl hI12 rfl rfl fun wd6 hI13 => ?_)
    have hI14 : Inv w [(b1, #[.int .i64 w0, .int .i64 w1, .int .i64 w2, .int .i64 w0, .int .i64 d1, .int .i64 d2, .int .i64 0], 29), (b2, #[.int .i64 w0, .int .i64 w1, .int .i64 w2, .int .i64 w0, .int .i64 d1, .int .i64 d2, .int .i64 0], 29)] wd6 := hI13
    refine seq_end ?_
    clear ac41 hf42 wd5 hI12 hI13
    refine then_normal ?_
    refine wp_ret ?_
    refine postC rfl hf43 rfl ag_29 sz_29 (hI14.at 1 rfl) rfl ⟨?_, hI14.done (fresh_keys (ks := [b1, b2]) rfl (fk_cons hb1 (fk_cons hb2 fk_nil)))⟩
    rw [mn2_gt c29_1]
  · have hf44 := hf30.know 29 (u := .bool false) rfl (congrArg Value.bool c29_1)
    refine wp_skip ?_
    refine then_normal ?_
    refine code_seq ?_
    refine seq_start (l := [0, 1, 2, 3, 4, 5]) rfl ?_
    refine seq_one (op_val (v := .pointer (some ⟨b1, 6, none⟩)) hf44 rfl rfl rfl rfl rfl rfl (r_fieldAddr fi_29_2 rfl rfl) fun ac43 hf45 => ?_)
    refine seq_one (op_val (v := .int .i64 0) hf45 rfl rfl rfl rfl rfl rfl (r_load ag_3 rfl (hI10.at 0 rfl) rfl) fun ac44 hf46 => ?_)
    refine seq_one (op_val (v := .int .i64 (d0 + w0)) hf46 rfl rfl rfl rfl rfl rfl (r_move rfl) fun ac45 hf47 => ?_)
    refine seq_one (op_val (v := .pointer (some ⟨b1, 3, none⟩)) hf47 rfl rfl rfl rfl rfl rfl (r_fieldAddr fi_29_1 rfl rfl) fun ac46 hf48 => ?_)
    refine seq_one (op_val (v := .pointer (some ⟨b1, 3, none⟩)) hf48 rfl rfl rfl rfl rfl rfl (r_indexAddr (i := 0) ar_22 rfl rfl rfl (by decide) rfl) fun ac47 hf49 => ?_)
    refine seq_one (op_store (cs' := #[.int .i64 w0, .int .i64 w1, .int .i64 w2, .int .i64 (d0 + w0), .int .i64 d1, .int .i64 d2, .int .i64 0]) 0 hf49 rfl rfl rfl rfl rfl sz_3 hI10 rfl (ltb rfl) (by kernel_rfl) fun wd7 hI15 => ?_)
    have hI16 : Inv w [(b1, #[.int .i64 w0, .int .i64 w1, .int .i64 w2, .int .i64 (d0 + w0), .int .i64 d1, .int .i64 d2, .int .i64 0], 29), (b2, #[.int .i64 0, .int .i64 0, .int .i64 0, .int .i64 0, .int .i64 0, .int .i64 0, .int .i64 0], 29)] wd7 := hI15
    refine seq_end ?_
    clear hf30 ac30 hf44 ac43 hf45 ac44 hf46 ac45 hf47 ac46 hf48 wd4 hI10 hI15
    refine then_normal ?_
    refine code_seq ?_
    refine seq_start (l := [0, 1]) rfl ?_
    refine seq_one (op_val (v := .agg #[.int .i64 w0, .int .i64 w1, .int .i64 w2, .int .i64 (d0 + w0), .int .i64 d1, .int .i64 d2, .int .i64 0]) hf49 rfl rfl rfl rfl rfl rfl (r_loadW ag_29 sz_29 rfl (hI16.at 0 rfl) rfl) fun ac48 hf50 => ?_)
    refine seq_one (op_storeW (cells := #[.int .i64 w0, .int .i64 w1, .int .i64 w2, .int .i64 (d0 + w0), .int .i64 d1, .int .i64 d2, .int .i64 0]) 1 hf50 rfl rfl rfl rfl rfl sz_29 rfl rfl hI16 rfl rfl fun wd8 hI17 => ?_)
    have hI18 : Inv w [(b1, #[.int .i64 w0, .int .i64 w1, .int .i64 w2, .int .i64 (d0 + w0), .int .i64 d1, .int .i64 d2, .int .i64 0], 29), (b2, #[.int .i64 w0, .int .i64 w1, .int .i64 w2, .int .i64 (d0 + w0), .int .i64 d1, .int .i64 d2, .int .i64 0], 29)] wd8 := hI17
    refine seq_end ?_
    clear ac47 hf49 wd7 hI16 hI17
    refine then_normal ?_
    refine wp_ret ?_
    refine postC rfl hf50 rfl ag_29 sz_29 (hI18.at 1 rfl) rfl ⟨?_, hI18.done (fresh_keys (ks := [b1, b2]) rfl (fk_cons hb1 (fk_cons hb2 fk_nil)))⟩
    rw [mn2_le' c29_1]
set_option maxHeartbeats 8000000 in
theorem pickR_pur (w0 w1 w2 c0 c1 c2 n : Int) (h0 h1 h2 : Bool) (hv : WOK w0 w1 w2) (hs : Ok w0 w1 w2 ⟨c0, c1, c2, n⟩) : Pur Try.prog 13 [.agg #[.int .i64 w0, .int .i64 w1, .int .i64 w2, .int .i64 c0, .int .i64 c1, .int .i64 c2, .int .i64 n], .agg #[.bool h0, .bool h1, .bool h2]] (.tuple #[.agg #[.int .i64 w0, .int .i64 w1, .int .i64 w2, .int .i64 (((pickS h0 h1 h2 w0 w1 w2 ⟨c0, c1, c2, n⟩ : St)).c0), .int .i64 (((pickS h0 h1 h2 w0 w1 w2 ⟨c0, c1, c2, n⟩ : St)).c1), .int .i64 (((pickS h0 h1 h2 w0 w1 w2 ⟨c0, c1, c2, n⟩ : St)).c2), .int .i64 (((pickS h0 h1 h2 w0 w1 w2 ⟨c0, c1, c2, n⟩ : St)).now)], .int .i64 (pickN h0 h1 h2 w0 w1 w2 ⟨c0, c1, c2, n⟩), .bool (h0 || h1 || h2)]) := by
  intro w
  have hI1 := Inv.start w
  refine enter (n := 38) Try.func13 rfl rfl rfl ?_
  intro ac1 hf1
  refine code_seq ?_
  refine seq_start (l := [0, 1, 2, 3, 4]) rfl ?_
  refine seq_one (op_box hf1 rfl rfl rfl rfl hI1 fun ac2 b1 wd1 hb1 hI2 hf2 => ?_)
  have hI3 : Inv w [(b1, #[.int .i64 w0, .int .i64 w1, .int .i64 w2, .int .i64 c0, .int .i64 c1, .int .i64 c2, .int .i64 n], 29)] wd1 := hI2
  refine seq_one (op_box hf2 rfl rfl rfl rfl hI3 fun ac3 b2 wd2 hb2 hI4 hf3 => ?_)
  have hI5 : Inv w [(b1, #[.int .i64 w0, .int .i64 w1, .int .i64 w2, .int .i64 c0, .int .i64 c1, .int .i64 c2, .int .i64 n], 29), (b2, #[.bool h0, .bool h1, .bool h2], 33)] wd2 := hI4
  refine seq_one (op_alloc hf3 rfl rfl rfl ze_29 hI5 fun ac4 b3 wd3 hb3 hI6 hf4 => ?_)
  have hI7 : Inv w [(b1, #[.int .i64 w0, .int .i64 w1, .int .i64 w2, .int .i64 c0, .int .i64 c1, .int .i64 c2, .int .i64 n], 29), (b2, #[.bool h0, .bool h1, .bool h2], 33), (b3, #[.int .i64 0, .int .i64 0, .int .i64 0, .int .i64 0, .int .i64 0, .int .i64 0, .int .i64 0], 29)] wd3 := hI6
  refine seq_one (op_val (v := .int .i64 0) hf4 rfl rfl rfl rfl rfl rfl (r_assign rfl) fun ac5 hf5 => ?_)
  refine seq_one (op_val (v := .bool false) hf5 rfl rfl rfl rfl rfl rfl (r_assign rfl) fun ac6 hf6 => ?_)
  refine seq_end ?_
  clear ac1 hI1 hf1 hI2 ac2 wd1 hI3 hf2 hI4 ac3 wd2 hI5 hf3 hI6 ac4 hf4 ac5 hf5
  refine then_normal ?_
  refine code_seq ?_
  refine code_seq ?_
  refine seq_start (l := [0, 1, 2, 3, 4, 5, 6, 7, 8, 9, 10, 11, 12]) rfl ?_
  refine seq_one (op_val (v := .pointer (some ⟨b2, 0, none⟩)) hf6 rfl rfl rfl rfl rfl rfl (r_indexAddr (i := 0) ar_33 rfl rfl rfl (by decide) rfl) fun ac7 hf7 => ?_)
  refine seq_one (op_val (v := .bool h0) hf7 rfl rfl rfl rfl rfl rfl (r_load ag_4 rfl (hI7.at 1 rfl) rfl) fun ac8 hf8 => ?_)
  refine seq_one (op_val (v := .bool (!h0)) hf8 rfl rfl rfl rfl rfl rfl (r_not rfl) fun ac9 hf9 => ?_)
  refine seq_one (op_val (v := .bool (!h0)) hf9 rfl rfl rfl rfl rfl rfl (r_move rfl) fun ac10 hf10 => ?_)
  rcases Bool.eq_false_or_eq_true (!h0 : Bool) with g10_1 | g10_1
  · have hf11 := hf10.know 10 (u := .bool true) rfl (congrArg Value.bool g10_1)
    refine seq_one (op_val (v := .pointer (some ⟨b2, 1, none⟩)) hf11 rfl rfl rfl rfl rfl rfl (r_indexAddr (i := 1) ar_33 rfl rfl rfl (by decide) rfl) fun ac11 hf12 => ?_)
    refine seq_one (op_val (v := .bool h1) hf12 rfl rfl rfl rfl rfl rfl (r_load ag_4 rfl (hI7.at 1 rfl) rfl) fun ac12 hf13 => ?_)
    refine seq_one (op_val (v := .bool (!h1)) hf13 rfl rfl rfl rfl rfl rfl (r_not rfl) fun ac13 hf14 => ?_)
    refine seq_one (op_val (v := .bool (!h1)) hf14 rfl rfl rfl rfl rfl rfl (r_pickT rfl rfl) fun ac14 hf15 => ?_)
    refine seq_one (op_val (v := .bool (!h1)) hf15 rfl rfl rfl rfl rfl rfl (r_move rfl) fun ac15 hf16 => ?_)
    rcases Bool.eq_false_or_eq_true (!h1 : Bool) with g15_2 | g15_2
    · have hf17 := hf16.know 15 (u := .bool true) rfl (congrArg Value.bool g15_2)
      refine seq_one (op_val (v := .pointer (some ⟨b2, 2, none⟩)) hf17 rfl rfl rfl rfl rfl rfl (r_indexAddr (i := 2) ar_33 rfl rfl rfl (by decide) rfl) fun ac16 hf18 => ?_)
      refine seq_one (op_val (v := .bool h2) hf18 rfl rfl rfl rfl rfl rfl (r_load ag_4 rfl (hI7.at 1 rfl) rfl) fun ac17 hf19 => ?_)
      refine seq_one (op_val (v := .bool (!h2)) hf19 rfl rfl rfl rfl rfl rfl (r_not rfl) fun ac18 hf20 => ?_)
      refine seq_one (op_val (v := .bool (!h2)) hf20 rfl rfl rfl rfl rfl rfl (r_pickT rfl rfl) fun ac19 hf21 => ?_)
      refine seq_end ?_
      clear ac6 hf6 ac7 hf7 ac8 hf8 ac9 hf9 hf10 ac10 hf11 ac11 hf12 ac12 hf13 ac13 hf14 ac14 hf15 hf16 ac15 hf17 ac16 hf18 ac17 hf19 ac18 hf20
      refine then_normal ?_
      refine code_if hf21 rfl (fun c19_3 => ?_) (fun c19_3 => ?_)
      · have hf22 := hf21.know 19 (u := .bool true) rfl (congrArg Value.bool c19_3)
        refine code_seq ?_
        refine seq_start (l := [0, 1, 2, 3]) rfl ?_
        refine seq_one (op_val (v := .agg #[.int .i64 w0, .int .i64 w1, .int .i64 w2, .int .i64 c0, .int .i64 c1, .int .i64 c2, .int .i64 n]) hf22 rfl rfl rfl rfl rfl rfl (r_loadW ag_29 sz_29 rfl (hI7.at 0 rfl) rfl) fun ac20 hf23 => ?_)
        refine seq_one (op_storeW (cells := #[.int .i64 w0, .int .i64 w1, .int .i64 w2, .int .i64 c0, .int .i64 c1, .int .i64 c2, .int .i64 n]) 2 hf23 rfl rfl rfl rfl rfl sz_29 rfl rfl hI7 rfl rfl fun wd4 hI8 => ?_)
        have hI9 : Inv w [(b1, #[.int .i64 w0, .int .i64 w1, .int .i64 w2, .int .i64 c0, .int .i64 c1, .int .i64 c2, .int .i64 n], 29), (b2, #[.bool h0, .bool h1, .bool h2], 33), (b3, #[.int .i64 w0, .int .i64 w1, .int .i64 w2, .int .i64 c0, .int .i64 c1, .int .i64 c2, .int .i64 n], 29)] wd4 := hI8
        refine seq_one (op_val (v := .int .i64 0) hf23 rfl rfl rfl rfl rfl rfl (r_assign rfl) fun ac21 hf24 => ?_)
        refine seq_one (op_val (v := .bool false) hf24 rfl rfl rfl rfl rfl rfl (r_assign rfl) fun ac22 hf25 => ?_)
        refine seq_end ?_
        clear hf21 ac19 hf22 wd3 hI7 hI8 ac20 hf23 ac21 hf24
        refine then_normal ?_
        refine wp_ret ?_
        refine then_ret ?_
        refine postC2 rfl hf25 rfl ag_29 sz_29 (hI9.at 2 rfl) rfl rfl rfl ⟨?_, hI9.done (fresh_keys (ks := [b1, b2, b3]) rfl (fk_cons hb1 (fk_cons hb2 (fk_cons hb3 fk_nil))))⟩
        have ha : (h0 || h1 || h2) = false := (by simp only [Bool.not_eq_true', Bool.not_eq_false'] at g10_1 g15_2 c19_3; simp [g10_1, g15_2, c19_3]); rw [pickN_none ha, pickS_none ha, ha]
      · have hf26 := hf21.know 19 (u := .bool false) rfl (congrArg Value.bool c19_3)
        refine wp_skip ?_
        refine then_normal ?_
        refine wp_block ?_
        have ha : (h0 || h1 || h2) = true := by simp only [Bool.not_eq_true', Bool.not_eq_false'] at g10_1 g15_2 c19_3; simp [g10_1, g15_2, c19_3]
        refine code_loop (α := Int × Int × Int × Int) (fun (x : Int × Int × Int × Int) => match x with | (d0, d1, d2, j) => [(0, .agg #[.int .i64 w0, .int .i64 w1, .int .i64 w2, .int .i64 c0, .int .i64 c1, .int .i64 c2, .int .i64 n]), (1, .agg #[.bool h0, .bool h1, .bool h2]), (2, .pointer (some ⟨b1, 0, none⟩)), (3, .pointer (some ⟨b2, 0, none⟩)), (4, .pointer (some ⟨b3, 0, none⟩)), (7, .pointer (some ⟨b2, 0, none⟩)), (8, .bool h0), (9, .bool (!h0)), (10, .bool true), (11, .pointer (some ⟨b2, 1, none⟩)), (12, .bool h1), (13, .bool (!h1)), (14, .bool (!h1)), (15, .bool true), (16, .pointer (some ⟨b2, 2, none⟩)), (17, .bool h2), (18, .bool (!h2)), (19, .bool false)]) (fun (x : Int × Int × Int × Int) => match x with | (d0, d1, d2, j) => fun wL => Inv w [(b1, #[.int .i64 w0, .int .i64 w1, .int .i64 w2, .int .i64 d0, .int .i64 d1, .int .i64 d2, .int .i64 j], 29), (b2, #[.bool h0, .bool h1, .bool h2], 33), (b3, #[.int .i64 0, .int .i64 0, .int .i64 0, .int .i64 0, .int .i64 0, .int .i64 0, .int .i64 0], 29)] wL ∧ (Ok w0 w1 w2 ⟨d0, d1, d2, j⟩ ∧ (pickS h0 h1 h2 w0 w1 w2 ⟨d0, d1, d2, j⟩ : St) = (pickS h0 h1 h2 w0 w1 w2 ⟨c0, c1, c2, n⟩ : St))) (fun (x : Int × Int × Int × Int) => match x with | (d0, d1, d2, j) => meas h0 h1 h2 ⟨d0, d1, d2, j⟩) (c0, c1, c2, n) (hf26.cons 0 rfl (hf26.cons 1 rfl (hf26.cons 2 rfl (hf26.cons 3 rfl (hf26.cons 4 rfl (hf26.cons 7 rfl (hf26.cons 8 rfl (hf26.cons 9 rfl (hf26.cons 10 rfl (hf26.cons 11 rfl (hf26.cons 12 rfl (hf26.cons 13 rfl (hf26.cons 14 rfl (hf26.cons 15 rfl (hf26.cons 16 rfl (hf26.cons 17 rfl (hf26.cons 18 rfl (hf26.cons 19 rfl hf26.nil)))))))))))))))))) ⟨hI7, ⟨hs, rfl⟩⟩ ?_
        intro ⟨d0, d1, d2, j⟩ ac23 wd5 hf27 hL1
        obtain ⟨hI10, hx1⟩ := hL1
        dsimp only at hf27 hI10 hx1
        clear hf21 ac19 wd3 hf26 hI7
        have hj := hx1.1.n
        dsimp only at hj
        rcases hj with rfl | rfl | rfl
        ·
          refine wp_block ?_
          refine code_seq ?_
          refine code_seq ?_
          refine seq_start (l := [0, 1, 2, 3, 4, 5, 6, 7, 8, 9, 10, 11]) rfl ?_
          refine seq_one (op_val (v := .pointer (some ⟨b1, 6, none⟩)) hf27 rfl rfl rfl rfl rfl rfl (r_fieldAddr fi_29_2 rfl rfl) fun ac24 hf28 => ?_)
          refine seq_one (op_val (v := .int .i64 0) hf28 rfl rfl rfl rfl rfl rfl (r_load ag_3 rfl (hI10.at 0 rfl) rfl) fun ac25 hf29 => ?_)
          refine seq_one (op_val (v := .pointer (some ⟨b2, 0, none⟩)) hf29 rfl rfl rfl rfl rfl rfl (r_indexAddr (i := 0) ar_33 rfl rfl rfl (by decide) rfl) fun ac26 hf30 => ?_)
          refine seq_one (op_val (v := .bool h0) hf30 rfl rfl rfl rfl rfl rfl (r_load ag_4 rfl (hI10.at 1 rfl) rfl) fun ac27 hf31 => ?_)
          refine seq_one (op_val (v := .bool h0) hf31 rfl rfl rfl rfl rfl rfl (r_move rfl) fun ac28 hf32 => ?_)
          rcases Bool.eq_false_or_eq_true (h0 : Bool) with g25_4 | g25_4
          · have hf33 := hf32.know 25 (u := .bool true) rfl (congrArg Value.bool g25_4)
            refine seq_one (op_val (v := .pointer (some ⟨b1, 6, none⟩)) hf33 rfl rfl rfl rfl rfl rfl (r_fieldAddr fi_29_2 rfl rfl) fun ac29 hf34 => ?_)
            refine seq_one (op_val (v := .int .i64 0) hf34 rfl rfl rfl rfl rfl rfl (r_load ag_3 rfl (hI10.at 0 rfl) rfl) fun ac30 hf35 => ?_)
            refine seq_one (op_val (v := .pointer (some ⟨b1, 3, none⟩)) hf35 rfl rfl rfl rfl rfl rfl (r_fieldAddr fi_29_1 rfl rfl) fun ac31 hf36 => ?_)
            refine seq_one (op_val (v := .pointer (some ⟨b1, 3, none⟩)) hf36 rfl rfl rfl rfl rfl rfl (r_indexAddr (i := 0) ar_22 rfl rfl rfl (by decide) rfl) fun ac32 hf37 => ?_)
            refine seq_one (op_val (v := .int .i64 d0) hf37 rfl rfl rfl rfl rfl rfl (r_load ag_3 rfl (hI10.at 0 rfl) rfl) fun ac33 hf38 => ?_)
            refine seq_one (op_val (v := .bool (decide (d0 > 0))) hf38 rfl rfl rfl rfl rfl rfl (r_gtr rfl rfl) fun ac34 hf39 => ?_)
            refine seq_one (op_val (v := .bool (decide (d0 > 0))) hf39 rfl rfl rfl rfl rfl rfl (r_pickT rfl rfl) fun ac35 hf40 => ?_)
            refine seq_end ?_
            clear ac23 hf27 ac24 hf28 ac25 hf29 ac26 hf30 ac27 hf31 hf32 ac28 hf33 ac29 hf34 ac30 hf35 ac31 hf36 ac32 hf37 ac33 hf38 ac34 hf39
            refine then_normal ?_
            refine code_if hf40 rfl (fun c32_5 => ?_) (fun c32_5 => ?_)
            · have hf41 := hf40.know 32 (u := .bool true) rfl (congrArg Value.bool c32_5)
              refine code_seq ?_
              refine any_start (fun w => Has [(b1, #[.int .i64 w0, .int .i64 w1, .int .i64 w2, .int .i64 d0, .int .i64 d1, .int .i64 d2, .int .i64 0], 29)] w) follows (Has.drew (Has.cons (hI10.at 0 rfl) Has.nil)) ?_
              have hS1 : Has [(b1, #[.int .i64 w0, .int .i64 w1, .int .i64 w2, .int .i64 d0, .int .i64 d1, .int .i64 d2, .int .i64 0], 29)] _ := Has.drew (Has.cons (hI10.at 0 rfl) Has.nil)
              have hI11 := hI10.drew
              refine any_val (i := 0) (v := .agg #[.int .i64 w0, .int .i64 w1, .int .i64 w2, .int .i64 d0, .int .i64 d1, .int .i64 d2, .int .i64 0]) hf41 rfl rfl rfl rfl rfl rfl (fun _ _ _ h => h) (by kernel_rfl) (by kernel_rfl) (by kernel_rfl) (fun wd5 hS1 => (r_loadW ag_29 sz_29 rfl (hS1.at 0 rfl) rfl)) hS1 fun ac36 hf42 => ?_
              refine any_val (i := 1) (v := .pointer (some ⟨b1, 6, none⟩)) hf42 rfl rfl rfl rfl rfl rfl (fun _ _ _ h => h) (by kernel_rfl) (by kernel_rfl) (by kernel_rfl) (fun wd5 hS1 => (r_fieldAddr fi_29_2 rfl rfl)) hS1 fun ac37 hf43 => ?_
              refine any_val (i := 2) (v := .int .i64 0) hf43 rfl rfl rfl rfl rfl rfl (fun _ _ _ h => h) (by kernel_rfl) (by kernel_rfl) (by kernel_rfl) (fun wd5 hS1 => (r_load ag_3 rfl (hS1.at 0 rfl) rfl)) hS1 fun ac38 hf44 => ?_
              refine any_one (i := 3) (by kernel_rfl) ?_
              refine (op_storeW (cells := #[.int .i64 w0, .int .i64 w1, .int .i64 w2, .int .i64 d0, .int .i64 d1, .int .i64 d2, .int .i64 0]) 2 hf44 rfl rfl rfl rfl rfl sz_29 rfl rfl hI11 rfl rfl fun wd6 hI12 => ⟨?_, ?_⟩)
              · exact (Has.cons (hI12.at 0 rfl) Has.nil)
              have hI13 : Inv w [(b1, #[.int .i64 w0, .int .i64 w1, .int .i64 w2, .int .i64 d0, .int .i64 d1, .int .i64 d2, .int .i64 0], 29), (b2, #[.bool h0, .bool h1, .bool h2], 33), (b3, #[.int .i64 w0, .int .i64 w1, .int .i64 w2, .int .i64 d0, .int .i64 d1, .int .i64 d2, .int .i64 0], 29)] wd6 := hI12
              have hS2 : Has [(b1, #[.int .i64 w0, .int .i64 w1, .int .i64 w2, .int .i64 d0, .int .i64 d1, .int .i64 d2, .int .i64 0], 29)] _ := (Has.cons (hI13.at 0 rfl) Has.nil)
              refine any_val (i := 4) (v := .int .i64 0) hf44 rfl rfl rfl rfl rfl rfl (fun _ _ _ h => h) (by kernel_rfl) (by kernel_rfl) (by kernel_rfl) (fun wd6 hS2 => (r_assign rfl)) hS2 fun ac39 hf45 => ?_
              refine any_val (i := 5) (v := .bool true) hf45 rfl rfl rfl rfl rfl rfl (fun _ _ _ h => h) (by kernel_rfl) (by kernel_rfl) (by kernel_rfl) (fun wd6 hS2 => (r_assign rfl)) hS2 fun ac40 hf46 => ?_
              refine any_end (by kernel_rfl) ?_
              clear hf40 hI10 ac35 hf41 ac36 hf42 ac37 hf43 wd5 hI11 hI12 hS1 ac38 hf44 ac39 hf45 hS2
              refine then_normal ?_
              refine wp_ret ?_
              refine then_ret ?_
              refine block_ret ?_
              refine then_ret ?_
              refine block_ret ?_
              refine postC2 rfl hf46 rfl ag_29 sz_29 (hI13.at 2 rfl) rfl rfl rfl ⟨?_, hI13.done (fresh_keys (ks := [b1, b2, b3]) rfl (fk_cons hb1 (fk_cons hb2 (fk_cons hb3 fk_nil))))⟩
              have hg : good h0 h1 h2 ⟨d0, d1, d2, 0⟩ = true := good_eq0.trans (gt g25_4 (of_decide_eq_true c32_5))
              have e1 := hx1.2.symm.trans (pickS_good (w0 := w0) (w1 := w1) (w2 := w2) ha hg)
              rw [pickN_some ha, ha, e1]
            · have hf47 := hf40.know 32 (u := .bool false) rfl (congrArg Value.bool c32_5)
              refine wp_skip ?_
              refine then_normal ?_
              refine seq_start (l := [0, 1, 2]) rfl ?_
              refine seq_one (op_val (v := .agg #[.int .i64 w0, .int .i64 w1, .int .i64 w2, .int .i64 d0, .int .i64 d1, .int .i64 d2, .int .i64 0]) hf47 rfl rfl rfl rfl rfl rfl (r_loadW ag_29 sz_29 rfl (hI10.at 0 rfl) rfl) fun ac41 hf48 => ?_)
              refine seq_one (op_pure hf48 rfl rfl rfl rfl ca_21 (next_pur0 w0 w1 w2 d0 d1 d2 hv hx1.1) hI10 fun ac42 wd7 hI14 hf49 => ?_)
              refine seq_one (op_storeW (cells := #[.int .i64 w0, .int .i64 w1, .int .i64 w2, .int .i64 d0, .int .i64 (mn2 d1 w1), .int .i64 d2, .int .i64 1]) 0 hf49 rfl rfl rfl rfl rfl sz_29 rfl rfl hI14 rfl rfl fun wd8 hI15 => ?_)
              have hI16 : Inv w [(b1, #[.int .i64 w0, .int .i64 w1, .int .i64 w2, .int .i64 d0, .int .i64 (mn2 d1 w1), .int .i64 d2, .int .i64 1], 29), (b2, #[.bool h0, .bool h1, .bool h2], 33), (b3, #[.int .i64 0, .int .i64 0, .int .i64 0, .int .i64 0, .int .i64 0, .int .i64 0, .int .i64 0], 29)] wd8 := hI15
              refine seq_end ?_
              clear hf40 ac35 hf47 ac41 wd5 hI10 hf48 wd7 hI14 hI15
              refine block_normal ?_
              refine then_normal ?_
              have hg : good h0 h1 h2 ⟨d0, d1, d2, 0⟩ = false := (good_eq0.trans (gf (.inr (Int.not_lt.1 (of_decide_eq_false c32_5)))))
              exact ⟨(d0, mn2 d1 w1, d2, 1), (hf49.cons 0 rfl (hf49.cons 1 rfl (hf49.cons 2 rfl (hf49.cons 3 rfl (hf49.cons 4 rfl (hf49.cons 7 rfl (hf49.cons 8 rfl (hf49.cons 9 rfl (hf49.cons 10 rfl (hf49.cons 11 rfl (hf49.cons 12 rfl (hf49.cons 13 rfl (hf49.cons 14 rfl (hf49.cons 15 rfl (hf49.cons 16 rfl (hf49.cons 17 rfl (hf49.cons 18 rfl (hf49.cons 19 rfl hf49.nil)))))))))))))))))), ⟨hI16, ⟨nxt_ok (s := ⟨d0, d1, d2, 0⟩) hv hx1.1, (pickS_step (s := ⟨d0, d1, d2, 0⟩) (w0 := w0) (w1 := w1) (w2 := w2) ha hv (.inl rfl) hg).symm.trans hx1.2⟩⟩, meas_lt (s := ⟨d0, d1, d2, 0⟩) (w0 := w0) (w1 := w1) (w2 := w2) ha hv (.inl rfl) hg⟩
          · have hf50 := hf32.know 25 (u := .bool false) rfl (congrArg Value.bool g25_4)
            refine seq_one (op_skip hf50 rfl rfl rfl rfl fun ac43 hf51 => ?_)
            refine seq_one (op_skip hf51 rfl rfl rfl rfl fun ac44 hf52 => ?_)
            refine seq_one (op_skip hf52 rfl rfl rfl rfl fun ac45 hf53 => ?_)
            refine seq_one (op_skip hf53 rfl rfl rfl rfl fun ac46 hf54 => ?_)
            refine seq_one (op_skip hf54 rfl rfl rfl rfl fun ac47 hf55 => ?_)
            refine seq_one (op_skip hf55 rfl rfl rfl rfl fun ac48 hf56 => ?_)
            refine seq_one (op_val (v := .bool false) hf56 rfl rfl rfl rfl rfl rfl (r_pickF rfl rfl) fun ac49 hf57 => ?_)
            refine seq_end ?_
            clear ac23 hf27 ac24 hf28 ac25 hf29 ac26 hf30 ac27 hf31 hf32 ac28 hf50 ac43 hf51 ac44 hf52 ac45 hf53 ac46 hf54 ac47 hf55 ac48 hf56
            refine then_normal ?_
            refine code_if_false hf57 rfl ?_
            refine wp_skip ?_
            refine then_normal ?_
            refine seq_start (l := [0, 1, 2]) rfl ?_
            refine seq_one (op_val (v := .agg #[.int .i64 w0, .int .i64 w1, .int .i64 w2, .int .i64 d0, .int .i64 d1, .int .i64 d2, .int .i64 0]) hf57 rfl rfl rfl rfl rfl rfl (r_loadW ag_29 sz_29 rfl (hI10.at 0 rfl) rfl) fun ac50 hf58 => ?_)
            refine seq_one (op_pure hf58 rfl rfl rfl rfl ca_21 (next_pur0 w0 w1 w2 d0 d1 d2 hv hx1.1) hI10 fun ac51 wd9 hI17 hf59 => ?_)
            refine seq_one (op_storeW (cells := #[.int .i64 w0, .int .i64 w1, .int .i64 w2, .int .i64 d0, .int .i64 (mn2 d1 w1), .int .i64 d2, .int .i64 1]) 0 hf59 rfl rfl rfl rfl rfl sz_29 rfl rfl hI17 rfl rfl fun wd10 hI18 => ?_)
            have hI19 : Inv w [(b1, #[.int .i64 w0, .int .i64 w1, .int .i64 w2, .int .i64 d0, .int .i64 (mn2 d1 w1), .int .i64 d2, .int .i64 1], 29), (b2, #[.bool h0, .bool h1, .bool h2], 33), (b3, #[.int .i64 0, .int .i64 0, .int .i64 0, .int .i64 0, .int .i64 0, .int .i64 0, .int .i64 0], 29)] wd10 := hI18
            refine seq_end ?_
            clear ac49 hf57 ac50 wd5 hI10 hf58 wd9 hI17 hI18
            refine block_normal ?_
            refine then_normal ?_
            have hg : good h0 h1 h2 ⟨d0, d1, d2, 0⟩ = false := (good_eq0.trans (gf (.inl g25_4)))
            exact ⟨(d0, mn2 d1 w1, d2, 1), (hf59.cons 0 rfl (hf59.cons 1 rfl (hf59.cons 2 rfl (hf59.cons 3 rfl (hf59.cons 4 rfl (hf59.cons 7 rfl (hf59.cons 8 rfl (hf59.cons 9 rfl (hf59.cons 10 rfl (hf59.cons 11 rfl (hf59.cons 12 rfl (hf59.cons 13 rfl (hf59.cons 14 rfl (hf59.cons 15 rfl (hf59.cons 16 rfl (hf59.cons 17 rfl (hf59.cons 18 rfl (hf59.cons 19 rfl hf59.nil)))))))))))))))))), ⟨hI19, ⟨nxt_ok (s := ⟨d0, d1, d2, 0⟩) hv hx1.1, (pickS_step (s := ⟨d0, d1, d2, 0⟩) (w0 := w0) (w1 := w1) (w2 := w2) ha hv (.inl rfl) hg).symm.trans hx1.2⟩⟩, meas_lt (s := ⟨d0, d1, d2, 0⟩) (w0 := w0) (w1 := w1) (w2 := w2) ha hv (.inl rfl) hg⟩
        ·
          refine wp_block ?_
          refine code_seq ?_
          refine code_seq ?_
          refine seq_start (l := [0, 1, 2, 3, 4, 5, 6, 7, 8, 9, 10, 11]) rfl ?_
          refine seq_one (op_val (v := .pointer (some ⟨b1, 6, none⟩)) hf27 rfl rfl rfl rfl rfl rfl (r_fieldAddr fi_29_2 rfl rfl) fun ac52 hf60 => ?_)
          refine seq_one (op_val (v := .int .i64 1) hf60 rfl rfl rfl rfl rfl rfl (r_load ag_3 rfl (hI10.at 0 rfl) rfl) fun ac53 hf61 => ?_)
          refine seq_one (op_val (v := .pointer (some ⟨b2, 1, none⟩)) hf61 rfl rfl rfl rfl rfl rfl (r_indexAddr (i := 1) ar_33 rfl rfl rfl (by decide) rfl) fun ac54 hf62 => ?_)
          refine seq_one (op_val (v := .bool h1) hf62 rfl rfl rfl rfl rfl rfl (r_load ag_4 rfl (hI10.at 1 rfl) rfl) fun ac55 hf63 => ?_)
          refine seq_one (op_val (v := .bool h1) hf63 rfl rfl rfl rfl rfl rfl (r_move rfl) fun ac56 hf64 => ?_)
          rcases Bool.eq_false_or_eq_true (h1 : Bool) with g25_6 | g25_6
          · have hf65 := hf64.know 25 (u := .bool true) rfl (congrArg Value.bool g25_6)
            refine seq_one (op_val (v := .pointer (some ⟨b1, 6, none⟩)) hf65 rfl rfl rfl rfl rfl rfl (r_fieldAddr fi_29_2 rfl rfl) fun ac57 hf66 => ?_)
            refine seq_one (op_val (v := .int .i64 1) hf66 rfl rfl rfl rfl rfl rfl (r_load ag_3 rfl (hI10.at 0 rfl) rfl) fun ac58 hf67 => ?_)
            refine seq_one (op_val (v := .pointer (some ⟨b1, 3, none⟩)) hf67 rfl rfl rfl rfl rfl rfl (r_fieldAddr fi_29_1 rfl rfl) fun ac59 hf68 => ?_)
            refine seq_one (op_val (v := .pointer (some ⟨b1, 4, none⟩)) hf68 rfl rfl rfl rfl rfl rfl (r_indexAddr (i := 1) ar_22 rfl rfl rfl (by decide) rfl) fun ac60 hf69 => ?_)
            refine seq_one (op_val (v := .int .i64 d1) hf69 rfl rfl rfl rfl rfl rfl (r_load ag_3 rfl (hI10.at 0 rfl) rfl) fun ac61 hf70 => ?_)
            refine seq_one (op_val (v := .bool (decide (d1 > 0))) hf70 rfl rfl rfl rfl rfl rfl (r_gtr rfl rfl) fun ac62 hf71 => ?_)
            refine seq_one (op_val (v := .bool (decide (d1 > 0))) hf71 rfl rfl rfl rfl rfl rfl (r_pickT rfl rfl) fun ac63 hf72 => ?_)
            refine seq_end ?_
            clear ac23 hf27 ac52 hf60 ac53 hf61 ac54 hf62 ac55 hf63 hf64 ac56 hf65 ac57 hf66 ac58 hf67 ac59 hf68 ac60 hf69 ac61 hf70 ac62 hf71
            refine then_normal ?_
            refine code_if hf72 rfl (fun c32_7 => ?_) (fun c32_7 => ?_)
            · have hf73 := hf72.know 32 (u := .bool true) rfl (congrArg Value.bool c32_7)
              refine code_seq ?_
              refine any_start (fun w => Has [(b1, #[.int .i64 w0, .int .i64 w1, .int .i64 w2, .int .i64 d0, .int .i64 d1, .int .i64 d2, .int .i64 1], 29)] w) follows (Has.drew (Has.cons (hI10.at 0 rfl) Has.nil)) ?_
              have hS3 : Has [(b1, #[.int .i64 w0, .int .i64 w1, .int .i64 w2, .int .i64 d0, .int .i64 d1, .int .i64 d2, .int .i64 1], 29)] _ := Has.drew (Has.cons (hI10.at 0 rfl) Has.nil)
              have hI20 := hI10.drew
              refine any_val (i := 0) (v := .agg #[.int .i64 w0, .int .i64 w1, .int .i64 w2, .int .i64 d0, .int .i64 d1, .int .i64 d2, .int .i64 1]) hf73 rfl rfl rfl rfl rfl rfl (fun _ _ _ h => h) (by kernel_rfl) (by kernel_rfl) (by kernel_rfl) (fun wd5 hS3 => (r_loadW ag_29 sz_29 rfl (hS3.at 0 rfl) rfl)) hS3 fun ac64 hf74 => ?_
              refine any_val (i := 1) (v := .pointer (some ⟨b1, 6, none⟩)) hf74 rfl rfl rfl rfl rfl rfl (fun _ _ _ h => h) (by kernel_rfl) (by kernel_rfl) (by kernel_rfl) (fun wd5 hS3 => (r_fieldAddr fi_29_2 rfl rfl)) hS3 fun ac65 hf75 => ?_
              refine any_val (i := 2) (v := .int .i64 1) hf75 rfl rfl rfl rfl rfl rfl (fun _ _ _ h => h) (by kernel_rfl) (by kernel_rfl) (by kernel_rfl) (fun wd5 hS3 => (r_load ag_3 rfl (hS3.at 0 rfl) rfl)) hS3 fun ac66 hf76 => ?_
              refine any_one (i := 3) (by kernel_rfl) ?_
              refine (op_storeW (cells := #[.int .i64 w0, .int .i64 w1, .int .i64 w2, .int .i64 d0, .int .i64 d1, .int .i64 d2, .int .i64 1]) 2 hf76 rfl rfl rfl rfl rfl sz_29 rfl rfl hI20 rfl rfl fun wd11 hI21 => ⟨?_, ?_⟩)
              · exact (Has.cons (hI21.at 0 rfl) Has.nil)
              have hI22 : Inv w [(b1, #[.int .i64 w0, .int .i64 w1, .int .i64 w2, .int .i64 d0, .int .i64 d1, .int .i64 d2, .int .i64 1], 29), (b2, #[.bool h0, .bool h1, .bool h2], 33), (b3, #[.int .i64 w0, .int .i64 w1, .int .i64 w2, .int .i64 d0, .int .i64 d1, .int .i64 d2, .int .i64 1], 29)] wd11 := hI21
              have hS4 : Has [(b1, #[.int .i64 w0, .int .i64 w1, .int .i64 w2, .int .i64 d0, .int .i64 d1, .int .i64 d2, .int .i64 1], 29)] _ := (Has.cons (hI22.at 0 rfl) Has.nil)
              refine any_val (i := 4) (v := .int .i64 1) hf76 rfl rfl rfl rfl rfl rfl (fun _ _ _ h => h) (by kernel_rfl) (by kernel_rfl) (by kernel_rfl) (fun wd11 hS4 => (r_assign rfl)) hS4 fun ac67 hf77 => ?_
              refine any_val (i := 5) (v := .bool true) hf77 rfl rfl rfl rfl rfl rfl (fun _ _ _ h => h) (by kernel_rfl) (by kernel_rfl) (by kernel_rfl) (fun wd11 hS4 => (r_assign rfl)) hS4 fun ac68 hf78 => ?_
              refine any_end (by kernel_rfl) ?_
              clear hf72 hI10 ac63 hf73 ac64 hf74 ac65 hf75 wd5 hI20 hI21 hS3 ac66 hf76 ac67 hf77 hS4
              refine then_normal ?_
              refine wp_ret ?_
              refine then_ret ?_
              refine block_ret ?_
              refine then_ret ?_
              refine block_ret ?_
              refine postC2 rfl hf78 rfl ag_29 sz_29 (hI22.at 2 rfl) rfl rfl rfl ⟨?_, hI22.done (fresh_keys (ks := [b1, b2, b3]) rfl (fk_cons hb1 (fk_cons hb2 (fk_cons hb3 fk_nil))))⟩
              have hg : good h0 h1 h2 ⟨d0, d1, d2, 1⟩ = true := good_eq1.trans (gt g25_6 (of_decide_eq_true c32_7))
              have e1 := hx1.2.symm.trans (pickS_good (w0 := w0) (w1 := w1) (w2 := w2) ha hg)
              rw [pickN_some ha, ha, e1]
            · have hf79 := hf72.know 32 (u := .bool false) rfl (congrArg Value.bool c32_7)
              refine wp_skip ?_
              refine then_normal ?_
              refine seq_start (l := [0, 1, 2]) rfl ?_
              refine seq_one (op_val (v := .agg #[.int .i64 w0, .int .i64 w1, .int .i64 w2, .int .i64 d0, .int .i64 d1, .int .i64 d2, .int .i64 1]) hf79 rfl rfl rfl rfl rfl rfl (r_loadW ag_29 sz_29 rfl (hI10.at 0 rfl) rfl) fun ac69 hf80 => ?_)
              refine seq_one (op_pure hf80 rfl rfl rfl rfl ca_21 (next_pur1 w0 w1 w2 d0 d1 d2 hv hx1.1) hI10 fun ac70 wd12 hI23 hf81 => ?_)
              refine seq_one (op_storeW (cells := #[.int .i64 w0, .int .i64 w1, .int .i64 w2, .int .i64 d0, .int .i64 d1, .int .i64 (mn2 d2 w2), .int .i64 2]) 0 hf81 rfl rfl rfl rfl rfl sz_29 rfl rfl hI23 rfl rfl fun wd13 hI24 => ?_)
              have hI25 : Inv w [(b1, #[.int .i64 w0, .int .i64 w1, .int .i64 w2, .int .i64 d0, .int .i64 d1, .int .i64 (mn2 d2 w2), .int .i64 2], 29), (b2, #[.bool h0, .bool h1, .bool h2], 33), (b3, #[.int .i64 0, .int .i64 0, .int .i64 0, .int .i64 0, .int .i64 0, .int .i64 0, .int .i64 0], 29)] wd13 := hI24
              refine seq_end ?_
              clear hf72 ac63 hf79 ac69 wd5 hI10 hf80 wd12 hI23 hI24
              refine block_normal ?_
              refine then_normal ?_
              have hg : good h0 h1 h2 ⟨d0, d1, d2, 1⟩ = false := (good_eq1.trans (gf (.inr (Int.not_lt.1 (of_decide_eq_false c32_7)))))
              exact ⟨(d0, d1, mn2 d2 w2, 2), (hf81.cons 0 rfl (hf81.cons 1 rfl (hf81.cons 2 rfl (hf81.cons 3 rfl (hf81.cons 4 rfl (hf81.cons 7 rfl (hf81.cons 8 rfl (hf81.cons 9 rfl (hf81.cons 10 rfl (hf81.cons 11 rfl (hf81.cons 12 rfl (hf81.cons 13 rfl (hf81.cons 14 rfl (hf81.cons 15 rfl (hf81.cons 16 rfl (hf81.cons 17 rfl (hf81.cons 18 rfl (hf81.cons 19 rfl hf81.nil)))))))))))))))))), ⟨hI25, ⟨nxt_ok (s := ⟨d0, d1, d2, 1⟩) hv hx1.1, (pickS_step (s := ⟨d0, d1, d2, 1⟩) (w0 := w0) (w1 := w1) (w2 := w2) ha hv (.inr (.inl rfl)) hg).symm.trans hx1.2⟩⟩, meas_lt (s := ⟨d0, d1, d2, 1⟩) (w0 := w0) (w1 := w1) (w2 := w2) ha hv (.inr (.inl rfl)) hg⟩
          · have hf82 := hf64.know 25 (u := .bool false) rfl (congrArg Value.bool g25_6)
            refine seq_one (op_skip hf82 rfl rfl rfl rfl fun ac71 hf83 => ?_)
            refine seq_one (op_skip hf83 rfl rfl rfl rfl fun ac72 hf84 => ?_)
            refine seq_one (op_skip hf84 rfl rfl rfl rfl fun ac73 hf85 => ?_)
            refine seq_one (op_skip hf85 rfl rfl rfl rfl fun ac74 hf86 => ?_)
            refine seq_one (op_skip hf86 rfl rfl rfl rfl fun ac75 hf87 => ?_)
            refine seq_one (op_skip hf87 rfl rfl rfl rfl fun ac76 hf88 => ?_)
            refine seq_one (op_val (v := .bool false) hf88 rfl rfl rfl rfl rfl rfl (r_pickF rfl rfl) fun ac77 hf89 => ?_)
            refine seq_end ?_
            clear ac23 hf27 ac52 hf60 ac53 hf61 ac54 hf62 ac55 hf63 hf64 ac56 hf82 ac71 hf83 ac72 hf84 ac73 hf85 ac74 hf86 ac75 hf87 ac76 hf88
            refine then_normal ?_
            refine code_if_false hf89 rfl ?_
            refine wp_skip ?_
            refine then_normal ?_
            refine seq_start (l := [0, 1, 2]) rfl ?_
            refine seq_one (op_val (v := .agg #[.int .i64 w0, .int .i64 w1, .int .i64 w2, .int .i64 d0, .int .i64 d1, .int .i64 d2, .int .i64 1]) hf89 rfl rfl rfl rfl rfl rfl (r_loadW ag_29 sz_29 rfl (hI10.at 0 rfl) rfl) fun ac78 hf90 => ?_)
            refine seq_one (op_pure hf90 rfl rfl rfl rfl ca_21 (next_pur1 w0 w1 w2 d0 d1 d2 hv hx1.1) hI10 fun ac79 wd14 hI26 hf91 => ?_)
            refine seq_one (op_storeW (cells := #[.int .i64 w0, .int .i64 w1, .int .i64 w2, .int .i64 d0, .int .i64 d1, .int .i64 (mn2 d2 w2), .int .i64 2]) 0 hf91 rfl rfl rfl rfl rfl sz_29 rfl rfl hI26 rfl rfl fun wd15 hI27 => ?_)
            have hI28 : Inv w [(b1, #[.int .i64 w0, .int .i64 w1, .int .i64 w2, .int .i64 d0, .int .i64 d1, .int .i64 (mn2 d2 w2), .int .i64 2], 29), (b2, #[.bool h0, .bool h1, .bool h2], 33), (b3, #[.int .i64 0, .int .i64 0, .int .i64 0, .int .i64 0, .int .i64 0, .int .i64 0, .int .i64 0], 29)] wd15 := hI27
            refine seq_end ?_
            clear ac77 hf89 ac78 wd5 hI10 hf90 wd14 hI26 hI27
            refine block_normal ?_
            refine then_normal ?_
            have hg : good h0 h1 h2 ⟨d0, d1, d2, 1⟩ = false := (good_eq1.trans (gf (.inl g25_6)))
            exact ⟨(d0, d1, mn2 d2 w2, 2), (hf91.cons 0 rfl (hf91.cons 1 rfl (hf91.cons 2 rfl (hf91.cons 3 rfl (hf91.cons 4 rfl (hf91.cons 7 rfl (hf91.cons 8 rfl (hf91.cons 9 rfl (hf91.cons 10 rfl (hf91.cons 11 rfl (hf91.cons 12 rfl (hf91.cons 13 rfl (hf91.cons 14 rfl (hf91.cons 15 rfl (hf91.cons 16 rfl (hf91.cons 17 rfl (hf91.cons 18 rfl (hf91.cons 19 rfl hf91.nil)))))))))))))))))), ⟨hI28, ⟨nxt_ok (s := ⟨d0, d1, d2, 1⟩) hv hx1.1, (pickS_step (s := ⟨d0, d1, d2, 1⟩) (w0 := w0) (w1 := w1) (w2 := w2) ha hv (.inr (.inl rfl)) hg).symm.trans hx1.2⟩⟩, meas_lt (s := ⟨d0, d1, d2, 1⟩) (w0 := w0) (w1 := w1) (w2 := w2) ha hv (.inr (.inl rfl)) hg⟩
        ·
          refine wp_block ?_
          refine code_seq ?_
          refine code_seq ?_
          refine seq_start (l := [0, 1, 2, 3, 4, 5, 6, 7, 8, 9, 10, 11]) rfl ?_
          refine seq_one (op_val (v := .pointer (some ⟨b1, 6, none⟩)) hf27 rfl rfl rfl rfl rfl rfl (r_fieldAddr fi_29_2 rfl rfl) fun ac80 hf92 => ?_)
          refine seq_one (op_val (v := .int .i64 2) hf92 rfl rfl rfl rfl rfl rfl (r_load ag_3 rfl (hI10.at 0 rfl) rfl) fun ac81 hf93 => ?_)
          refine seq_one (op_val (v := .pointer (some ⟨b2, 2, none⟩)) hf93 rfl rfl rfl rfl rfl rfl (r_indexAddr (i := 2) ar_33 rfl rfl rfl (by decide) rfl) fun ac82 hf94 => ?_)
          refine seq_one (op_val (v := .bool h2) hf94 rfl rfl rfl rfl rfl rfl (r_load ag_4 rfl (hI10.at 1 rfl) rfl) fun ac83 hf95 => ?_)
          refine seq_one (op_val (v := .bool h2) hf95 rfl rfl rfl rfl rfl rfl (r_move rfl) fun ac84 hf96 => ?_)
          rcases Bool.eq_false_or_eq_true (h2 : Bool) with g25_8 | g25_8
          · have hf97 := hf96.know 25 (u := .bool true) rfl (congrArg Value.bool g25_8)
            refine seq_one (op_val (v := .pointer (some ⟨b1, 6, none⟩)) hf97 rfl rfl rfl rfl rfl rfl (r_fieldAddr fi_29_2 rfl rfl) fun ac85 hf98 => ?_)
            refine seq_one (op_val (v := .int .i64 2) hf98 rfl rfl rfl rfl rfl rfl (r_load ag_3 rfl (hI10.at 0 rfl) rfl) fun ac86 hf99 => ?_)
            refine seq_one (op_val (v := .pointer (some ⟨b1, 3, none⟩)) hf99 rfl rfl rfl rfl rfl rfl (r_fieldAddr fi_29_1 rfl rfl) fun ac87 hf100 => ?_)
            refine seq_one (op_val (v := .pointer (some ⟨b1, 5, none⟩)) hf100 rfl rfl rfl rfl rfl rfl (r_indexAddr (i := 2) ar_22 rfl rfl rfl (by decide) rfl) fun ac88 hf101 => ?_)
            refine seq_one (op_val (v := .int .i64 d2) hf101 rfl rfl rfl rfl rfl rfl (r_load ag_3 rfl (hI10.at 0 rfl) rfl) fun ac89 hf102 => ?_)
            refine seq_one (op_val (v := .bool (decide (d2 > 0))) hf102 rfl rfl rfl rfl rfl rfl (r_gtr rfl rfl) fun ac90 hf103 => ?_)
            refine seq_one (op_val (v := .bool (decide (d2 > 0))) hf103 rfl rfl rfl rfl rfl rfl (r_pickT rfl rfl) fun ac91 hf104 => ?_)
            refine seq_end ?_
            clear ac23 hf27 ac80 hf92 ac81 hf93 ac82 hf94 ac83 hf95 hf96 ac84 hf97 ac85 hf98 ac86 hf99 ac87 hf100 ac88 hf101 ac89 hf102 ac90 hf103
            refine then_normal ?_
            refine code_if hf104 rfl (fun c32_9 => ?_) (fun c32_9 => ?_)
            · have hf105 := hf104.know 32 (u := .bool true) rfl (congrArg Value.bool c32_9)
              refine code_seq ?_
              refine any_start (fun w => Has [(b1, #[.int .i64 w0, .int .i64 w1, .int .i64 w2, .int .i64 d0, .int .i64 d1, .int .i64 d2, .int .i64 2], 29)] w) follows (Has.drew (Has.cons (hI10.at 0 rfl) Has.nil)) ?_
              have hS5 : Has [(b1, #[.int .i64 w0, .int .i64 w1, .int .i64 w2, .int .i64 d0, .int .i64 d1, .int .i64 d2, .int .i64 2], 29)] _ := Has.drew (Has.cons (hI10.at 0 rfl) Has.nil)
              have hI29 := hI10.drew
              refine any_val (i := 0) (v := .agg #[.int .i64 w0, .int .i64 w1, .int .i64 w2, .int .i64 d0, .int .i64 d1, .int .i64 d2, .int .i64 2]) hf105 rfl rfl rfl rfl rfl rfl (fun _ _ _ h => h) (by kernel_rfl) (by kernel_rfl) (by kernel_rfl) (fun wd5 hS5 => (r_loadW ag_29 sz_29 rfl (hS5.at 0 rfl) rfl)) hS5 fun ac92 hf106 => ?_
              refine any_val (i := 1) (v := .pointer (some ⟨b1, 6, none⟩)) hf106 rfl rfl rfl rfl rfl rfl (fun _ _ _ h => h) (by kernel_rfl) (by kernel_rfl) (by kernel_rfl) (fun wd5 hS5 => (r_fieldAddr fi_29_2 rfl rfl)) hS5 fun ac93 hf107 => ?_
              refine any_val (i := 2) (v := .int .i64 2) hf107 rfl rfl rfl rfl rfl rfl (fun _ _ _ h => h) (by kernel_rfl) (by kernel_rfl) (by kernel_rfl) (fun wd5 hS5 => (r_load ag_3 rfl (hS5.at 0 rfl) rfl)) hS5 fun ac94 hf108 => ?_
              refine any_one (i := 3) (by kernel_rfl) ?_
              refine (op_storeW (cells := #[.int .i64 w0, .int .i64 w1, .int .i64 w2, .int .i64 d0, .int .i64 d1, .int .i64 d2, .int .i64 2]) 2 hf108 rfl rfl rfl rfl rfl sz_29 rfl rfl hI29 rfl rfl fun wd16 hI30 => ⟨?_, ?_⟩)
              · exact (Has.cons (hI30.at 0 rfl) Has.nil)
              have hI31 : Inv w [(b1, #[.int .i64 w0, .int .i64 w1, .int .i64 w2, .int .i64 d0, .int .i64 d1, .int .i64 d2, .int .i64 2], 29), (b2, #[.bool h0, .bool h1, .bool h2], 33), (b3, #[.int .i64 w0, .int .i64 w1, .int .i64 w2, .int .i64 d0, .int .i64 d1, .int .i64 d2, .int .i64 2], 29)] wd16 := hI30
              have hS6 : Has [(b1, #[.int .i64 w0, .int .i64 w1, .int .i64 w2, .int .i64 d0, .int .i64 d1, .int .i64 d2, .int .i64 2], 29)] _ := (Has.cons (hI31.at 0 rfl) Has.nil)
              refine any_val (i := 4) (v := .int .i64 2) hf108 rfl rfl rfl rfl rfl rfl (fun _ _ _ h => h) (by kernel_rfl) (by kernel_rfl) (by kernel_rfl) (fun wd16 hS6 => (r_assign rfl)) hS6 fun ac95 hf109 => ?_
              refine any_val (i := 5) (v := .bool true) hf109 rfl rfl rfl rfl rfl rfl (fun _ _ _ h => h) (by kernel_rfl) (by kernel_rfl) (by kernel_rfl) (fun wd16 hS6 => (r_assign rfl)) hS6 fun ac96 hf110 => ?_
              refine any_end (by kernel_rfl) ?_
              clear hf104 hI10 ac91 hf105 ac92 hf106 ac93 hf107 wd5 hI29 hI30 hS5 ac94 hf108 ac95 hf109 hS6
              refine then_normal ?_
              refine wp_ret ?_
              refine then_ret ?_
              refine block_ret ?_
              refine then_ret ?_
              refine block_ret ?_
              refine postC2 rfl hf110 rfl ag_29 sz_29 (hI31.at 2 rfl) rfl rfl rfl ⟨?_, hI31.done (fresh_keys (ks := [b1, b2, b3]) rfl (fk_cons hb1 (fk_cons hb2 (fk_cons hb3 fk_nil))))⟩
              have hg : good h0 h1 h2 ⟨d0, d1, d2, 2⟩ = true := good_eq2.trans (gt g25_8 (of_decide_eq_true c32_9))
              have e1 := hx1.2.symm.trans (pickS_good (w0 := w0) (w1 := w1) (w2 := w2) ha hg)
              rw [pickN_some ha, ha, e1]
            · have hf111 := hf104.know 32 (u := .bool false) rfl (congrArg Value.bool c32_9)
              refine wp_skip ?_
              refine then_normal ?_
              refine seq_start (l := [0, 1, 2]) rfl ?_
              refine seq_one (op_val (v := .agg #[.int .i64 w0, .int .i64 w1, .int .i64 w2, .int .i64 d0, .int .i64 d1, .int .i64 d2, .int .i64 2]) hf111 rfl rfl rfl rfl rfl rfl (r_loadW ag_29 sz_29 rfl (hI10.at 0 rfl) rfl) fun ac97 hf112 => ?_)
              refine seq_one (op_pure hf112 rfl rfl rfl rfl ca_21 (next_pur2 w0 w1 w2 d0 d1 d2 hv hx1.1) hI10 fun ac98 wd17 hI32 hf113 => ?_)
              refine seq_one (op_storeW (cells := #[.int .i64 w0, .int .i64 w1, .int .i64 w2, .int .i64 (mn2 d0 w0), .int .i64 d1, .int .i64 d2, .int .i64 0]) 0 hf113 rfl rfl rfl rfl rfl sz_29 rfl rfl hI32 rfl rfl fun wd18 hI33 => ?_)
              have hI34 : Inv w [(b1, #[.int .i64 w0, .int .i64 w1, .int .i64 w2, .int .i64 (mn2 d0 w0), .int .i64 d1, .int .i64 d2, .int .i64 0], 29), (b2, #[.bool h0, .bool h1, .bool h2], 33), (b3, #[.int .i64 0, .int .i64 0, .int .i64 0, .int .i64 0, .int .i64 0, .int .i64 0, .int .i64 0], 29)] wd18 := hI33
              refine seq_end ?_
              clear hf104 ac91 hf111 ac97 wd5 hI10 hf112 wd17 hI32 hI33
              refine block_normal ?_
              refine then_normal ?_
              have hg : good h0 h1 h2 ⟨d0, d1, d2, 2⟩ = false := (good_eq2.trans (gf (.inr (Int.not_lt.1 (of_decide_eq_false c32_9)))))
              exact ⟨(mn2 d0 w0, d1, d2, 0), (hf113.cons 0 rfl (hf113.cons 1 rfl (hf113.cons 2 rfl (hf113.cons 3 rfl (hf113.cons 4 rfl (hf113.cons 7 rfl (hf113.cons 8 rfl (hf113.cons 9 rfl (hf113.cons 10 rfl (hf113.cons 11 rfl (hf113.cons 12 rfl (hf113.cons 13 rfl (hf113.cons 14 rfl (hf113.cons 15 rfl (hf113.cons 16 rfl (hf113.cons 17 rfl (hf113.cons 18 rfl (hf113.cons 19 rfl hf113.nil)))))))))))))))))), ⟨hI34, ⟨nxt_ok (s := ⟨d0, d1, d2, 2⟩) hv hx1.1, (pickS_step (s := ⟨d0, d1, d2, 2⟩) (w0 := w0) (w1 := w1) (w2 := w2) ha hv (.inr (.inr rfl)) hg).symm.trans hx1.2⟩⟩, meas_lt (s := ⟨d0, d1, d2, 2⟩) (w0 := w0) (w1 := w1) (w2 := w2) ha hv (.inr (.inr rfl)) hg⟩
          · have hf114 := hf96.know 25 (u := .bool false) rfl (congrArg Value.bool g25_8)
            refine seq_one (op_skip hf114 rfl rfl rfl rfl fun ac99 hf115 => ?_)
            refine seq_one (op_skip hf115 rfl rfl rfl rfl fun ac100 hf116 => ?_)
            refine seq_one (op_skip hf116 rfl rfl rfl rfl fun ac101 hf117 => ?_)
            refine seq_one (op_skip hf117 rfl rfl rfl rfl fun ac102 hf118 => ?_)
            refine seq_one (op_skip hf118 rfl rfl rfl rfl fun ac103 hf119 => ?_)
            refine seq_one (op_skip hf119 rfl rfl rfl rfl fun ac104 hf120 => ?_)
            refine seq_one (op_val (v := .bool false) hf120 rfl rfl rfl rfl rfl rfl (r_pickF rfl rfl) fun ac105 hf121 => ?_)
            refine seq_end ?_
            clear ac23 hf27 ac80 hf92 ac81 hf93 ac82 hf94 ac83 hf95 hf96 ac84 hf114 ac99 hf115 ac100 hf116 ac101 hf117 ac102 hf118 ac103 hf119 ac104 hf120
            refine then_normal ?_
            refine code_if_false hf121 rfl ?_
            refine wp_skip ?_
            refine then_normal ?_
            refine seq_start (l := [0, 1, 2]) rfl ?_
            refine seq_one (op_val (v := .agg #[.int .i64 w0, .int .i64 w1, .int .i64 w2, .int .i64 d0, .int .i64 d1, .int .i64 d2, .int .i64 2]) hf121 rfl rfl rfl rfl rfl rfl (r_loadW ag_29 sz_29 rfl (hI10.at 0 rfl) rfl) fun ac106 hf122 => ?_)
            refine seq_one (op_pure hf122 rfl rfl rfl rfl ca_21 (next_pur2 w0 w1 w2 d0 d1 d2 hv hx1.1) hI10 fun ac107 wd19 hI35 hf123 => ?_)
            refine seq_one (op_storeW (cells := #[.int .i64 w0, .int .i64 w1, .int .i64 w2, .int .i64 (mn2 d0 w0), .int .i64 d1, .int .i64 d2, .int .i64 0]) 0 hf123 rfl rfl rfl rfl rfl sz_29 rfl rfl hI35 rfl rfl fun wd20 hI36 => ?_)
            have hI37 : Inv w [(b1, #[.int .i64 w0, .int .i64 w1, .int .i64 w2, .int .i64 (mn2 d0 w0), .int .i64 d1, .int .i64 d2, .int .i64 0], 29), (b2, #[.bool h0, .bool h1, .bool h2], 33), (b3, #[.int .i64 0, .int .i64 0, .int .i64 0, .int .i64 0, .int .i64 0, .int .i64 0, .int .i64 0], 29)] wd20 := hI36
            refine seq_end ?_
            clear ac105 hf121 ac106 wd5 hI10 hf122 wd19 hI35 hI36
            refine block_normal ?_
            refine then_normal ?_
            have hg : good h0 h1 h2 ⟨d0, d1, d2, 2⟩ = false := (good_eq2.trans (gf (.inl g25_8)))
            exact ⟨(mn2 d0 w0, d1, d2, 0), (hf123.cons 0 rfl (hf123.cons 1 rfl (hf123.cons 2 rfl (hf123.cons 3 rfl (hf123.cons 4 rfl (hf123.cons 7 rfl (hf123.cons 8 rfl (hf123.cons 9 rfl (hf123.cons 10 rfl (hf123.cons 11 rfl (hf123.cons 12 rfl (hf123.cons 13 rfl (hf123.cons 14 rfl (hf123.cons 15 rfl (hf123.cons 16 rfl (hf123.cons 17 rfl (hf123.cons 18 rfl (hf123.cons 19 rfl hf123.nil)))))))))))))))))), ⟨hI37, ⟨nxt_ok (s := ⟨d0, d1, d2, 2⟩) hv hx1.1, (pickS_step (s := ⟨d0, d1, d2, 2⟩) (w0 := w0) (w1 := w1) (w2 := w2) ha hv (.inr (.inr rfl)) hg).symm.trans hx1.2⟩⟩, meas_lt (s := ⟨d0, d1, d2, 2⟩) (w0 := w0) (w1 := w1) (w2 := w2) ha hv (.inr (.inr rfl)) hg⟩
    · have hf124 := hf16.know 15 (u := .bool false) rfl (congrArg Value.bool g15_2)
      refine seq_one (op_skip hf124 rfl rfl rfl rfl fun ac108 hf125 => ?_)
      refine seq_one (op_skip hf125 rfl rfl rfl rfl fun ac109 hf126 => ?_)
      refine seq_one (op_skip hf126 rfl rfl rfl rfl fun ac110 hf127 => ?_)
      refine seq_one (op_val (v := .bool false) hf127 rfl rfl rfl rfl rfl rfl (r_pickF rfl rfl) fun ac111 hf128 => ?_)
      refine seq_end ?_
      clear ac6 hf6 ac7 hf7 ac8 hf8 ac9 hf9 hf10 ac10 hf11 ac11 hf12 ac12 hf13 ac13 hf14 ac14 hf15 hf16 ac15 hf124 ac108 hf125 ac109 hf126 ac110 hf127
      refine then_normal ?_
      refine code_if_false hf128 rfl ?_
      refine wp_skip ?_
      refine then_normal ?_
      refine wp_block ?_
      have ha : (h0 || h1 || h2) = true := by simp only [Bool.not_eq_true', Bool.not_eq_false'] at g10_1 g15_2; simp [g10_1, g15_2]
      refine code_loop (α := Int × Int × Int × Int) (fun (x : Int × Int × Int × Int) => match x with | (d0, d1, d2, j) => [(0, .agg #[.int .i64 w0, .int .i64 w1, .int .i64 w2, .int .i64 c0, .int .i64 c1, .int .i64 c2, .int .i64 n]), (1, .agg #[.bool h0, .bool h1, .bool h2]), (2, .pointer (some ⟨b1, 0, none⟩)), (3, .pointer (some ⟨b2, 0, none⟩)), (4, .pointer (some ⟨b3, 0, none⟩)), (7, .pointer (some ⟨b2, 0, none⟩)), (8, .bool h0), (9, .bool (!h0)), (10, .bool true), (11, .pointer (some ⟨b2, 1, none⟩)), (12, .bool h1), (13, .bool (!h1)), (14, .bool (!h1)), (15, .bool false), (19, .bool false)]) (fun (x : Int × Int × Int × Int) => match x with | (d0, d1, d2, j) => fun wL => Inv w [(b1, #[.int .i64 w0, .int .i64 w1, .int .i64 w2, .int .i64 d0, .int .i64 d1, .int .i64 d2, .int .i64 j], 29), (b2, #[.bool h0, .bool h1, .bool h2], 33), (b3, #[.int .i64 0, .int .i64 0, .int .i64 0, .int .i64 0, .int .i64 0, .int .i64 0, .int .i64 0], 29)] wL ∧ (Ok w0 w1 w2 ⟨d0, d1, d2, j⟩ ∧ (pickS h0 h1 h2 w0 w1 w2 ⟨d0, d1, d2, j⟩ : St) = (pickS h0 h1 h2 w0 w1 w2 ⟨c0, c1, c2, n⟩ : St))) (fun (x : Int × Int × Int × Int) => match x with | (d0, d1, d2, j) => meas h0 h1 h2 ⟨d0, d1, d2, j⟩) (c0, c1, c2, n) (hf128.cons 0 rfl (hf128.cons 1 rfl (hf128.cons 2 rfl (hf128.cons 3 rfl (hf128.cons 4 rfl (hf128.cons 7 rfl (hf128.cons 8 rfl (hf128.cons 9 rfl (hf128.cons 10 rfl (hf128.cons 11 rfl (hf128.cons 12 rfl (hf128.cons 13 rfl (hf128.cons 14 rfl (hf128.cons 15 rfl (hf128.cons 19 rfl hf128.nil))))))))))))))) ⟨hI7, ⟨hs, rfl⟩⟩ ?_
      intro ⟨d0, d1, d2, j⟩ ac112 wd21 hf129 hL1
      obtain ⟨hI38, hx1⟩ := hL1
      dsimp only at hf129 hI38 hx1
      clear ac111 wd3 hf128 hI7
      have hj := hx1.1.n
      dsimp only at hj
      rcases hj with rfl | rfl | rfl
      ·
        refine wp_block ?_
        refine code_seq ?_
        refine code_seq ?_
        refine seq_start (l := [0, 1, 2, 3, 4, 5, 6, 7, 8, 9, 10, 11]) rfl ?_
        refine seq_one (op_val (v := .pointer (some ⟨b1, 6, none⟩)) hf129 rfl rfl rfl rfl rfl rfl (r_fieldAddr fi_29_2 rfl rfl) fun ac113 hf130 => ?_)
        refine seq_one (op_val (v := .int .i64 0) hf130 rfl rfl rfl rfl rfl rfl (r_load ag_3 rfl (hI38.at 0 rfl) rfl) fun ac114 hf131 => ?_)
        refine seq_one (op_val (v := .pointer (some ⟨b2, 0, none⟩)) hf131 rfl rfl rfl rfl rfl rfl (r_indexAddr (i := 0) ar_33 rfl rfl rfl (by decide) rfl) fun ac115 hf132 => ?_)
        refine seq_one (op_val (v := .bool h0) hf132 rfl rfl rfl rfl rfl rfl (r_load ag_4 rfl (hI38.at 1 rfl) rfl) fun ac116 hf133 => ?_)
        refine seq_one (op_val (v := .bool h0) hf133 rfl rfl rfl rfl rfl rfl (r_move rfl) fun ac117 hf134 => ?_)
        rcases Bool.eq_false_or_eq_true (h0 : Bool) with g25_10 | g25_10
        · have hf135 := hf134.know 25 (u := .bool true) rfl (congrArg Value.bool g25_10)
          refine seq_one (op_val (v := .pointer (some ⟨b1, 6, none⟩)) hf135 rfl rfl rfl rfl rfl rfl (r_fieldAddr fi_29_2 rfl rfl) fun ac118 hf136 => ?_)
          refine seq_one (op_val (v := .int .i64 0) hf136 rfl rfl rfl rfl rfl rfl (r_load ag_3 rfl (hI38.at 0 rfl) rfl) fun ac119 hf137 => ?_)
          refine seq_one (op_val (v := .pointer (some ⟨b1, 3, none⟩)) hf137 rfl rfl rfl rfl rfl rfl (r_fieldAddr fi_29_1 rfl rfl) fun ac120 hf138 => ?_)
          refine seq_one (op_val (v := .pointer (some ⟨b1, 3, none⟩)) hf138 rfl rfl rfl rfl rfl rfl (r_indexAddr (i := 0) ar_22 rfl rfl rfl (by decide) rfl) fun ac121 hf139 => ?_)
          refine seq_one (op_val (v := .int .i64 d0) hf139 rfl rfl rfl rfl rfl rfl (r_load ag_3 rfl (hI38.at 0 rfl) rfl) fun ac122 hf140 => ?_)
          refine seq_one (op_val (v := .bool (decide (d0 > 0))) hf140 rfl rfl rfl rfl rfl rfl (r_gtr rfl rfl) fun ac123 hf141 => ?_)
          refine seq_one (op_val (v := .bool (decide (d0 > 0))) hf141 rfl rfl rfl rfl rfl rfl (r_pickT rfl rfl) fun ac124 hf142 => ?_)
          refine seq_end ?_
          clear ac112 hf129 ac113 hf130 ac114 hf131 ac115 hf132 ac116 hf133 hf134 ac117 hf135 ac118 hf136 ac119 hf137 ac120 hf138 ac121 hf139 ac122 hf140 ac123 hf141
          refine then_normal ?_
          refine code_if hf142 rfl (fun c32_11 => ?_) (fun c32_11 => ?_)
          · have hf143 := hf142.know 32 (u := .bool true) rfl (congrArg Value.bool c32_11)
            refine code_seq ?_
            refine any_start (fun w => Has [(b1, #[.int .i64 w0, .int .i64 w1, .int .i64 w2, .int .i64 d0, .int .i64 d1, .int .i64 d2, .int .i64 0], 29)] w) follows (Has.drew (Has.cons (hI38.at 0 rfl) Has.nil)) ?_
            have hS7 : Has [(b1, #[.int .i64 w0, .int .i64 w1, .int .i64 w2, .int .i64 d0, .int .i64 d1, .int .i64 d2, .int .i64 0], 29)] _ := Has.drew (Has.cons (hI38.at 0 rfl) Has.nil)
            have hI39 := hI38.drew
            refine any_val (i := 0) (v := .agg #[.int .i64 w0, .int .i64 w1, .int .i64 w2, .int .i64 d0, .int .i64 d1, .int .i64 d2, .int .i64 0]) hf143 rfl rfl rfl rfl rfl rfl (fun _ _ _ h => h) (by kernel_rfl) (by kernel_rfl) (by kernel_rfl) (fun wd21 hS7 => (r_loadW ag_29 sz_29 rfl (hS7.at 0 rfl) rfl)) hS7 fun ac125 hf144 => ?_
            refine any_val (i := 1) (v := .pointer (some ⟨b1, 6, none⟩)) hf144 rfl rfl rfl rfl rfl rfl (fun _ _ _ h => h) (by kernel_rfl) (by kernel_rfl) (by kernel_rfl) (fun wd21 hS7 => (r_fieldAddr fi_29_2 rfl rfl)) hS7 fun ac126 hf145 => ?_
            refine any_val (i := 2) (v := .int .i64 0) hf145 rfl rfl rfl rfl rfl rfl (fun _ _ _ h => h) (by kernel_rfl) (by kernel_rfl) (by kernel_rfl) (fun wd21 hS7 => (r_load ag_3 rfl (hS7.at 0 rfl) rfl)) hS7 fun ac127 hf146 => ?_
            refine any_one (i := 3) (by kernel_rfl) ?_
            refine (op_storeW (cells := #[.int .i64 w0, .int .i64 w1, .int .i64 w2, .int .i64 d0, .int .i64 d1, .int .i64 d2, .int .i64 0]) 2 hf146 rfl rfl rfl rfl rfl sz_29 rfl rfl hI39 rfl rfl fun wd22 hI40 => ⟨?_, ?_⟩)
            · exact (Has.cons (hI40.at 0 rfl) Has.nil)
            have hI41 : Inv w [(b1, #[.int .i64 w0, .int .i64 w1, .int .i64 w2, .int .i64 d0, .int .i64 d1, .int .i64 d2, .int .i64 0], 29), (b2, #[.bool h0, .bool h1, .bool h2], 33), (b3, #[.int .i64 w0, .int .i64 w1, .int .i64 w2, .int .i64 d0, .int .i64 d1, .int .i64 d2, .int .i64 0], 29)] wd22 := hI40
            have hS8 : Has [(b1, #[.int .i64 w0, .int .i64 w1, .int .i64 w2, .int .i64 d0, .int .i64 d1, .int .i64 d2, .int .i64 0], 29)] _ := (Has.cons (hI41.at 0 rfl) Has.nil)
            refine any_val (i := 4) (v := .int .i64 0) hf146 rfl rfl rfl rfl rfl rfl (fun _ _ _ h => h) (by kernel_rfl) (by kernel_rfl) (by kernel_rfl) (fun wd22 hS8 => (r_assign rfl)) hS8 fun ac128 hf147 => ?_
            refine any_val (i := 5) (v := .bool true) hf147 rfl rfl rfl rfl rfl rfl (fun _ _ _ h => h) (by kernel_rfl) (by kernel_rfl) (by kernel_rfl) (fun wd22 hS8 => (r_assign rfl)) hS8 fun ac129 hf148 => ?_
            refine any_end (by kernel_rfl) ?_
            clear hf142 hI38 ac124 hf143 ac125 hf144 ac126 hf145 wd21 hI39 hI40 hS7 ac127 hf146 ac128 hf147 hS8
            refine then_normal ?_
            refine wp_ret ?_
            refine then_ret ?_
            refine block_ret ?_
            refine then_ret ?_
            refine block_ret ?_
            refine postC2 rfl hf148 rfl ag_29 sz_29 (hI41.at 2 rfl) rfl rfl rfl ⟨?_, hI41.done (fresh_keys (ks := [b1, b2, b3]) rfl (fk_cons hb1 (fk_cons hb2 (fk_cons hb3 fk_nil))))⟩
            have hg : good h0 h1 h2 ⟨d0, d1, d2, 0⟩ = true := good_eq0.trans (gt g25_10 (of_decide_eq_true c32_11))
            have e1 := hx1.2.symm.trans (pickS_good (w0 := w0) (w1 := w1) (w2 := w2) ha hg)
            rw [pickN_some ha, ha, e1]
          · have hf149 := hf142.know 32 (u := .bool false) rfl (congrArg Value.bool c32_11)
            refine wp_skip ?_
            refine then_normal ?_
            refine seq_start (l := [0, 1, 2]) rfl ?_
            refine seq_one (op_val (v := .agg #[.int .i64 w0, .int .i64 w1, .int .i64 w2, .int .i64 d0, .int .i64 d1, .int .i64 d2, .int .i64 0]) hf149 rfl rfl rfl rfl rfl rfl (r_loadW ag_29 sz_29 rfl (hI38.at 0 rfl) rfl) fun ac130 hf150 => ?_)
            refine seq_one (op_pure hf150 rfl rfl rfl rfl ca_21 (next_pur0 w0 w1 w2 d0 d1 d2 hv hx1.1) hI38 fun ac131 wd23 hI42 hf151 => ?_)
            refine seq_one (op_storeW (cells := #[.int .i64 w0, .int .i64 w1, .int .i64 w2, .int .i64 d0, .int .i64 (mn2 d1 w1), .int .i64 d2, .int .i64 1]) 0 hf151 rfl rfl rfl rfl rfl sz_29 rfl rfl hI42 rfl rfl fun wd24 hI43 => ?_)
            have hI44 : Inv w [(b1, #[.int .i64 w0, .int .i64 w1, .int .i64 w2, .int .i64 d0, .int .i64 (mn2 d1 w1), .int .i64 d2, .int .i64 1], 29), (b2, #[.bool h0, .bool h1, .bool h2], 33), (b3, #[.int .i64 0, .int .i64 0, .int .i64 0, .int .i64 0, .int .i64 0, .int .i64 0, .int .i64 0], 29)] wd24 := hI43
            refine seq_end ?_
            clear hf142 ac124 hf149 ac130 wd21 hI38 hf150 wd23 hI42 hI43
            refine block_normal ?_
            refine then_normal ?_
            have hg : good h0 h1 h2 ⟨d0, d1, d2, 0⟩ = false := (good_eq0.trans (gf (.inr (Int.not_lt.1 (of_decide_eq_false c32_11)))))
            exact ⟨(d0, mn2 d1 w1, d2, 1), (hf151.cons 0 rfl (hf151.cons 1 rfl (hf151.cons 2 rfl (hf151.cons 3 rfl (hf151.cons 4 rfl (hf151.cons 7 rfl (hf151.cons 8 rfl (hf151.cons 9 rfl (hf151.cons 10 rfl (hf151.cons 11 rfl (hf151.cons 12 rfl (hf151.cons 13 rfl (hf151.cons 14 rfl (hf151.cons 15 rfl (hf151.cons 19 rfl hf151.nil))))))))))))))), ⟨hI44, ⟨nxt_ok (s := ⟨d0, d1, d2, 0⟩) hv hx1.1, (pickS_step (s := ⟨d0, d1, d2, 0⟩) (w0 := w0) (w1 := w1) (w2 := w2) ha hv (.inl rfl) hg).symm.trans hx1.2⟩⟩, meas_lt (s := ⟨d0, d1, d2, 0⟩) (w0 := w0) (w1 := w1) (w2 := w2) ha hv (.inl rfl) hg⟩
        · have hf152 := hf134.know 25 (u := .bool false) rfl (congrArg Value.bool g25_10)
          refine seq_one (op_skip hf152 rfl rfl rfl rfl fun ac132 hf153 => ?_)
          refine seq_one (op_skip hf153 rfl rfl rfl rfl fun ac133 hf154 => ?_)
          refine seq_one (op_skip hf154 rfl rfl rfl rfl fun ac134 hf155 => ?_)
          refine seq_one (op_skip hf155 rfl rfl rfl rfl fun ac135 hf156 => ?_)
          refine seq_one (op_skip hf156 rfl rfl rfl rfl fun ac136 hf157 => ?_)
          refine seq_one (op_skip hf157 rfl rfl rfl rfl fun ac137 hf158 => ?_)
          refine seq_one (op_val (v := .bool false) hf158 rfl rfl rfl rfl rfl rfl (r_pickF rfl rfl) fun ac138 hf159 => ?_)
          refine seq_end ?_
          clear ac112 hf129 ac113 hf130 ac114 hf131 ac115 hf132 ac116 hf133 hf134 ac117 hf152 ac132 hf153 ac133 hf154 ac134 hf155 ac135 hf156 ac136 hf157 ac137 hf158
          refine then_normal ?_
          refine code_if_false hf159 rfl ?_
          refine wp_skip ?_
          refine then_normal ?_
          refine seq_start (l := [0, 1, 2]) rfl ?_
          refine seq_one (op_val (v := .agg #[.int .i64 w0, .int .i64 w1, .int .i64 w2, .int .i64 d0, .int .i64 d1, .int .i64 d2, .int .i64 0]) hf159 rfl rfl rfl rfl rfl rfl (r_loadW ag_29 sz_29 rfl (hI38.at 0 rfl) rfl) fun ac139 hf160 => ?_)
          refine seq_one (op_pure hf160 rfl rfl rfl rfl ca_21 (next_pur0 w0 w1 w2 d0 d1 d2 hv hx1.1) hI38 fun ac140 wd25 hI45 hf161 => ?_)
          refine seq_one (op_storeW (cells := #[.int .i64 w0, .int .i64 w1, .int .i64 w2, .int .i64 d0, .int .i64 (mn2 d1 w1), .int .i64 d2, .int .i64 1]) 0 hf161 rfl rfl rfl rfl rfl sz_29 rfl rfl hI45 rfl rfl fun wd26 hI46 => ?_)
          have hI47 : Inv w [(b1, #[.int .i64 w0, .int .i64 w1, .int .i64 w2, .int .i64 d0, .int .i64 (mn2 d1 w1), .int .i64 d2, .int .i64 1], 29), (b2, #[.bool h0, .bool h1, .bool h2], 33), (b3, #[.int .i64 0, .int .i64 0, .int .i64 0, .int .i64 0, .int .i64 0, .int .i64 0, .int .i64 0], 29)] wd26 := hI46
          refine seq_end ?_
          clear ac138 hf159 ac139 wd21 hI38 hf160 wd25 hI45 hI46
          refine block_normal ?_
          refine then_normal ?_
          have hg : good h0 h1 h2 ⟨d0, d1, d2, 0⟩ = false := (good_eq0.trans (gf (.inl g25_10)))
          exact ⟨(d0, mn2 d1 w1, d2, 1), (hf161.cons 0 rfl (hf161.cons 1 rfl (hf161.cons 2 rfl (hf161.cons 3 rfl (hf161.cons 4 rfl (hf161.cons 7 rfl (hf161.cons 8 rfl (hf161.cons 9 rfl (hf161.cons 10 rfl (hf161.cons 11 rfl (hf161.cons 12 rfl (hf161.cons 13 rfl (hf161.cons 14 rfl (hf161.cons 15 rfl (hf161.cons 19 rfl hf161.nil))))))))))))))), ⟨hI47, ⟨nxt_ok (s := ⟨d0, d1, d2, 0⟩) hv hx1.1, (pickS_step (s := ⟨d0, d1, d2, 0⟩) (w0 := w0) (w1 := w1) (w2 := w2) ha hv (.inl rfl) hg).symm.trans hx1.2⟩⟩, meas_lt (s := ⟨d0, d1, d2, 0⟩) (w0 := w0) (w1 := w1) (w2 := w2) ha hv (.inl rfl) hg⟩
      ·
        refine wp_block ?_
        refine code_seq ?_
        refine code_seq ?_
        refine seq_start (l := [0, 1, 2, 3, 4, 5, 6, 7, 8, 9, 10, 11]) rfl ?_
        refine seq_one (op_val (v := .pointer (some ⟨b1, 6, none⟩)) hf129 rfl rfl rfl rfl rfl rfl (r_fieldAddr fi_29_2 rfl rfl) fun ac141 hf162 => ?_)
        refine seq_one (op_val (v := .int .i64 1) hf162 rfl rfl rfl rfl rfl rfl (r_load ag_3 rfl (hI38.at 0 rfl) rfl) fun ac142 hf163 => ?_)
        refine seq_one (op_val (v := .pointer (some ⟨b2, 1, none⟩)) hf163 rfl rfl rfl rfl rfl rfl (r_indexAddr (i := 1) ar_33 rfl rfl rfl (by decide) rfl) fun ac143 hf164 => ?_)
        refine seq_one (op_val (v := .bool h1) hf164 rfl rfl rfl rfl rfl rfl (r_load ag_4 rfl (hI38.at 1 rfl) rfl) fun ac144 hf165 => ?_)
        refine seq_one (op_val (v := .bool h1) hf165 rfl rfl rfl rfl rfl rfl (r_move rfl) fun ac145 hf166 => ?_)
        rcases Bool.eq_false_or_eq_true (h1 : Bool) with g25_12 | g25_12
        · have hf167 := hf166.know 25 (u := .bool true) rfl (congrArg Value.bool g25_12)
          refine seq_one (op_val (v := .pointer (some ⟨b1, 6, none⟩)) hf167 rfl rfl rfl rfl rfl rfl (r_fieldAddr fi_29_2 rfl rfl) fun ac146 hf168 => ?_)
          refine seq_one (op_val (v := .int .i64 1) hf168 rfl rfl rfl rfl rfl rfl (r_load ag_3 rfl (hI38.at 0 rfl) rfl) fun ac147 hf169 => ?_)
          refine seq_one (op_val (v := .pointer (some ⟨b1, 3, none⟩)) hf169 rfl rfl rfl rfl rfl rfl (r_fieldAddr fi_29_1 rfl rfl) fun ac148 hf170 => ?_)
          refine seq_one (op_val (v := .pointer (some ⟨b1, 4, none⟩)) hf170 rfl rfl rfl rfl rfl rfl (r_indexAddr (i := 1) ar_22 rfl rfl rfl (by decide) rfl) fun ac149 hf171 => ?_)
          refine seq_one (op_val (v := .int .i64 d1) hf171 rfl rfl rfl rfl rfl rfl (r_load ag_3 rfl (hI38.at 0 rfl) rfl) fun ac150 hf172 => ?_)
          refine seq_one (op_val (v := .bool (decide (d1 > 0))) hf172 rfl rfl rfl rfl rfl rfl (r_gtr rfl rfl) fun ac151 hf173 => ?_)
          refine seq_one (op_val (v := .bool (decide (d1 > 0))) hf173 rfl rfl rfl rfl rfl rfl (r_pickT rfl rfl) fun ac152 hf174 => ?_)
          refine seq_end ?_
          clear ac112 hf129 ac141 hf162 ac142 hf163 ac143 hf164 ac144 hf165 hf166 ac145 hf167 ac146 hf168 ac147 hf169 ac148 hf170 ac149 hf171 ac150 hf172 ac151 hf173
          refine then_normal ?_
          refine code_if hf174 rfl (fun c32_13 => ?_) (fun c32_13 => ?_)
          · have hf175 := hf174.know 32 (u := .bool true) rfl (congrArg Value.bool c32_13)
            refine code_seq ?_
            refine any_start (fun w => Has [(b1, #[.int .i64 w0, .int .i64 w1, .int .i64 w2, .int .i64 d0, .int .i64 d1, .int .i64 d2, .int .i64 1], 29)] w) follows (Has.drew (Has.cons (hI38.at 0 rfl) Has.nil)) ?_
            have hS9 : Has [(b1, #[.int .i64 w0, .int .i64 w1, .int .i64 w2, .int .i64 d0, .int .i64 d1, .int .i64 d2, .int .i64 1], 29)] _ := Has.drew (Has.cons (hI38.at 0 rfl) Has.nil)
            have hI48 := hI38.drew
            refine any_val (i := 0) (v := .agg #[.int .i64 w0, .int .i64 w1, .int .i64 w2, .int .i64 d0, .int .i64 d1, .int .i64 d2, .int .i64 1]) hf175 rfl rfl rfl rfl rfl rfl (fun _ _ _ h => h) (by kernel_rfl) (by kernel_rfl) (by kernel_rfl) (fun wd21 hS9 => (r_loadW ag_29 sz_29 rfl (hS9.at 0 rfl) rfl)) hS9 fun ac153 hf176 => ?_
            refine any_val (i := 1) (v := .pointer (some ⟨b1, 6, none⟩)) hf176 rfl rfl rfl rfl rfl rfl (fun _ _ _ h => h) (by kernel_rfl) (by kernel_rfl) (by kernel_rfl) (fun wd21 hS9 => (r_fieldAddr fi_29_2 rfl rfl)) hS9 fun ac154 hf177 => ?_
            refine any_val (i := 2) (v := .int .i64 1) hf177 rfl rfl rfl rfl rfl rfl (fun _ _ _ h => h) (by kernel_rfl) (by kernel_rfl) (by kernel_rfl) (fun wd21 hS9 => (r_load ag_3 rfl (hS9.at 0 rfl) rfl)) hS9 fun ac155 hf178 => ?_
            refine any_one (i := 3) (by kernel_rfl) ?_
            refine (op_storeW (cells := #[.int .i64 w0, .int .i64 w1, .int .i64 w2, .int .i64 d0, .int .i64 d1, .int .i64 d2, .int .i64 1]) 2 hf178 rfl rfl rfl rfl rfl sz_29 rfl rfl hI48 rfl rfl fun wd27 hI49 => ⟨?_, ?_⟩)
            · exact (Has.cons (hI49.at 0 rfl) Has.nil)
            have hI50 : Inv w [(b1, #[.int .i64 w0, .int .i64 w1, .int .i64 w2, .int .i64 d0, .int .i64 d1, .int .i64 d2, .int .i64 1], 29), (b2, #[.bool h0, .bool h1, .bool h2], 33), (b3, #[.int .i64 w0, .int .i64 w1, .int .i64 w2, .int .i64 d0, .int .i64 d1, .int .i64 d2, .int .i64 1], 29)] wd27 := hI49
            have hS10 : Has [(b1, #[.int .i64 w0, .int .i64 w1, .int .i64 w2, .int .i64 d0, .int .i64 d1, .int .i64 d2, .int .i64 1], 29)] _ := (Has.cons (hI50.at 0 rfl) Has.nil)
            refine any_val (i := 4) (v := .int .i64 1) hf178 rfl rfl rfl rfl rfl rfl (fun _ _ _ h => h) (by kernel_rfl) (by kernel_rfl) (by kernel_rfl) (fun wd27 hS10 => (r_assign rfl)) hS10 fun ac156 hf179 => ?_
            refine any_val (i := 5) (v := .bool true) hf179 rfl rfl rfl rfl rfl rfl (fun _ _ _ h => h) (by kernel_rfl) (by kernel_rfl) (by kernel_rfl) (fun wd27 hS10 => (r_assign rfl)) hS10 fun ac157 hf180 => ?_
            refine any_end (by kernel_rfl) ?_
            clear hf174 hI38 ac152 hf175 ac153 hf176 ac154 hf177 wd21 hI48 hI49 hS9 ac155 hf178 ac156 hf179 hS10
            refine then_normal ?_
            refine wp_ret ?_
            refine then_ret ?_
            refine block_ret ?_
            refine then_ret ?_
            refine block_ret ?_
            refine postC2 rfl hf180 rfl ag_29 sz_29 (hI50.at 2 rfl) rfl rfl rfl ⟨?_, hI50.done (fresh_keys (ks := [b1, b2, b3]) rfl (fk_cons hb1 (fk_cons hb2 (fk_cons hb3 fk_nil))))⟩
            have hg : good h0 h1 h2 ⟨d0, d1, d2, 1⟩ = true := good_eq1.trans (gt g25_12 (of_decide_eq_true c32_13))
            have e1 := hx1.2.symm.trans (pickS_good (w0 := w0) (w1 := w1) (w2 := w2) ha hg)
            rw [pickN_some ha, ha, e1]
          · have hf181 := hf174.know 32 (u := .bool false) rfl (congrArg Value.bool c32_13)
            refine wp_skip ?_
            refine then_normal ?_
            refine seq_start (l := [0, 1, 2]) rfl ?_
            refine seq_one (op_val (v := .agg #[.int .i64 w0, .int .i64 w1, .int .i64 w2, .int .i64 d0, .int .i64 d1, .int .i64 d2, .int .i64 1]) hf181 rfl rfl rfl rfl rfl rfl (r_loadW ag_29 sz_29 rfl (hI38.at 0 rfl) rfl) fun ac158 hf182 => ?_)
            refine seq_one (op_pure hf182 rfl rfl rfl rfl ca_21 (next_pur1 w0 w1 w2 d0 d1 d2 hv hx1.1) hI38 fun ac159 wd28 hI51 hf183 => ?_)
            refine seq_one (op_storeW (cells := #[.int .i64 w0, .int .i64 w1, .int .i64 w2, .int .i64 d0, .int .i64 d1, .int .i64 (mn2 d2 w2), .int .i64 2]) 0 hf183 rfl rfl rfl rfl rfl sz_29 rfl rfl hI51 rfl rfl fun wd29 hI52 => ?_)
            have hI53 : Inv w [(b1, #[.int .i64 w0, .int .i64 w1, .int .i64 w2, .int .i64 d0, .int .i64 d1, .int .i64 (mn2 d2 w2), .int .i64 2], 29), (b2, #[.bool h0, .bool h1, .bool h2], 33), (b3, #[.int .i64 0, .int .i64 0, .int .i64 0, .int .i64 0, .int .i64 0, .int .i64 0, .int .i64 0], 29)] wd29 := hI52
            refine seq_end ?_
            clear hf174 ac152 hf181 ac158 wd21 hI38 hf182 wd28 hI51 hI52
            refine block_normal ?_
            refine then_normal ?_
            have hg : good h0 h1 h2 ⟨d0, d1, d2, 1⟩ = false := (good_eq1.trans (gf (.inr (Int.not_lt.1 (of_decide_eq_false c32_13)))))
            exact ⟨(d0, d1, mn2 d2 w2, 2), (hf183.cons 0 rfl (hf183.cons 1 rfl (hf183.cons 2 rfl (hf183.cons 3 rfl (hf183.cons 4 rfl (hf183.cons 7 rfl (hf183.cons 8 rfl (hf183.cons 9 rfl (hf183.cons 10 rfl (hf183.cons 11 rfl (hf183.cons 12 rfl (hf183.cons 13 rfl (hf183.cons 14 rfl (hf183.cons 15 rfl (hf183.cons 19 rfl hf183.nil))))))))))))))), ⟨hI53, ⟨nxt_ok (s := ⟨d0, d1, d2, 1⟩) hv hx1.1, (pickS_step (s := ⟨d0, d1, d2, 1⟩) (w0 := w0) (w1 := w1) (w2 := w2) ha hv (.inr (.inl rfl)) hg).symm.trans hx1.2⟩⟩, meas_lt (s := ⟨d0, d1, d2, 1⟩) (w0 := w0) (w1 := w1) (w2 := w2) ha hv (.inr (.inl rfl)) hg⟩
        · have hf184 := hf166.know 25 (u := .bool false) rfl (congrArg Value.bool g25_12)
          refine seq_one (op_skip hf184 rfl rfl rfl rfl fun ac160 hf185 => ?_)
          refine seq_one (op_skip hf185 rfl rfl rfl rfl fun ac161 hf186 => ?_)
          refine seq_one (op_skip hf186 rfl rfl rfl rfl fun ac162 hf187 => ?_)
          refine seq_one (op_skip hf187 rfl rfl rfl rfl fun ac163 hf188 => ?_)
          refine seq_one (op_skip hf188 rfl rfl rfl rfl fun ac164 hf189 => ?_)
          refine seq_one (op_skip hf189 rfl rfl rfl rfl fun ac165 hf190 => ?_)
          refine seq_one (op_val (v := .bool false) hf190 rfl rfl rfl rfl rfl rfl (r_pickF rfl rfl) fun ac166 hf191 => ?_)
          refine seq_end ?_
          clear ac112 hf129 ac141 hf162 ac142 hf163 ac143 hf164 ac144 hf165 hf166 ac145 hf184 ac160 hf185 ac161 hf186 ac162 hf187 ac163 hf188 ac164 hf189 ac165 hf190
          refine then_normal ?_
          refine code_if_false hf191 rfl ?_
          refine wp_skip ?_
          refine then_normal ?_
          refine seq_start (l := [0, 1, 2]) rfl ?_
          refine seq_one (op_val (v := .agg #[.int .i64 w0, .int .i64 w1, .int .i64 w2, .int .i64 d0, .int .i64 d1, .int .i64 d2, .int .i64 1]) hf191 rfl rfl rfl rfl rfl rfl (r_loadW ag_29 sz_29 rfl (hI38.at 0 rfl) rfl) fun ac167 hf192 => ?_)
          refine seq_one (op_pure hf192 rfl rfl rfl rfl ca_21 (next_pur1 w0 w1 w2 d0 d1 d2 hv hx1.1) hI38 fun ac168 wd30 hI54 hf193 => ?_)
          refine seq_one (op_storeW (cells := #[.int .i64 w0, .int .i64 w1, .int .i64 w2, .int .i64 d0, .int .i64 d1, .int .i64 (mn2 d2 w2), .int .i64 2]) 0 hf193 rfl rfl rfl rfl rfl sz_29 rfl rfl hI54 rfl rfl fun wd31 hI55 => ?_)
          have hI56 : Inv w [(b1, #[.int .i64 w0, .int .i64 w1, .int .i64 w2, .int .i64 d0, .int .i64 d1, .int .i64 (mn2 d2 w2), .int .i64 2], 29), (b2, #[.bool h0, .bool h1, .bool h2], 33), (b3, #[.int .i64 0, .int .i64 0, .int .i64 0, .int .i64 0, .int .i64 0, .int .i64 0, .int .i64 0], 29)] wd31 := hI55
          refine seq_end ?_
          clear ac166 hf191 ac167 wd21 hI38 hf192 wd30 hI54 hI55
          refine block_normal ?_
          refine then_normal ?_
          have hg : good h0 h1 h2 ⟨d0, d1, d2, 1⟩ = false := (good_eq1.trans (gf (.inl g25_12)))
          exact ⟨(d0, d1, mn2 d2 w2, 2), (hf193.cons 0 rfl (hf193.cons 1 rfl (hf193.cons 2 rfl (hf193.cons 3 rfl (hf193.cons 4 rfl (hf193.cons 7 rfl (hf193.cons 8 rfl (hf193.cons 9 rfl (hf193.cons 10 rfl (hf193.cons 11 rfl (hf193.cons 12 rfl (hf193.cons 13 rfl (hf193.cons 14 rfl (hf193.cons 15 rfl (hf193.cons 19 rfl hf193.nil))))))))))))))), ⟨hI56, ⟨nxt_ok (s := ⟨d0, d1, d2, 1⟩) hv hx1.1, (pickS_step (s := ⟨d0, d1, d2, 1⟩) (w0 := w0) (w1 := w1) (w2 := w2) ha hv (.inr (.inl rfl)) hg).symm.trans hx1.2⟩⟩, meas_lt (s := ⟨d0, d1, d2, 1⟩) (w0 := w0) (w1 := w1) (w2 := w2) ha hv (.inr (.inl rfl)) hg⟩
      ·
        refine wp_block ?_
        refine code_seq ?_
        refine code_seq ?_
        refine seq_start (l := [0, 1, 2, 3, 4, 5, 6, 7, 8, 9, 10, 11]) rfl ?_
        refine seq_one (op_val (v := .pointer (some ⟨b1, 6, none⟩)) hf129 rfl rfl rfl rfl rfl rfl (r_fieldAddr fi_29_2 rfl rfl) fun ac169 hf194 => ?_)
        refine seq_one (op_val (v := .int .i64 2) hf194 rfl rfl rfl rfl rfl rfl (r_load ag_3 rfl (hI38.at 0 rfl) rfl) fun ac170 hf195 => ?_)
        refine seq_one (op_val (v := .pointer (some ⟨b2, 2, none⟩)) hf195 rfl rfl rfl rfl rfl rfl (r_indexAddr (i := 2) ar_33 rfl rfl rfl (by decide) rfl) fun ac171 hf196 => ?_)
        refine seq_one (op_val (v := .bool h2) hf196 rfl rfl rfl rfl rfl rfl (r_load ag_4 rfl (hI38.at 1 rfl) rfl) fun ac172 hf197 => ?_)
        refine seq_one (op_val (v := .bool h2) hf197 rfl rfl rfl rfl rfl rfl (r_move rfl) fun ac173 hf198 => ?_)
        rcases Bool.eq_false_or_eq_true (h2 : Bool) with g25_14 | g25_14
        · have hf199 := hf198.know 25 (u := .bool true) rfl (congrArg Value.bool g25_14)
          refine seq_one (op_val (v := .pointer (some ⟨b1, 6, none⟩)) hf199 rfl rfl rfl rfl rfl rfl (r_fieldAddr fi_29_2 rfl rfl) fun ac174 hf200 => ?_)
          refine seq_one (op_val (v := .int .i64 2) hf200 rfl rfl rfl rfl rfl rfl (r_load ag_3 rfl (hI38.at 0 rfl) rfl) fun ac175 hf201 => ?_)
          refine seq_one (op_val (v := .pointer (some ⟨b1, 3, none⟩)) hf201 rfl rfl rfl rfl rfl rfl (r_fieldAddr fi_29_1 rfl rfl) fun ac176 hf202 => ?_)
          refine seq_one (op_val (v := .pointer (some ⟨b1, 5, none⟩)) hf202 rfl rfl rfl rfl rfl rfl (r_indexAddr (i := 2) ar_22 rfl rfl rfl (by decide) rfl) fun ac177 hf203 => ?_)
          refine seq_one (op_val (v := .int .i64 d2) hf203 rfl rfl rfl rfl rfl rfl (r_load ag_3 rfl (hI38.at 0 rfl) rfl) fun ac178 hf204 => ?_)
          refine seq_one (op_val (v := .bool (decide (d2 > 0))) hf204 rfl rfl rfl rfl rfl rfl (r_gtr rfl rfl) fun ac179 hf205 => ?_)
          refine seq_one (op_val (v := .bool (decide (d2 > 0))) hf205 rfl rfl rfl rfl rfl rfl (r_pickT rfl rfl) fun ac180 hf206 => ?_)
          refine seq_end ?_
          clear ac112 hf129 ac169 hf194 ac170 hf195 ac171 hf196 ac172 hf197 hf198 ac173 hf199 ac174 hf200 ac175 hf201 ac176 hf202 ac177 hf203 ac178 hf204 ac179 hf205
          refine then_normal ?_
          refine code_if hf206 rfl (fun c32_15 => ?_) (fun c32_15 => ?_)
          · have hf207 := hf206.know 32 (u := .bool true) rfl (congrArg Value.bool c32_15)
            refine code_seq ?_
            refine any_start (fun w => Has [(b1, #[.int .i64 w0, .int .i64 w1, .int .i64 w2, .int .i64 d0, .int .i64 d1, .int .i64 d2, .int .i64 2], 29)] w) follows (Has.drew (Has.cons (hI38.at 0 rfl) Has.nil)) ?_
            have hS11 : Has [(b1, #[.int .i64 w0, .int .i64 w1, .int .i64 w2, .int .i64 d0, .int .i64 d1, .int .i64 d2, .int .i64 2], 29)] _ := Has.drew (Has.cons (hI38.at 0 rfl) Has.nil)
            have hI57 := hI38.drew
            refine any_val (i := 0) (v := .agg #[.int .i64 w0, .int .i64 w1, .int .i64 w2, .int .i64 d0, .int .i64 d1, .int .i64 d2, .int .i64 2]) hf207 rfl rfl rfl rfl rfl rfl (fun _ _ _ h => h) (by kernel_rfl) (by kernel_rfl) (by kernel_rfl) (fun wd21 hS11 => (r_loadW ag_29 sz_29 rfl (hS11.at 0 rfl) rfl)) hS11 fun ac181 hf208 => ?_
            refine any_val (i := 1) (v := .pointer (some ⟨b1, 6, none⟩)) hf208 rfl rfl rfl rfl rfl rfl (fun _ _ _ h => h) (by kernel_rfl) (by kernel_rfl) (by kernel_rfl) (fun wd21 hS11 => (r_fieldAddr fi_29_2 rfl rfl)) hS11 fun ac182 hf209 => ?_
            refine any_val (i := 2) (v := .int .i64 2) hf209 rfl rfl rfl rfl rfl rfl (fun _ _ _ h => h) (by kernel_rfl) (by kernel_rfl) (by kernel_rfl) (fun wd21 hS11 => (r_load ag_3 rfl (hS11.at 0 rfl) rfl)) hS11 fun ac183 hf210 => ?_
            refine any_one (i := 3) (by kernel_rfl) ?_
            refine (op_storeW (cells := #[.int .i64 w0, .int .i64 w1, .int .i64 w2, .int .i64 d0, .int .i64 d1, .int .i64 d2, .int .i64 2]) 2 hf210 rfl rfl rfl rfl rfl sz_29 rfl rfl hI57 rfl rfl fun wd32 hI58 => ⟨?_, ?_⟩)
            · exact (Has.cons (hI58.at 0 rfl) Has.nil)
            have hI59 : Inv w [(b1, #[.int .i64 w0, .int .i64 w1, .int .i64 w2, .int .i64 d0, .int .i64 d1, .int .i64 d2, .int .i64 2], 29), (b2, #[.bool h0, .bool h1, .bool h2], 33), (b3, #[.int .i64 w0, .int .i64 w1, .int .i64 w2, .int .i64 d0, .int .i64 d1, .int .i64 d2, .int .i64 2], 29)] wd32 := hI58
            have hS12 : Has [(b1, #[.int .i64 w0, .int .i64 w1, .int .i64 w2, .int .i64 d0, .int .i64 d1, .int .i64 d2, .int .i64 2], 29)] _ := (Has.cons (hI59.at 0 rfl) Has.nil)
            refine any_val (i := 4) (v := .int .i64 2) hf210 rfl rfl rfl rfl rfl rfl (fun _ _ _ h => h) (by kernel_rfl) (by kernel_rfl) (by kernel_rfl) (fun wd32 hS12 => (r_assign rfl)) hS12 fun ac184 hf211 => ?_
            refine any_val (i := 5) (v := .bool true) hf211 rfl rfl rfl rfl rfl rfl (fun _ _ _ h => h) (by kernel_rfl) (by kernel_rfl) (by kernel_rfl) (fun wd32 hS12 => (r_assign rfl)) hS12 fun ac185 hf212 => ?_
            refine any_end (by kernel_rfl) ?_
            clear hf206 hI38 ac180 hf207 ac181 hf208 ac182 hf209 wd21 hI57 hI58 hS11 ac183 hf210 ac184 hf211 hS12
            refine then_normal ?_
            refine wp_ret ?_
            refine then_ret ?_
            refine block_ret ?_
            refine then_ret ?_
            refine block_ret ?_
            refine postC2 rfl hf212 rfl ag_29 sz_29 (hI59.at 2 rfl) rfl rfl rfl ⟨?_, hI59.done (fresh_keys (ks := [b1, b2, b3]) rfl (fk_cons hb1 (fk_cons hb2 (fk_cons hb3 fk_nil))))⟩
            have hg : good h0 h1 h2 ⟨d0, d1, d2, 2⟩ = true := good_eq2.trans (gt g25_14 (of_decide_eq_true c32_15))
            have e1 := hx1.2.symm.trans (pickS_good (w0 := w0) (w1 := w1) (w2 := w2) ha hg)
            rw [pickN_some ha, ha, e1]
          · have hf213 := hf206.know 32 (u := .bool false) rfl (congrArg Value.bool c32_15)
            refine wp_skip ?_
            refine then_normal ?_
            refine seq_start (l := [0, 1, 2]) rfl ?_
            refine seq_one (op_val (v := .agg #[.int .i64 w0, .int .i64 w1, .int .i64 w2, .int .i64 d0, .int .i64 d1, .int .i64 d2, .int .i64 2]) hf213 rfl rfl rfl rfl rfl rfl (r_loadW ag_29 sz_29 rfl (hI38.at 0 rfl) rfl) fun ac186 hf214 => ?_)
            refine seq_one (op_pure hf214 rfl rfl rfl rfl ca_21 (next_pur2 w0 w1 w2 d0 d1 d2 hv hx1.1) hI38 fun ac187 wd33 hI60 hf215 => ?_)
            refine seq_one (op_storeW (cells := #[.int .i64 w0, .int .i64 w1, .int .i64 w2, .int .i64 (mn2 d0 w0), .int .i64 d1, .int .i64 d2, .int .i64 0]) 0 hf215 rfl rfl rfl rfl rfl sz_29 rfl rfl hI60 rfl rfl fun wd34 hI61 => ?_)
            have hI62 : Inv w [(b1, #[.int .i64 w0, .int .i64 w1, .int .i64 w2, .int .i64 (mn2 d0 w0), .int .i64 d1, .int .i64 d2, .int .i64 0], 29), (b2, #[.bool h0, .bool h1, .bool h2], 33), (b3, #[.int .i64 0, .int .i64 0, .int .i64 0, .int .i64 0, .int .i64 0, .int .i64 0, .int .i64 0], 29)] wd34 := hI61
            refine seq_end ?_
            clear hf206 ac180 hf213 ac186 wd21 hI38 hf214 wd33 hI60 hI61
            refine block_normal ?_
            refine then_normal ?_
            have hg : good h0 h1 h2 ⟨d0, d1, d2, 2⟩ = false := (good_eq2.trans (gf (.inr (Int.not_lt.1 (of_decide_eq_false c32_15)))))
            exact ⟨(mn2 d0 w0, d1, d2, 0), (hf215.cons 0 rfl (hf215.cons 1 rfl (hf215.cons 2 rfl (hf215.cons 3 rfl (hf215.cons 4 rfl (hf215.cons 7 rfl (hf215.cons 8 rfl (hf215.cons 9 rfl (hf215.cons 10 rfl (hf215.cons 11 rfl (hf215.cons 12 rfl (hf215.cons 13 rfl (hf215.cons 14 rfl (hf215.cons 15 rfl (hf215.cons 19 rfl hf215.nil))))))))))))))), ⟨hI62, ⟨nxt_ok (s := ⟨d0, d1, d2, 2⟩) hv hx1.1, (pickS_step (s := ⟨d0, d1, d2, 2⟩) (w0 := w0) (w1 := w1) (w2 := w2) ha hv (.inr (.inr rfl)) hg).symm.trans hx1.2⟩⟩, meas_lt (s := ⟨d0, d1, d2, 2⟩) (w0 := w0) (w1 := w1) (w2 := w2) ha hv (.inr (.inr rfl)) hg⟩
        · have hf216 := hf198.know 25 (u := .bool false) rfl (congrArg Value.bool g25_14)
          refine seq_one (op_skip hf216 rfl rfl rfl rfl fun ac188 hf217 => ?_)
          refine seq_one (op_skip hf217 rfl rfl rfl rfl fun ac189 hf218 => ?_)
          refine seq_one (op_skip hf218 rfl rfl rfl rfl fun ac190 hf219 => ?_)
          refine seq_one (op_skip hf219 rfl rfl rfl rfl fun ac191 hf220 => ?_)
          refine seq_one (op_skip hf220 rfl rfl rfl rfl fun ac192 hf221 => ?_)
          refine seq_one (op_skip hf221 rfl rfl rfl rfl fun ac193 hf222 => ?_)
          refine seq_one (op_val (v := .bool false) hf222 rfl rfl rfl rfl rfl rfl (r_pickF rfl rfl) fun ac194 hf223 => ?_)
          refine seq_end ?_
          clear ac112 hf129 ac169 hf194 ac170 hf195 ac171 hf196 ac172 hf197 hf198 ac173 hf216 ac188 hf217 ac189 hf218 ac190 hf219 ac191 hf220 ac192 hf221 ac193 hf222
          refine then_normal ?_
          refine code_if_false hf223 rfl ?_
          refine wp_skip ?_
          refine then_normal ?_
          refine seq_start (l := [0, 1, 2]) rfl ?_
          refine seq_one (op_val (v := .agg #[.int .i64 w0, .int .i64 w1, .int .i64 w2, .int .i64 d0, .int .i64 d1, .int .i64 d2, .int .i64 2]) hf223 rfl rfl rfl rfl rfl rfl (r_loadW ag_29 sz_29 rfl (hI38.at 0 rfl) rfl) fun ac195 hf224 => ?_)
          refine seq_one (op_pure hf224 rfl rfl rfl rfl ca_21 (next_pur2 w0 w1 w2 d0 d1 d2 hv hx1.1) hI38 fun ac196 wd35 hI63 hf225 => ?_)
          refine seq_one (op_storeW (cells := #[.int .i64 w0, .int .i64 w1, .int .i64 w2, .int .i64 (mn2 d0 w0), .int .i64 d1, .int .i64 d2, .int .i64 0]) 0 hf225 rfl rfl rfl rfl rfl sz_29 rfl rfl hI63 rfl rfl fun wd36 hI64 => ?_)
          have hI65 : Inv w [(b1, #[.int .i64 w0, .int .i64 w1, .int .i64 w2, .int .i64 (mn2 d0 w0), .int .i64 d1, .int .i64 d2, .int .i64 0], 29), (b2, #[.bool h0, .bool h1, .bool h2], 33), (b3, #[.int .i64 0, .int .i64 0, .int .i64 0, .int .i64 0, .int .i64 0, .int .i64 0, .int .i64 0], 29)] wd36 := hI64
          refine seq_end ?_
          clear ac194 hf223 ac195 wd21 hI38 hf224 wd35 hI63 hI64
          refine block_normal ?_
          refine then_normal ?_
          have hg : good h0 h1 h2 ⟨d0, d1, d2, 2⟩ = false := (good_eq2.trans (gf (.inl g25_14)))
          exact ⟨(mn2 d0 w0, d1, d2, 0), (hf225.cons 0 rfl (hf225.cons 1 rfl (hf225.cons 2 rfl (hf225.cons 3 rfl (hf225.cons 4 rfl (hf225.cons 7 rfl (hf225.cons 8 rfl (hf225.cons 9 rfl (hf225.cons 10 rfl (hf225.cons 11 rfl (hf225.cons 12 rfl (hf225.cons 13 rfl (hf225.cons 14 rfl (hf225.cons 15 rfl (hf225.cons 19 rfl hf225.nil))))))))))))))), ⟨hI65, ⟨nxt_ok (s := ⟨d0, d1, d2, 2⟩) hv hx1.1, (pickS_step (s := ⟨d0, d1, d2, 2⟩) (w0 := w0) (w1 := w1) (w2 := w2) ha hv (.inr (.inr rfl)) hg).symm.trans hx1.2⟩⟩, meas_lt (s := ⟨d0, d1, d2, 2⟩) (w0 := w0) (w1 := w1) (w2 := w2) ha hv (.inr (.inr rfl)) hg⟩
  · have hf226 := hf10.know 10 (u := .bool false) rfl (congrArg Value.bool g10_1)
    refine seq_one (op_skip hf226 rfl rfl rfl rfl fun ac197 hf227 => ?_)
    refine seq_one (op_skip hf227 rfl rfl rfl rfl fun ac198 hf228 => ?_)
    refine seq_one (op_skip hf228 rfl rfl rfl rfl fun ac199 hf229 => ?_)
    refine seq_one (op_val (v := .bool false) hf229 rfl rfl rfl rfl rfl rfl (r_pickF rfl rfl) fun ac200 hf230 => ?_)
    refine seq_one (op_val (v := .bool false) hf230 rfl rfl rfl rfl rfl rfl (r_move rfl) fun ac201 hf231 => ?_)
    refine seq_one (op_skip hf231 rfl rfl rfl rfl fun ac202 hf232 => ?_)
    refine seq_one (op_skip hf232 rfl rfl rfl rfl fun ac203 hf233 => ?_)
    refine seq_one (op_skip hf233 rfl rfl rfl rfl fun ac204 hf234 => ?_)
    refine seq_one (op_val (v := .bool false) hf234 rfl rfl rfl rfl rfl rfl (r_pickF rfl rfl) fun ac205 hf235 => ?_)
    refine seq_end ?_
    clear ac6 hf6 ac7 hf7 ac8 hf8 ac9 hf9 hf10 ac10 hf226 ac197 hf227 ac198 hf228 ac199 hf229 ac200 hf230 ac201 hf231 ac202 hf232 ac203 hf233 ac204 hf234
    refine then_normal ?_
    refine code_if_false hf235 rfl ?_
    refine wp_skip ?_
    refine then_normal ?_
    refine wp_block ?_
    have ha : (h0 || h1 || h2) = true := by simp only [Bool.not_eq_true', Bool.not_eq_false'] at g10_1; simp [g10_1]
    refine code_loop (α := Int × Int × Int × Int) (fun (x : Int × Int × Int × Int) => match x with | (d0, d1, d2, j) => [(0, .agg #[.int .i64 w0, .int .i64 w1, .int .i64 w2, .int .i64 c0, .int .i64 c1, .int .i64 c2, .int .i64 n]), (1, .agg #[.bool h0, .bool h1, .bool h2]), (2, .pointer (some ⟨b1, 0, none⟩)), (3, .pointer (some ⟨b2, 0, none⟩)), (4, .pointer (some ⟨b3, 0, none⟩)), (7, .pointer (some ⟨b2, 0, none⟩)), (8, .bool h0), (9, .bool (!h0)), (10, .bool false), (14, .bool false), (15, .bool false), (19, .bool false)]) (fun (x : Int × Int × Int × Int) => match x with | (d0, d1, d2, j) => fun wL => Inv w [(b1, #[.int .i64 w0, .int .i64 w1, .int .i64 w2, .int .i64 d0, .int .i64 d1, .int .i64 d2, .int .i64 j], 29), (b2, #[.bool h0, .bool h1, .bool h2], 33), (b3, #[.int .i64 0, .int .i64 0, .int .i64 0, .int .i64 0, .int .i64 0, .int .i64 0, .int .i64 0], 29)] wL ∧ (Ok w0 w1 w2 ⟨d0, d1, d2, j⟩ ∧ (pickS h0 h1 h2 w0 w1 w2 ⟨d0, d1, d2, j⟩ : St) = (pickS h0 h1 h2 w0 w1 w2 ⟨c0, c1, c2, n⟩ : St))) (fun (x : Int × Int × Int × Int) => match x with | (d0, d1, d2, j) => meas h0 h1 h2 ⟨d0, d1, d2, j⟩) (c0, c1, c2, n) (hf235.cons 0 rfl (hf235.cons 1 rfl (hf235.cons 2 rfl (hf235.cons 3 rfl (hf235.cons 4 rfl (hf235.cons 7 rfl (hf235.cons 8 rfl (hf235.cons 9 rfl (hf235.cons 10 rfl (hf235.cons 14 rfl (hf235.cons 15 rfl (hf235.cons 19 rfl hf235.nil)))))))))))) ⟨hI7, ⟨hs, rfl⟩⟩ ?_
    intro ⟨d0, d1, d2, j⟩ ac206 wd37 hf236 hL1
    obtain ⟨hI66, hx1⟩ := hL1
    dsimp only at hf236 hI66 hx1
    clear ac205 wd3 hf235 hI7
    have hj := hx1.1.n
    dsimp only at hj
    rcases hj with rfl | rfl | rfl
    ·
      refine wp_block ?_
      refine code_seq ?_
      refine code_seq ?_
      refine seq_start (l := [0, 1, 2, 3, 4, 5, 6, 7, 8, 9, 10, 11]) rfl ?_
      refine seq_one (op_val (v := .pointer (some ⟨b1, 6, none⟩)) hf236 rfl rfl rfl rfl rfl rfl (r_fieldAddr fi_29_2 rfl rfl) fun ac207 hf237 => ?_)
      refine seq_one (op_val (v := .int .i64 0) hf237 rfl rfl rfl rfl rfl rfl (r_load ag_3 rfl (hI66.at 0 rfl) rfl) fun ac208 hf238 => ?_)
      refine seq_one (op_val (v := .pointer (some ⟨b2, 0, none⟩)) hf238 rfl rfl rfl rfl rfl rfl (r_indexAddr (i := 0) ar_33 rfl rfl rfl (by decide) rfl) fun ac209 hf239 => ?_)
      refine seq_one (op_val (v := .bool h0) hf239 rfl rfl rfl rfl rfl rfl (r_load ag_4 rfl (hI66.at 1 rfl) rfl) fun ac210 hf240 => ?_)
      refine seq_one (op_val (v := .bool h0) hf240 rfl rfl rfl rfl rfl rfl (r_move rfl) fun ac211 hf241 => ?_)
      rcases Bool.eq_false_or_eq_true (h0 : Bool) with g25_16 | g25_16
      · have hf242 := hf241.know 25 (u := .bool true) rfl (congrArg Value.bool g25_16)
        refine seq_one (op_val (v := .pointer (some ⟨b1, 6, none⟩)) hf242 rfl rfl rfl rfl rfl rfl (r_fieldAddr fi_29_2 rfl rfl) fun ac212 hf243 => ?_)
        refine seq_one (op_val (v := .int .i64 0) hf243 rfl rfl rfl rfl rfl rfl (r_load ag_3 rfl (hI66.at 0 rfl) rfl) fun ac213 hf244 => ?_)
        refine seq_one (op_val (v := .pointer (some ⟨b1, 3, none⟩)) hf244 rfl rfl rfl rfl rfl rfl (r_fieldAddr fi_29_1 rfl rfl) fun ac214 hf245 => ?_)
        refine seq_one (op_val (v := .pointer (some ⟨b1, 3, none⟩)) hf245 rfl rfl rfl rfl rfl rfl (r_indexAddr (i := 0) ar_22 rfl rfl rfl (by decide) rfl) fun ac215 hf246 => ?_)
        refine seq_one (op_val (v := .int .i64 d0) hf246 rfl rfl rfl rfl rfl rfl (r_load ag_3 rfl (hI66.at 0 rfl) rfl) fun ac216 hf247 => ?_)
        refine seq_one (op_val (v := .bool (decide (d0 > 0))) hf247 rfl rfl rfl rfl rfl rfl (r_gtr rfl rfl) fun ac217 hf248 => ?_)
        refine seq_one (op_val (v := .bool (decide (d0 > 0))) hf248 rfl rfl rfl rfl rfl rfl (r_pickT rfl rfl) fun ac218 hf249 => ?_)
        refine seq_end ?_
        clear ac206 hf236 ac207 hf237 ac208 hf238 ac209 hf239 ac210 hf240 hf241 ac211 hf242 ac212 hf243 ac213 hf244 ac214 hf245 ac215 hf246 ac216 hf247 ac217 hf248
        refine then_normal ?_
        refine code_if hf249 rfl (fun c32_17 => ?_) (fun c32_17 => ?_)
        · have hf250 := hf249.know 32 (u := .bool true) rfl (congrArg Value.bool c32_17)
          refine code_seq ?_
          refine any_start (fun w => Has [(b1, #[.int .i64 w0, .int .i64 w1, .int .i64 w2, .int .i64 d0, .int .i64 d1, .int .i64 d2, .int .i64 0], 29)] w) follows (Has.drew (Has.cons (hI66.at 0 rfl) Has.nil)) ?_
          have hS13 : Has [(b1, #[.int .i64 w0, .int .i64 w1, .int .i64 w2, .int .i64 d0, .int .i64 d1, .int .i64 d2, .int .i64 0], 29)] _ := Has.drew (Has.cons (hI66.at 0 rfl) Has.nil)
          have hI67 := hI66.drew
          refine any_val (i := 0) (v := .agg #[.int .i64 w0, .int .i64 w1, .int .i64 w2, .int .i64 d0, .int .i64 d1, .int .i64 d2, .int .i64 0]) hf250 rfl rfl rfl rfl rfl rfl (fun _ _ _ h => h) (by kernel_rfl) (by kernel_rfl) (by kernel_rfl) (fun wd37 hS13 => (r_loadW ag_29 sz_29 rfl (hS13.at 0 rfl) rfl)) hS13 fun ac219 hf251 => ?_
          refine any_val (i := 1) (v := .pointer (some ⟨b1, 6, none⟩)) hf251 rfl rfl rfl rfl rfl rfl (fun _ _ _ h => h) (by kernel_rfl) (by kernel_rfl) (by kernel_rfl) (fun wd37 hS13 => (r_fieldAddr fi_29_2 rfl rfl)) hS13 fun ac220 hf252 => ?_
          refine any_val (i := 2) (v := .int .i64 0) hf252 rfl rfl rfl rfl rfl rfl (fun _ _ _ h => h) (by kernel_rfl) (by kernel_rfl) (by kernel_rfl) (fun wd37 hS13 => (r_load ag_3 rfl (hS13.at 0 rfl) rfl)) hS13 fun ac221 hf253 => ?_
          refine any_one (i := 3) (by kernel_rfl) ?_
          refine (op_storeW (cells := #[.int .i64 w0, .int .i64 w1, .int .i64 w2, .int .i64 d0, .int .i64 d1, .int .i64 d2, .int .i64 0]) 2 hf253 rfl rfl rfl rfl rfl sz_29 rfl rfl hI67 rfl rfl fun wd38 hI68 => ⟨?_, ?_⟩)
          · exact (Has.cons (hI68.at 0 rfl) Has.nil)
          have hI69 : Inv w [(b1, #[.int .i64 w0, .int .i64 w1, .int .i64 w2, .int .i64 d0, .int .i64 d1, .int .i64 d2, .int .i64 0], 29), (b2, #[.bool h0, .bool h1, .bool h2], 33), (b3, #[.int .i64 w0, .int .i64 w1, .int .i64 w2, .int .i64 d0, .int .i64 d1, .int .i64 d2, .int .i64 0], 29)] wd38 := hI68
          have hS14 : Has [(b1, #[.int .i64 w0, .int .i64 w1, .int .i64 w2, .int .i64 d0, .int .i64 d1, .int .i64 d2, .int .i64 0], 29)] _ := (Has.cons (hI69.at 0 rfl) Has.nil)
          refine any_val (i := 4) (v := .int .i64 0) hf253 rfl rfl rfl rfl rfl rfl (fun _ _ _ h => h) (by kernel_rfl) (by kernel_rfl) (by kernel_rfl) (fun wd38 hS14 => (r_assign rfl)) hS14 fun ac222 hf254 => ?_
          refine any_val (i := 5) (v := .bool true) hf254 rfl rfl rfl rfl rfl rfl (fun _ _ _ h => h) (by kernel_rfl) (by kernel_rfl) (by kernel_rfl) (fun wd38 hS14 => (r_assign rfl)) hS14 fun ac223 hf255 => ?_
          refine any_end (by kernel_rfl) ?_
          clear hf249 hI66 ac218 hf250 ac219 hf251 ac220 hf252 wd37 hI67 hI68 hS13 ac221 hf253 ac222 hf254 hS14
          refine then_normal ?_
          refine wp_ret ?_
          refine then_ret ?_
          refine block_ret ?_
          refine then_ret ?_
          refine block_ret ?_
          refine postC2 rfl hf255 rfl ag_29 sz_29 (hI69.at 2 rfl) rfl rfl rfl ⟨?_, hI69.done (fresh_keys (ks := [b1, b2, b3]) rfl (fk_cons hb1 (fk_cons hb2 (fk_cons hb3 fk_nil))))⟩
          have hg : good h0 h1 h2 ⟨d0, d1, d2, 0⟩ = true := good_eq0.trans (gt g25_16 (of_decide_eq_true c32_17))
          have e1 := hx1.2.symm.trans (pickS_good (w0 := w0) (w1 := w1) (w2 := w2) ha hg)
          rw [pickN_some ha, ha, e1]
        · have hf256 := hf249.know 32 (u := .bool false) rfl (congrArg Value.bool c32_17)
          refine wp_skip ?_
          refine then_normal ?_
          refine seq_start (l := [0, 1, 2]) rfl ?_
          refine seq_one (op_val (v := .agg #[.int .i64 w0, .int .i64 w1, .int .i64 w2, .int .i64 d0, .int .i64 d1, .int .i64 d2, .int .i64 0]) hf256 rfl rfl rfl rfl rfl rfl (r_loadW ag_29 sz_29 rfl (hI66.at 0 rfl) rfl) fun ac224 hf257 => ?_)
          refine seq_one (op_pure hf257 rfl rfl rfl rfl ca_21 (next_pur0 w0 w1 w2 d0 d1 d2 hv hx1.1) hI66 fun ac225 wd39 hI70 hf258 => ?_)
          refine seq_one (op_storeW (cells := #[.int .i64 w0, .int .i64 w1, .int .i64 w2, .int .i64 d0, .int .i64 (mn2 d1 w1), .int .i64 d2, .int .i64 1]) 0 hf258 rfl rfl rfl rfl rfl sz_29 rfl rfl hI70 rfl rfl fun wd40 hI71 => ?_)
          have hI72 : Inv w [(b1, #[.int .i64 w0, .int .i64 w1, .int .i64 w2, .int .i64 d0, .int .i64 (mn2 d1 w1), .int .i64 d2, .int .i64 1], 29), (b2, #[.bool h0, .bool h1, .bool h2], 33), (b3, #[.int .i64 0, .int .i64 0, .int .i64 0, .int .i64 0, .int .i64 0, .int .i64 0, .int .i64 0], 29)] wd40 := hI71
          refine seq_end ?_
          clear hf249 ac218 hf256 ac224 wd37 hI66 hf257 wd39 hI70 hI71
          refine block_normal ?_
          refine then_normal ?_
          have hg : good h0 h1 h2 ⟨d0, d1, d2, 0⟩ = false := (good_eq0.trans (gf (.inr (Int.not_lt.1 (of_decide_eq_false c32_17)))))
          exact ⟨(d0, mn2 d1 w1, d2, 1), (hf258.cons 0 rfl (hf258.cons 1 rfl (hf258.cons 2 rfl (hf258.cons 3 rfl (hf258.cons 4 rfl (hf258.cons 7 rfl (hf258.cons 8 rfl (hf258.cons 9 rfl (hf258.cons 10 rfl (hf258.cons 14 rfl (hf258.cons 15 rfl (hf258.cons 19 rfl hf258.nil)))))))))))), ⟨hI72, ⟨nxt_ok (s := ⟨d0, d1, d2, 0⟩) hv hx1.1, (pickS_step (s := ⟨d0, d1, d2, 0⟩) (w0 := w0) (w1 := w1) (w2 := w2) ha hv (.inl rfl) hg).symm.trans hx1.2⟩⟩, meas_lt (s := ⟨d0, d1, d2, 0⟩) (w0 := w0) (w1 := w1) (w2 := w2) ha hv (.inl rfl) hg⟩
      · have hf259 := hf241.know 25 (u := .bool false) rfl (congrArg Value.bool g25_16)
        refine seq_one (op_skip hf259 rfl rfl rfl rfl fun ac226 hf260 => ?_)
        refine seq_one (op_skip hf260 rfl rfl rfl rfl fun ac227 hf261 => ?_)
        refine seq_one (op_skip hf261 rfl rfl rfl rfl fun ac228 hf262 => ?_)
        refine seq_one (op_skip hf262 rfl rfl rfl rfl fun ac229 hf263 => ?_)
        refine seq_one (op_skip hf263 rfl rfl rfl rfl fun ac230 hf264 => ?_)
        refine seq_one (op_skip hf264 rfl rfl rfl rfl fun ac231 hf265 => ?_)
        refine seq_one (op_val (v := .bool false) hf265 rfl rfl rfl rfl rfl rfl (r_pickF rfl rfl) fun ac232 hf266 => ?_)
        refine seq_end ?_
        clear ac206 hf236 ac207 hf237 ac208 hf238 ac209 hf239 ac210 hf240 hf241 ac211 hf259 ac226 hf260 ac227 hf261 ac228 hf262 ac229 hf263 ac230 hf264 ac231 hf265
        refine then_normal ?_
        refine code_if_false hf266 rfl ?_
        refine wp_skip ?_
        refine then_normal ?_
        refine seq_start (l := [0, 1, 2]) rfl ?_
        refine seq_one (op_val (v := .agg #[.int .i64 w0, .int .i64 w1, .int .i64 w2, .int .i64 d0, .int .i64 d1, .int .i64 d2, .int .i64 0]) hf266 rfl rfl rfl rfl rfl rfl (r_loadW ag_29 sz_29 rfl (hI66.at 0 rfl) rfl) fun ac233 hf267 => ?_)
        refine seq_one (op_pure hf267 rfl rfl rfl rfl ca_21 (next_pur0 w0 w1 w2 d0 d1 d2 hv hx1.1) hI66 fun ac234 wd41 hI73 hf268 => ?_)
        refine seq_one (op_storeW (cells := #[.int .i64 w0, .int .i64 w1, .int .i64 w2, .int .i64 d0, .int .i64 (mn2 d1 w1), .int .i64 d2, .int .i64 1]) 0 hf268 rfl rfl rfl rfl rfl sz_29 rfl rfl hI73 rfl rfl fun wd42 hI74 => ?_)
        have hI75 : Inv w [(b1, #[.int .i64 w0, .int .i64 w1, .int .i64 w2, .int .i64 d0, .int .i64 (mn2 d1 w1), .int .i64 d2, .int .i64 1], 29), (b2, #[.bool h0, .bool h1, .bool h2], 33), (b3, #[.int .i64 0, .int .i64 0, .int .i64 0, .int .i64 0, .int .i64 0, .int .i64 0, .int .i64 0], 29)] wd42 := hI74
        refine seq_end ?_
        clear ac232 hf266 ac233 wd37 hI66 hf267 wd41 hI73 hI74
        refine block_normal ?_
        refine then_normal ?_
        have hg : good h0 h1 h2 ⟨d0, d1, d2, 0⟩ = false := (good_eq0.trans (gf (.inl g25_16)))
        exact ⟨(d0, mn2 d1 w1, d2, 1), (hf268.cons 0 rfl (hf268.cons 1 rfl (hf268.cons 2 rfl (hf268.cons 3 rfl (hf268.cons 4 rfl (hf268.cons 7 rfl (hf268.cons 8 rfl (hf268.cons 9 rfl (hf268.cons 10 rfl (hf268.cons 14 rfl (hf268.cons 15 rfl (hf268.cons 19 rfl hf268.nil)))))))))))), ⟨hI75, ⟨nxt_ok (s := ⟨d0, d1, d2, 0⟩) hv hx1.1, (pickS_step (s := ⟨d0, d1, d2, 0⟩) (w0 := w0) (w1 := w1) (w2 := w2) ha hv (.inl rfl) hg).symm.trans hx1.2⟩⟩, meas_lt (s := ⟨d0, d1, d2, 0⟩) (w0 := w0) (w1 := w1) (w2 := w2) ha hv (.inl rfl) hg⟩
    ·
      refine wp_block ?_
      refine code_seq ?_
      refine code_seq ?_
      refine seq_start (l := [0, 1, 2, 3, 4, 5, 6, 7, 8, 9, 10, 11]) rfl ?_
      refine seq_one (op_val (v := .pointer (some ⟨b1, 6, none⟩)) hf236 rfl rfl rfl rfl rfl rfl (r_fieldAddr fi_29_2 rfl rfl) fun ac235 hf269 => ?_)
      refine seq_one (op_val (v := .int .i64 1) hf269 rfl rfl rfl rfl rfl rfl (r_load ag_3 rfl (hI66.at 0 rfl) rfl) fun ac236 hf270 => ?_)
      refine seq_one (op_val (v := .pointer (some ⟨b2, 1, none⟩)) hf270 rfl rfl rfl rfl rfl rfl (r_indexAddr (i := 1) ar_33 rfl rfl rfl (by decide) rfl) fun ac237 hf271 => ?_)
      refine seq_one (op_val (v := .bool h1) hf271 rfl rfl rfl rfl rfl rfl (r_load ag_4 rfl (hI66.at 1 rfl) rfl) fun ac238 hf272 => ?_)
      refine seq_one (op_val (v := .bool h1) hf272 rfl rfl rfl rfl rfl rfl (r_move rfl) fun ac239 hf273 => ?_)
      rcases Bool.eq_false_or_eq_true (h1 : Bool) with g25_18 | g25_18
      · have hf274 := hf273.know 25 (u := .bool true) rfl (congrArg Value.bool g25_18)
        refine seq_one (op_val (v := .pointer (some ⟨b1, 6, none⟩)) hf274 rfl rfl rfl rfl rfl rfl (r_fieldAddr fi_29_2 rfl rfl) fun ac240 hf275 => ?_)
        refine seq_one (op_val (v := .int .i64 1) hf275 rfl rfl rfl rfl rfl rfl (r_load ag_3 rfl (hI66.at 0 rfl) rfl) fun ac241 hf276 => ?_)
        refine seq_one (op_val (v := .pointer (some ⟨b1, 3, none⟩)) hf276 rfl rfl rfl rfl rfl rfl (r_fieldAddr fi_29_1 rfl rfl) fun ac242 hf277 => ?_)
        refine seq_one (op_val (v := .pointer (some ⟨b1, 4, none⟩)) hf277 rfl rfl rfl rfl rfl rfl (r_indexAddr (i := 1) ar_22 rfl rfl rfl (by decide) rfl) fun ac243 hf278 => ?_)
        refine seq_one (op_val (v := .int .i64 d1) hf278 rfl rfl rfl rfl rfl rfl (r_load ag_3 rfl (hI66.at 0 rfl) rfl) fun ac244 hf279 => ?_)
        refine seq_one (op_val (v := .bool (decide (d1 > 0))) hf279 rfl rfl rfl rfl rfl rfl (r_gtr rfl rfl) fun ac245 hf280 => ?_)
        refine seq_one (op_val (v := .bool (decide (d1 > 0))) hf280 rfl rfl rfl rfl rfl rfl (r_pickT rfl rfl) fun ac246 hf281 => ?_)
        refine seq_end ?_
        clear ac206 hf236 ac235 hf269 ac236 hf270 ac237 hf271 ac238 hf272 hf273 ac239 hf274 ac240 hf275 ac241 hf276 ac242 hf277 ac243 hf278 ac244 hf279 ac245 hf280
        refine then_normal ?_
        refine code_if hf281 rfl (fun c32_19 => ?_) (fun c32_19 => ?_)
        · have hf282 := hf281.know 32 (u := .bool true) rfl (congrArg Value.bool c32_19)
          refine code_seq ?_
          refine any_start (fun w => Has [(b1, #[.int .i64 w0, .int .i64 w1, .int .i64 w2, .int .i64 d0, .int .i64 d1, .int .i64 d2, .int .i64 1], 29)] w) follows (Has.drew (Has.cons (hI66.at 0 rfl) Has.nil)) ?_
          have hS15 : Has [(b1, #[.int .i64 w0, .int .i64 w1, .int .i64 w2, .int .i64 d0, .int .i64 d1, .int .i64 d2, .int .i64 1], 29)] _ := Has.drew (Has.cons (hI66.at 0 rfl) Has.nil)
          have hI76 := hI66.drew
          refine any_val (i := 0) (v := .agg #[.int .i64 w0, .int .i64 w1, .int .i64 w2, .int .i64 d0, .int .i64 d1, .int .i64 d2, .int .i64 1]) hf282 rfl rfl rfl rfl rfl rfl (fun _ _ _ h => h) (by kernel_rfl) (by kernel_rfl) (by kernel_rfl) (fun wd37 hS15 => (r_loadW ag_29 sz_29 rfl (hS15.at 0 rfl) rfl)) hS15 fun ac247 hf283 => ?_
          refine any_val (i := 1) (v := .pointer (some ⟨b1, 6, none⟩)) hf283 rfl rfl rfl rfl rfl rfl (fun _ _ _ h => h) (by kernel_rfl) (by kernel_rfl) (by kernel_rfl) (fun wd37 hS15 => (r_fieldAddr fi_29_2 rfl rfl)) hS15 fun ac248 hf284 => ?_
          refine any_val (i := 2) (v := .int .i64 1) hf284 rfl rfl rfl rfl rfl rfl (fun _ _ _ h => h) (by kernel_rfl) (by kernel_rfl) (by kernel_rfl) (fun wd37 hS15 => (r_load ag_3 rfl (hS15.at 0 rfl) rfl)) hS15 fun ac249 hf285 => ?_
          refine any_one (i := 3) (by kernel_rfl) ?_
          refine (op_storeW (cells := #[.int .i64 w0, .int .i64 w1, .int .i64 w2, .int .i64 d0, .int .i64 d1, .int .i64 d2, .int .i64 1]) 2 hf285 rfl rfl rfl rfl rfl sz_29 rfl rfl hI76 rfl rfl fun wd43 hI77 => ⟨?_, ?_⟩)
          · exact (Has.cons (hI77.at 0 rfl) Has.nil)
          have hI78 : Inv w [(b1, #[.int .i64 w0, .int .i64 w1, .int .i64 w2, .int .i64 d0, .int .i64 d1, .int .i64 d2, .int .i64 1], 29), (b2, #[.bool h0, .bool h1, .bool h2], 33), (b3, #[.int .i64 w0, .int .i64 w1, .int .i64 w2, .int .i64 d0, .int .i64 d1, .int .i64 d2, .int .i64 1], 29)] wd43 := hI77
          have hS16 : Has [(b1, #[.int .i64 w0, .int .i64 w1, .int .i64 w2, .int .i64 d0, .int .i64 d1, .int .i64 d2, .int .i64 1], 29)] _ := (Has.cons (hI78.at 0 rfl) Has.nil)
          refine any_val (i := 4) (v := .int .i64 1) hf285 rfl rfl rfl rfl rfl rfl (fun _ _ _ h => h) (by kernel_rfl) (by kernel_rfl) (by kernel_rfl) (fun wd43 hS16 => (r_assign rfl)) hS16 fun ac250 hf286 => ?_
          refine any_val (i := 5) (v := .bool true) hf286 rfl rfl rfl rfl rfl rfl (fun _ _ _ h => h) (by kernel_rfl) (by kernel_rfl) (by kernel_rfl) (fun wd43 hS16 => (r_assign rfl)) hS16 fun ac251 hf287 => ?_
          refine any_end (by kernel_rfl) ?_
          clear hf281 hI66 ac246 hf282 ac247 hf283 ac248 hf284 wd37 hI76 hI77 hS15 ac249 hf285 ac250 hf286 hS16
          refine then_normal ?_
          refine wp_ret ?_
          refine then_ret ?_
          refine block_ret ?_
          refine then_ret ?_
          refine block_ret ?_
          refine postC2 rfl hf287 rfl ag_29 sz_29 (hI78.at 2 rfl) rfl rfl rfl ⟨?_, hI78.done (fresh_keys (ks := [b1, b2, b3]) rfl (fk_cons hb1 (fk_cons hb2 (fk_cons hb3 fk_nil))))⟩
          have hg : good h0 h1 h2 ⟨d0, d1, d2, 1⟩ = true := good_eq1.trans (gt g25_18 (of_decide_eq_true c32_19))
          have e1 := hx1.2.symm.trans (pickS_good (w0 := w0) (w1 := w1) (w2 := w2) ha hg)
          rw [pickN_some ha, ha, e1]
        · have hf288 := hf281.know 32 (u := .bool false) rfl (congrArg Value.bool c32_19)
          refine wp_skip ?_
          refine then_normal ?_
          refine seq_start (l := [0, 1, 2]) rfl ?_
          refine seq_one (op_val (v := .agg #[.int .i64 w0, .int .i64 w1, .int .i64 w2, .int .i64 d0, .int .i64 d1, .int .i64 d2, .int .i64 1]) hf288 rfl rfl rfl rfl rfl rfl (r_loadW ag_29 sz_29 rfl (hI66.at 0 rfl) rfl) fun ac252 hf289 => ?_)
          refine seq_one (op_pure hf289 rfl rfl rfl rfl ca_21 (next_pur1 w0 w1 w2 d0 d1 d2 hv hx1.1) hI66 fun ac253 wd44 hI79 hf290 => ?_)
          refine seq_one (op_storeW (cells := #[.int .i64 w0, .int .i64 w1, .int .i64 w2, .int .i64 d0, .int .i64 d1, .int .i64 (mn2 d2 w2), .int .i64 2]) 0 hf290 rfl rfl rfl rfl rfl sz_29 rfl rfl hI79 rfl rfl fun wd45 hI80 => ?_)
          have hI81 : Inv w [(b1, #[.int .i64 w0, .int .i64 w1, .int .i64 w2, .int .i64 d0, .int .i64 d1, .int .i64 (mn2 d2 w2), .int .i64 2], 29), (b2, #[.bool h0, .bool h1, .bool h2], 33), (b3, #[.int .i64 0, .int .i64 0, .int .i64 0, .int .i64 0, .int .i64 0, .int .i64 0, .int .i64 0], 29)] wd45 := hI80
          refine seq_end ?_
          clear hf281 ac246 hf288 ac252 wd37 hI66 hf289 wd44 hI79 hI80
          refine block_normal ?_
          refine then_normal ?_
          have hg : good h0 h1 h2 ⟨d0, d1, d2, 1⟩ = false := (good_eq1.trans (gf (.inr (Int.not_lt.1 (of_decide_eq_false c32_19)))))
          exact ⟨(d0, d1, mn2 d2 w2, 2), (hf290.cons 0 rfl (hf290.cons 1 rfl (hf290.cons 2 rfl (hf290.cons 3 rfl (hf290.cons 4 rfl (hf290.cons 7 rfl (hf290.cons 8 rfl (hf290.cons 9 rfl (hf290.cons 10 rfl (hf290.cons 14 rfl (hf290.cons 15 rfl (hf290.cons 19 rfl hf290.nil)))))))))))), ⟨hI81, ⟨nxt_ok (s := ⟨d0, d1, d2, 1⟩) hv hx1.1, (pickS_step (s := ⟨d0, d1, d2, 1⟩) (w0 := w0) (w1 := w1) (w2 := w2) ha hv (.inr (.inl rfl)) hg).symm.trans hx1.2⟩⟩, meas_lt (s := ⟨d0, d1, d2, 1⟩) (w0 := w0) (w1 := w1) (w2 := w2) ha hv (.inr (.inl rfl)) hg⟩
      · have hf291 := hf273.know 25 (u := .bool false) rfl (congrArg Value.bool g25_18)
        refine seq_one (op_skip hf291 rfl rfl rfl rfl fun ac254 hf292 => ?_)
        refine seq_one (op_skip hf292 rfl rfl rfl rfl fun ac255 hf293 => ?_)
        refine seq_one (op_skip hf293 rfl rfl rfl rfl fun ac256 hf294 => ?_)
        refine seq_one (op_skip hf294 rfl rfl rfl rfl fun ac257 hf295 => ?_)
        refine seq_one (op_skip hf295 rfl rfl rfl rfl fun ac258 hf296 => ?_)
        refine seq_one (op_skip hf296 rfl rfl rfl rfl fun ac259 hf297 => ?_)
        refine seq_one (op_val (v := .bool false) hf297 rfl rfl rfl rfl rfl rfl (r_pickF rfl rfl) fun ac260 hf298 => ?_)
        refine seq_end ?_
        clear ac206 hf236 ac235 hf269 ac236 hf270 ac237 hf271 ac238 hf272 hf273 ac239 hf291 ac254 hf292 ac255 hf293 ac256 hf294 ac257 hf295 ac258 hf296 ac259 hf297
        refine then_normal ?_
        refine code_if_false hf298 rfl ?_
        refine wp_skip ?_
        refine then_normal ?_
        refine seq_start (l := [0, 1, 2]) rfl ?_
        refine seq_one (op_val (v := .agg #[.int .i64 w0, .int .i64 w1, .int .i64 w2, .int .i64 d0, .int .i64 d1, .int .i64 d2, .int .i64 1]) hf298 rfl rfl rfl rfl rfl rfl (r_loadW ag_29 sz_29 rfl (hI66.at 0 rfl) rfl) fun ac261 hf299 => ?_)
        refine seq_one (op_pure hf299 rfl rfl rfl rfl ca_21 (next_pur1 w0 w1 w2 d0 d1 d2 hv hx1.1) hI66 fun ac262 wd46 hI82 hf300 => ?_)
        refine seq_one (op_storeW (cells := #[.int .i64 w0, .int .i64 w1, .int .i64 w2, .int .i64 d0, .int .i64 d1, .int .i64 (mn2 d2 w2), .int .i64 2]) 0 hf300 rfl rfl rfl rfl rfl sz_29 rfl rfl hI82 rfl rfl fun wd47 hI83 => ?_)
        have hI84 : Inv w [(b1, #[.int .i64 w0, .int .i64 w1, .int .i64 w2, .int .i64 d0, .int .i64 d1, .int .i64 (mn2 d2 w2), .int .i64 2], 29), (b2, #[.bool h0, .bool h1, .bool h2], 33), (b3, #[.int .i64 0, .int .i64 0, .int .i64 0, .int .i64 0, .int .i64 0, .int .i64 0, .int .i64 0], 29)] wd47 := hI83
        refine seq_end ?_
        clear ac260 hf298 ac261 wd37 hI66 hf299 wd46 hI82 hI83
        refine block_normal ?_
        refine then_normal ?_
        have hg : good h0 h1 h2 ⟨d0, d1, d2, 1⟩ = false := (good_eq1.trans (gf (.inl g25_18)))
        exact ⟨(d0, d1, mn2 d2 w2, 2), (hf300.cons 0 rfl (hf300.cons 1 rfl (hf300.cons 2 rfl (hf300.cons 3 rfl (hf300.cons 4 rfl (hf300.cons 7 rfl (hf300.cons 8 rfl (hf300.cons 9 rfl (hf300.cons 10 rfl (hf300.cons 14 rfl (hf300.cons 15 rfl (hf300.cons 19 rfl hf300.nil)))))))))))), ⟨hI84, ⟨nxt_ok (s := ⟨d0, d1, d2, 1⟩) hv hx1.1, (pickS_step (s := ⟨d0, d1, d2, 1⟩) (w0 := w0) (w1 := w1) (w2 := w2) ha hv (.inr (.inl rfl)) hg).symm.trans hx1.2⟩⟩, meas_lt (s := ⟨d0, d1, d2, 1⟩) (w0 := w0) (w1 := w1) (w2 := w2) ha hv (.inr (.inl rfl)) hg⟩
    ·
      refine wp_block ?_
      refine code_seq ?_
      refine code_seq ?_
      refine seq_start (l := [0, 1, 2, 3, 4, 5, 6, 7, 8, 9, 10, 11]) rfl ?_
      refine seq_one (op_val (v := .pointer (some ⟨b1, 6, none⟩)) hf236 rfl rfl rfl rfl rfl rfl (r_fieldAddr fi_29_2 rfl rfl) fun ac263 hf301 => ?_)
      refine seq_one (op_val (v := .int .i64 2) hf301 rfl rfl rfl rfl rfl rfl (r_load ag_3 rfl (hI66.at 0 rfl) rfl) fun ac264 hf302 => ?_)
      refine seq_one (op_val (v := .pointer (some ⟨b2, 2, none⟩)) hf302 rfl rfl rfl rfl rfl rfl (r_indexAddr (i := 2) ar_33 rfl rfl rfl (by decide) rfl) fun ac265 hf303 => ?_)
      refine seq_one (op_val (v := .bool h2) hf303 rfl rfl rfl rfl rfl rfl (r_load ag_4 rfl (hI66.at 1 rfl) rfl) fun ac266 hf304 => ?_)
      refine seq_one (op_val (v := .bool h2) hf304 rfl rfl rfl rfl rfl rfl (r_move rfl) fun ac267 hf305 => ?_)
      rcases Bool.eq_false_or_eq_true (h2 : Bool) with g25_20 | g25_20
      · have hf306 := hf305.know 25 (u := .bool true) rfl (congrArg Value.bool g25_20)
        refine seq_one (op_val (v := .pointer (some ⟨b1, 6, none⟩)) hf306 rfl rfl rfl rfl rfl rfl (r_fieldAddr fi_29_2 rfl rfl) fun ac268 hf307 => ?_)
        refine seq_one (op_val (v := .int .i64 2) hf307 rfl rfl rfl rfl rfl rfl (r_load ag_3 rfl (hI66.at 0 rfl) rfl) fun ac269 hf308 => ?_)
        refine seq_one (op_val (v := .pointer (some ⟨b1, 3, none⟩)) hf308 rfl rfl rfl rfl rfl rfl (r_fieldAddr fi_29_1 rfl rfl) fun ac270 hf309 => ?_)
        refine seq_one (op_val (v := .pointer (some ⟨b1, 5, none⟩)) hf309 rfl rfl rfl rfl rfl rfl (r_indexAddr (i := 2) ar_22 rfl rfl rfl (by decide) rfl) fun ac271 hf310 => ?_)
        refine seq_one (op_val (v := .int .i64 d2) hf310 rfl rfl rfl rfl rfl rfl (r_load ag_3 rfl (hI66.at 0 rfl) rfl) fun ac272 hf311 => ?_)
        refine seq_one (op_val (v := .bool (decide (d2 > 0))) hf311 rfl rfl rfl rfl rfl rfl (r_gtr rfl rfl) fun ac273 hf312 => ?_)
        refine seq_one (op_val (v := .bool (decide (d2 > 0))) hf312 rfl rfl rfl rfl rfl rfl (r_pickT rfl rfl) fun ac274 hf313 => ?_)
        refine seq_end ?_
        clear ac206 hf236 ac263 hf301 ac264 hf302 ac265 hf303 ac266 hf304 hf305 ac267 hf306 ac268 hf307 ac269 hf308 ac270 hf309 ac271 hf310 ac272 hf311 ac273 hf312
        refine then_normal ?_
        refine code_if hf313 rfl (fun c32_21 => ?_) (fun c32_21 => ?_)
        · have hf314 := hf313.know 32 (u := .bool true) rfl (congrArg Value.bool c32_21)
          refine code_seq ?_
          refine any_start (fun w => Has [(b1, #[.int .i64 w0, .int .i64 w1, .int .i64 w2, .int .i64 d0, .int .i64 d1, .int .i64 d2, .int .i64 2], 29)] w) follows (Has.drew (Has.cons (hI66.at 0 rfl) Has.nil)) ?_
          have hS17 : Has [(b1, #[.int .i64 w0, .int .i64 w1, .int .i64 w2, .int .i64 d0, .int .i64 d1, .int .i64 d2, .int .i64 2], 29)] _ := Has.drew (Has.cons (hI66.at 0 rfl) Has.nil)
          have hI85 := hI66.drew
          refine any_val (i := 0) (v := .agg #[.int .i64 w0, .int .i64 w1, .int .i64 w2, .int .i64 d0, .int .i64 d1, .int .i64 d2, .int .i64 2]) hf314 rfl rfl rfl rfl rfl rfl (fun _ _ _ h => h) (by kernel_rfl) (by kernel_rfl) (by kernel_rfl) (fun wd37 hS17 => (r_loadW ag_29 sz_29 rfl (hS17.at 0 rfl) rfl)) hS17 fun ac275 hf315 => ?_
          refine any_val (i := 1) (v := .pointer (some ⟨b1, 6, none⟩)) hf315 rfl rfl rfl rfl rfl rfl (fun _ _ _ h => h) (by kernel_rfl) (by kernel_rfl) (by kernel_rfl) (fun wd37 hS17 => (r_fieldAddr fi_29_2 rfl rfl)) hS17 fun ac276 hf316 => ?_
          refine any_val (i := 2) (v := .int .i64 2) hf316 rfl rfl rfl rfl rfl rfl (fun _ _ _ h => h) (by kernel_rfl) (by kernel_rfl) (by kernel_rfl) (fun wd37 hS17 => (r_load ag_3 rfl (hS17.at 0 rfl) rfl)) hS17 fun ac277 hf317 => ?_
          refine any_one (i := 3) (by kernel_rfl) ?_
          refine (op_storeW (cells := #[.int .i64 w0, .int .i64 w1, .int .i64 w2, .int .i64 d0, .int .i64 d1, .int .i64 d2, .int .i64 2]) 2 hf317 rfl rfl rfl rfl rfl sz_29 rfl rfl hI85 rfl rfl fun wd48 hI86 => ⟨?_, ?_⟩)
          · exact (Has.cons (hI86.at 0 rfl) Has.nil)
          have hI87 : Inv w [(b1, #[.int .i64 w0, .int .i64 w1, .int .i64 w2, .int .i64 d0, .int .i64 d1, .int .i64 d2, .int .i64 2], 29), (b2, #[.bool h0, .bool h1, .bool h2], 33), (b3, #[.int .i64 w0, .int .i64 w1, .int .i64 w2, .int .i64 d0, .int .i64 d1, .int .i64 d2, .int .i64 2], 29)] wd48 := hI86
          have hS18 : Has [(b1, #[.int .i64 w0, .int .i64 w1, .int .i64 w2, .int .i64 d0, .int .i64 d1, .int .i64 d2, .int .i64 2], 29)] _ := (Has.cons (hI87.at 0 rfl) Has.nil)
          refine any_val (i := 4) (v := .int .i64 2) hf317 rfl rfl rfl rfl rfl rfl (fun _ _ _ h => h) (by kernel_rfl) (by kernel_rfl) (by kernel_rfl) (fun wd48 hS18 => (r_assign rfl)) hS18 fun ac278 hf318 => ?_
          refine any_val (i := 5) (v := .bool true) hf318 rfl rfl rfl rfl rfl rfl (fun _ _ _ h => h) (by kernel_rfl) (by kernel_rfl) (by kernel_rfl) (fun wd48 hS18 => (r_assign rfl)) hS18 fun ac279 hf319 => ?_
          refine any_end (by kernel_rfl) ?_
          clear hf313 hI66 ac274 hf314 ac275 hf315 ac276 hf316 wd37 hI85 hI86 hS17 ac277 hf317 ac278 hf318 hS18
          refine then_normal ?_
          refine wp_ret ?_
          refine then_ret ?_
          refine block_ret ?_
          refine then_ret ?_
          refine block_ret ?_
          refine postC2 rfl hf319 rfl ag_29 sz_29 (hI87.at 2 rfl) rfl rfl rfl ⟨?_, hI87.done (fresh_keys (ks := [b1, b2, b3]) rfl (fk_cons hb1 (fk_cons hb2 (fk_cons hb3 fk_nil))))⟩
          have hg : good h0 h1 h2 ⟨d0, d1, d2, 2⟩ = true := good_eq2.trans (gt g25_20 (of_decide_eq_true c32_21))
          have e1 := hx1.2.symm.trans (pickS_good (w0 := w0) (w1 := w1) (w2 := w2) ha hg)
          rw [pickN_some ha, ha, e1]
        · have hf320 := hf313.know 32 (u := .bool false) rfl (congrArg Value.bool c32_21)
          refine wp_skip ?_
          refine then_normal ?_
          refine seq_start (l := [0, 1, 2]) rfl ?_
          refine seq_one (op_val (v := .agg #[.int .i64 w0, .int .i64 w1, .int .i64 w2, .int .i64 d0, .int .i64 d1, .int .i64 d2, .int .i64 2]) hf320 rfl rfl rfl rfl rfl rfl (r_loadW ag_29 sz_29 rfl (hI66.at 0 rfl) rfl) fun ac280 hf321 => ?_)
          refine seq_one (op_pure hf321 rfl rfl rfl rfl ca_21 (next_pur2 w0 w1 w2 d0 d1 d2 hv hx1.1) hI66 fun ac281 wd49 hI88 hf322 => ?_)
          refine seq_one (op_storeW (cells := #[.int .i64 w0, .int .i64 w1, .int .i64 w2, .int .i64 (mn2 d0 w0), .int .i64 d1, .int .i64 d2, .int .i64 0]) 0 hf322 rfl rfl rfl rfl rfl sz_29 rfl rfl hI88 rfl rfl fun wd50 hI89 => ?_)
          have hI90 : Inv w [(b1, #[.int .i64 w0, .int .i64 w1, .int .i64 w2, .int .i64 (mn2 d0 w0), .int .i64 d1, .int .i64 d2, .int .i64 0], 29), (b2, #[.bool h0, .bool h1, .bool h2], 33), (b3, #[.int .i64 0, .int .i64 0, .int .i64 0, .int .i64 0, .int .i64 0, .int .i64 0, .int .i64 0], 29)] wd50 := hI89
          refine seq_end ?_
          clear hf313 ac274 hf320 ac280 wd37 hI66 hf321 wd49 hI88 hI89
          refine block_normal ?_
          refine then_normal ?_
          have hg : good h0 h1 h2 ⟨d0, d1, d2, 2⟩ = false := (good_eq2.trans (gf (.inr (Int.not_lt.1 (of_decide_eq_false c32_21)))))
          exact ⟨(mn2 d0 w0, d1, d2, 0), (hf322.cons 0 rfl (hf322.cons 1 rfl (hf322.cons 2 rfl (hf322.cons 3 rfl (hf322.cons 4 rfl (hf322.cons 7 rfl (hf322.cons 8 rfl (hf322.cons 9 rfl (hf322.cons 10 rfl (hf322.cons 14 rfl (hf322.cons 15 rfl (hf322.cons 19 rfl hf322.nil)))))))))))), ⟨hI90, ⟨nxt_ok (s := ⟨d0, d1, d2, 2⟩) hv hx1.1, (pickS_step (s := ⟨d0, d1, d2, 2⟩) (w0 := w0) (w1 := w1) (w2 := w2) ha hv (.inr (.inr rfl)) hg).symm.trans hx1.2⟩⟩, meas_lt (s := ⟨d0, d1, d2, 2⟩) (w0 := w0) (w1 := w1) (w2 := w2) ha hv (.inr (.inr rfl)) hg⟩
      · have hf323 := hf305.know 25 (u := .bool false) rfl (congrArg Value.bool g25_20)
        refine seq_one (op_skip hf323 rfl rfl rfl rfl fun ac282 hf324 => ?_)
        refine seq_one (op_skip hf324 rfl rfl rfl rfl fun ac283 hf325 => ?_)
        refine seq_one (op_skip hf325 rfl rfl rfl rfl fun ac284 hf326 => ?_)
        refine seq_one (op_skip hf326 rfl rfl rfl rfl fun ac285 hf327 => ?_)
        refine seq_one (op_skip hf327 rfl rfl rfl rfl fun ac286 hf328 => ?_)
        refine seq_one (op_skip hf328 rfl rfl rfl rfl fun ac287 hf329 => ?_)
        refine seq_one (op_val (v := .bool false) hf329 rfl rfl rfl rfl rfl rfl (r_pickF rfl rfl) fun ac288 hf330 => ?_)
        refine seq_end ?_
        clear ac206 hf236 ac263 hf301 ac264 hf302 ac265 hf303 ac266 hf304 hf305 ac267 hf323 ac282 hf324 ac283 hf325 ac284 hf326 ac285 hf327 ac286 hf328 ac287 hf329
        refine then_normal ?_
        refine code_if_false hf330 rfl ?_
        refine wp_skip ?_
        refine then_normal ?_
        refine seq_start (l := [0, 1, 2]) rfl ?_
        refine seq_one (op_val (v := .agg #[.int .i64 w0, .int .i64 w1, .int .i64 w2, .int .i64 d0, .int .i64 d1, .int .i64 d2, .int .i64 2]) hf330 rfl rfl rfl rfl rfl rfl (r_loadW ag_29 sz_29 rfl (hI66.at 0 rfl) rfl) fun ac289 hf331 => ?_)
        refine seq_one (op_pure hf331 rfl rfl rfl rfl ca_21 (next_pur2 w0 w1 w2 d0 d1 d2 hv hx1.1) hI66 fun ac290 wd51 hI91 hf332 => ?_)
        refine seq_one (op_storeW (cells := #[.int .i64 w0, .int .i64 w1, .int .i64 w2, .int .i64 (mn2 d0 w0), .int .i64 d1, .int .i64 d2, .int .i64 0]) 0 hf332 rfl rfl rfl rfl rfl sz_29 rfl rfl hI91 rfl rfl fun wd52 hI92 => ?_)
        have hI93 : Inv w [(b1, #[.int .i64 w0, .int .i64 w1, .int .i64 w2, .int .i64 (mn2 d0 w0), .int .i64 d1, .int .i64 d2, .int .i64 0], 29), (b2, #[.bool h0, .bool h1, .bool h2], 33), (b3, #[.int .i64 0, .int .i64 0, .int .i64 0, .int .i64 0, .int .i64 0, .int .i64 0, .int .i64 0], 29)] wd52 := hI92
        refine seq_end ?_
        clear ac288 hf330 ac289 wd37 hI66 hf331 wd51 hI91 hI92
        refine block_normal ?_
        refine then_normal ?_
        have hg : good h0 h1 h2 ⟨d0, d1, d2, 2⟩ = false := (good_eq2.trans (gf (.inl g25_20)))
        exact ⟨(mn2 d0 w0, d1, d2, 0), (hf332.cons 0 rfl (hf332.cons 1 rfl (hf332.cons 2 rfl (hf332.cons 3 rfl (hf332.cons 4 rfl (hf332.cons 7 rfl (hf332.cons 8 rfl (hf332.cons 9 rfl (hf332.cons 10 rfl (hf332.cons 14 rfl (hf332.cons 15 rfl (hf332.cons 19 rfl hf332.nil)))))))))))), ⟨hI93, ⟨nxt_ok (s := ⟨d0, d1, d2, 2⟩) hv hx1.1, (pickS_step (s := ⟨d0, d1, d2, 2⟩) (w0 := w0) (w1 := w1) (w2 := w2) ha hv (.inr (.inr rfl)) hg).symm.trans hx1.2⟩⟩, meas_lt (s := ⟨d0, d1, d2, 2⟩) (w0 := w0) (w1 := w1) (w2 := w2) ha hv (.inr (.inr rfl)) hg⟩
end Go.Proofs.Ytkfilmdnpocinaa
