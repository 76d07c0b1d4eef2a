/-
  The reference's Wrong: what each call comes to.
-/
import Derived.Test.YtakkookpjhaekaaDoorCFns2
namespace Go.Proofs.YtakkookpjhaekaaDoor
set_option linter.unusedVariables false
set_option linter.unusedSimpArgs false
set_option maxRecDepth 100000
open Go.RowKit
set_option maxHeartbeats 8000000 in
theorem wrongR_pur (x0 x1 x2 x3 x4 x5 x6 x7 x8 x9 x10 x11 x12 x13 x14 x15 x16 x17 x18 x19 x20 x21 x22 x23 x24 x25 x26 x27 x28 x29 x31 x32 x33 x34 x35 x36 : Int) (x30 : Bool) (ink : InK .u8 [x13, x14, x15, x16, x17, x18, x19, x20, x21, x22, x23, x24, x25, x26, x27, x28]) : Pur Tryd.prog 25 [.agg #[.int .i64 x0, .int .i64 x1, .int .i64 x2, .int .i64 x3, .int .i64 x4, .int .i64 x5, .int .i64 x6, .int .u64 x7, .int .u64 x8, .int .u64 x9, .int .i64 x10, .int .i64 x11, .int .i64 x12, .int .u8 x13, .int .u8 x14, .int .u8 x15, .int .u8 x16, .int .u8 x17, .int .u8 x18, .int .u8 x19, .int .u8 x20, .int .u8 x21, .int .u8 x22, .int .u8 x23, .int .u8 x24, .int .u8 x25, .int .u8 x26, .int .u8 x27, .int .u8 x28, .int .u64 x29, .bool x30, .int .u64 x31, .int .i64 x32, .int .u64 x33, .int .i64 x34, .int .i64 x35, .int .i64 x36]] (.int .u8 (wrongF x0 x1 x2 x3 x4 x5 x6 x8 x9 x10 x11 x12 [x13, x14, x15, x16, x17, x18, x19, x20, x21, x22, x23, x24, x25, x26, x27, x28] x29 x32 x33 x34 x35 x36)) := by
  intro w
  have hI1 := Inv.start w
  refine enter (n := 127) Tryd.func25 rfl rfl rfl ?_
  intro ac1 hf1
  refine code_seq ?_
  refine seq_start (l := [0, 1]) rfl ?_
  refine seq_one (op_box hf1 rfl rfl rfl rfl hI1 fun ac2 b1 wd1 hb1 hI2 hf2 => ?_)
  have hI3 : Inv w [(b1, #[.int .i64 x0, .int .i64 x1, .int .i64 x2, .int .i64 x3, .int .i64 x4, .int .i64 x5, .int .i64 x6, .int .u64 x7, .int .u64 x8, .int .u64 x9, .int .i64 x10, .int .i64 x11, .int .i64 x12, .int .u8 x13, .int .u8 x14, .int .u8 x15, .int .u8 x16, .int .u8 x17, .int .u8 x18, .int .u8 x19, .int .u8 x20, .int .u8 x21, .int .u8 x22, .int .u8 x23, .int .u8 x24, .int .u8 x25, .int .u8 x26, .int .u8 x27, .int .u8 x28, .int .u64 x29, .bool x30, .int .u64 x31, .int .i64 x32, .int .u64 x33, .int .i64 x34, .int .i64 x35, .int .i64 x36], 41)] wd1 := hI2
  refine seq_one (op_val (v := .int .u8 0) hf2 rfl rfl rfl rfl rfl rfl (r_assign rfl) fun ac3 hf3 => ?_)
  refine seq_end ?_
  clear ac1 hI1 hf1 hI2 ac2 hf2
  refine then_normal ?_
  refine code_seq ?_
  refine code_seq ?_
  refine seq_start (l := [0, 1, 2, 3, 4, 5, 6, 7]) rfl ?_
  refine seq_one (op_val (v := .pointer (some ⟨b1, 0, none⟩)) hf3 rfl rfl rfl rfl rfl rfl (r_fieldAddr fi_41_0 rfl rfl) fun ac4 hf4 => ?_)
  refine seq_one (op_val (v := .int .i64 x0) hf4 rfl rfl rfl rfl rfl rfl (r_load ag_3 rfl (hI3.at 0 rfl) rfl) fun ac5 hf5 => ?_)
  refine seq_one (op_val (v := .bool (decide (x0 < 1))) hf5 rfl rfl rfl rfl rfl rfl (r_lss rfl rfl) fun ac6 hf6 => ?_)
  refine seq_one (op_val (v := .bool (decide (x0 < 1))) hf6 rfl rfl rfl rfl rfl rfl (r_move rfl) fun ac7 hf7 => ?_)
  rcases Bool.eq_false_or_eq_true (decide (x0 < 1) : Bool) with g7_1 | g7_1
  · have hf8 := hf7.know 7 (u := .bool true) rfl (congrArg Value.bool g7_1)
    refine seq_one (op_skip hf8 rfl rfl rfl rfl fun ac8 hf9 => ?_)
    refine seq_one (op_skip hf9 rfl rfl rfl rfl fun ac9 hf10 => ?_)
    refine seq_one (op_skip hf10 rfl rfl rfl rfl fun ac10 hf11 => ?_)
    refine seq_one (op_val (v := .bool true) hf11 rfl rfl rfl rfl rfl rfl (r_pickT rfl rfl) fun ac11 hf12 => ?_)
    refine seq_end ?_
    clear ac3 hf3 ac4 hf4 ac5 hf5 ac6 hf6 hf7 ac7 hf8 ac8 hf9 ac9 hf10 ac10 hf11
    refine then_normal ?_
    refine code_if_true hf12 rfl ?_
    refine code_seq ?_
    refine seq_start (l := [0]) rfl ?_
    refine seq_one (op_val (v := .int .u8 1) hf12 rfl rfl rfl rfl rfl rfl (r_assign rfl) fun ac12 hf13 => ?_)
    refine seq_end ?_
    clear ac11 hf12
    refine then_normal ?_
    refine wp_ret ?_
    refine then_ret ?_
    refine post1 rfl hf13 rfl ⟨?_, hI3.done (fresh_keys (ks := [b1]) rfl (fk_cons hb1 fk_nil))⟩
    simp only [decide_eq_true_eq, decide_eq_false_iff_not, Bool.not_eq_true', Bool.not_eq_false'] at g7_1
    have e1 : (!(inR x0 1 65536)) = true := by simp [inR, g7_1] <;> omega
    unfold wrongF
    simp only [e1, cond_true, cond_false]
  · have hf14 := hf7.know 7 (u := .bool false) rfl (congrArg Value.bool g7_1)
    refine seq_one (op_val (v := .pointer (some ⟨b1, 0, none⟩)) hf14 rfl rfl rfl rfl rfl rfl (r_fieldAddr fi_41_0 rfl rfl) fun ac13 hf15 => ?_)
    refine seq_one (op_val (v := .int .i64 x0) hf15 rfl rfl rfl rfl rfl rfl (r_load ag_3 rfl (hI3.at 0 rfl) rfl) fun ac14 hf16 => ?_)
    refine seq_one (op_val (v := .bool (decide (x0 > 65536))) hf16 rfl rfl rfl rfl rfl rfl (r_gtr rfl rfl) fun ac15 hf17 => ?_)
    refine seq_one (op_val (v := .bool (decide (x0 > 65536))) hf17 rfl rfl rfl rfl rfl rfl (r_pickF rfl rfl) fun ac16 hf18 => ?_)
    refine seq_end ?_
    clear ac3 hf3 ac4 hf4 ac5 hf5 ac6 hf6 hf7 ac7 hf14 ac13 hf15 ac14 hf16 ac15 hf17
    refine then_normal ?_
    refine code_if hf18 rfl (fun c11_2 => ?_) (fun c11_2 => ?_)
    · have hf19 := hf18.know 11 (u := .bool true) rfl (congrArg Value.bool c11_2)
      refine code_seq ?_
      refine seq_start (l := [0]) rfl ?_
      refine seq_one (op_val (v := .int .u8 1) hf19 rfl rfl rfl rfl rfl rfl (r_assign rfl) fun ac17 hf20 => ?_)
      refine seq_end ?_
      clear hf18 ac16 hf19
      refine then_normal ?_
      refine wp_ret ?_
      refine then_ret ?_
      refine post1 rfl hf20 rfl ⟨?_, hI3.done (fresh_keys (ks := [b1]) rfl (fk_cons hb1 fk_nil))⟩
      simp only [decide_eq_true_eq, decide_eq_false_iff_not, Bool.not_eq_true', Bool.not_eq_false'] at g7_1 c11_2
      have e1 : (!(inR x0 1 65536)) = true := by simp [inR, g7_1, c11_2] <;> omega
      unfold wrongF
      simp only [e1, cond_true, cond_false]
    · have hf21 := hf18.know 11 (u := .bool false) rfl (congrArg Value.bool c11_2)
      refine wp_skip ?_
      refine then_normal ?_
      refine code_seq ?_
      refine code_seq ?_
      refine seq_start (l := [0, 1, 2, 3, 4, 5, 6, 7]) rfl ?_
      refine seq_one (op_val (v := .pointer (some ⟨b1, 1, none⟩)) hf21 rfl rfl rfl rfl rfl rfl (r_fieldAddr fi_41_1 rfl rfl) fun ac18 hf22 => ?_)
      refine seq_one (op_val (v := .int .i64 x1) hf22 rfl rfl rfl rfl rfl rfl (r_load ag_3 rfl (hI3.at 0 rfl) rfl) fun ac19 hf23 => ?_)
      refine seq_one (op_val (v := .bool (decide (x1 < 1))) hf23 rfl rfl rfl rfl rfl rfl (r_lss rfl rfl) fun ac20 hf24 => ?_)
      refine seq_one (op_val (v := .bool (decide (x1 < 1))) hf24 rfl rfl rfl rfl rfl rfl (r_move rfl) fun ac21 hf25 => ?_)
      rcases Bool.eq_false_or_eq_true (decide (x1 < 1) : Bool) with g15_3 | g15_3
      · have hf26 := hf25.know 15 (u := .bool true) rfl (congrArg Value.bool g15_3)
        refine seq_one (op_skip hf26 rfl rfl rfl rfl fun ac22 hf27 => ?_)
        refine seq_one (op_skip hf27 rfl rfl rfl rfl fun ac23 hf28 => ?_)
        refine seq_one (op_skip hf28 rfl rfl rfl rfl fun ac24 hf29 => ?_)
        refine seq_one (op_val (v := .bool true) hf29 rfl rfl rfl rfl rfl rfl (r_pickT rfl rfl) fun ac25 hf30 => ?_)
        refine seq_end ?_
        clear hf18 ac16 hf21 ac18 hf22 ac19 hf23 ac20 hf24 hf25 ac21 hf26 ac22 hf27 ac23 hf28 ac24 hf29
        refine then_normal ?_
        refine code_if_true hf30 rfl ?_
        refine code_seq ?_
        refine seq_start (l := [0]) rfl ?_
        refine seq_one (op_val (v := .int .u8 2) hf30 rfl rfl rfl rfl rfl rfl (r_assign rfl) fun ac26 hf31 => ?_)
        refine seq_end ?_
        clear ac25 hf30
        refine then_normal ?_
        refine wp_ret ?_
        refine then_ret ?_
        refine post1 rfl hf31 rfl ⟨?_, hI3.done (fresh_keys (ks := [b1]) rfl (fk_cons hb1 fk_nil))⟩
        simp only [decide_eq_true_eq, decide_eq_false_iff_not, Bool.not_eq_true', Bool.not_eq_false'] at g7_1 c11_2
        have e1 : (!(inR x0 1 65536)) = false := by simp [inR, g7_1, c11_2] <;> omega
        simp only [decide_eq_true_eq, decide_eq_false_iff_not, Bool.not_eq_true', Bool.not_eq_false'] at g15_3
        have e2 : (!(inR x1 1 4096)) = true := by simp [inR, g15_3] <;> omega
        unfold wrongF
        simp only [e1, e2, cond_true, cond_false]
      · have hf32 := hf25.know 15 (u := .bool false) rfl (congrArg Value.bool g15_3)
        refine seq_one (op_val (v := .pointer (some ⟨b1, 1, none⟩)) hf32 rfl rfl rfl rfl rfl rfl (r_fieldAddr fi_41_1 rfl rfl) fun ac27 hf33 => ?_)
        refine seq_one (op_val (v := .int .i64 x1) hf33 rfl rfl rfl rfl rfl rfl (r_load ag_3 rfl (hI3.at 0 rfl) rfl) fun ac28 hf34 => ?_)
        refine seq_one (op_val (v := .bool (decide (x1 > 4096))) hf34 rfl rfl rfl rfl rfl rfl (r_gtr rfl rfl) fun ac29 hf35 => ?_)
        refine seq_one (op_val (v := .bool (decide (x1 > 4096))) hf35 rfl rfl rfl rfl rfl rfl (r_pickF rfl rfl) fun ac30 hf36 => ?_)
        refine seq_end ?_
        clear hf18 ac16 hf21 ac18 hf22 ac19 hf23 ac20 hf24 hf25 ac21 hf32 ac27 hf33 ac28 hf34 ac29 hf35
        refine then_normal ?_
        refine code_if hf36 rfl (fun c19_4 => ?_) (fun c19_4 => ?_)
        · have hf37 := hf36.know 19 (u := .bool true) rfl (congrArg Value.bool c19_4)
          refine code_seq ?_
          refine seq_start (l := [0]) rfl ?_
          refine seq_one (op_val (v := .int .u8 2) hf37 rfl rfl rfl rfl rfl rfl (r_assign rfl) fun ac31 hf38 => ?_)
          refine seq_end ?_
          clear hf36 ac30 hf37
          refine then_normal ?_
          refine wp_ret ?_
          refine then_ret ?_
          refine post1 rfl hf38 rfl ⟨?_, hI3.done (fresh_keys (ks := [b1]) rfl (fk_cons hb1 fk_nil))⟩
          simp only [decide_eq_true_eq, decide_eq_false_iff_not, Bool.not_eq_true', Bool.not_eq_false'] at g7_1 c11_2
          have e1 : (!(inR x0 1 65536)) = false := by simp [inR, g7_1, c11_2] <;> omega
          simp only [decide_eq_true_eq, decide_eq_false_iff_not, Bool.not_eq_true', Bool.not_eq_false'] at g15_3 c19_4
          have e2 : (!(inR x1 1 4096)) = true := by simp [inR, g15_3, c19_4] <;> omega
          unfold wrongF
          simp only [e1, e2, cond_true, cond_false]
        · have hf39 := hf36.know 19 (u := .bool false) rfl (congrArg Value.bool c19_4)
          refine wp_skip ?_
          refine then_normal ?_
          refine code_seq ?_
          refine code_seq ?_
          refine seq_start (l := [0, 1, 2, 3, 4, 5, 6, 7]) rfl ?_
          refine seq_one (op_val (v := .pointer (some ⟨b1, 2, none⟩)) hf39 rfl rfl rfl rfl rfl rfl (r_fieldAddr fi_41_2 rfl rfl) fun ac32 hf40 => ?_)
          refine seq_one (op_val (v := .int .i64 x2) hf40 rfl rfl rfl rfl rfl rfl (r_load ag_3 rfl (hI3.at 0 rfl) rfl) fun ac33 hf41 => ?_)
          refine seq_one (op_val (v := .bool (decide (x2 < 0))) hf41 rfl rfl rfl rfl rfl rfl (r_lss rfl rfl) fun ac34 hf42 => ?_)
          refine seq_one (op_val (v := .bool (decide (x2 < 0))) hf42 rfl rfl rfl rfl rfl rfl (r_move rfl) fun ac35 hf43 => ?_)
          rcases Bool.eq_false_or_eq_true (decide (x2 < 0) : Bool) with g23_5 | g23_5
          · have hf44 := hf43.know 23 (u := .bool true) rfl (congrArg Value.bool g23_5)
            refine seq_one (op_skip hf44 rfl rfl rfl rfl fun ac36 hf45 => ?_)
            refine seq_one (op_skip hf45 rfl rfl rfl rfl fun ac37 hf46 => ?_)
            refine seq_one (op_skip hf46 rfl rfl rfl rfl fun ac38 hf47 => ?_)
            refine seq_one (op_val (v := .bool true) hf47 rfl rfl rfl rfl rfl rfl (r_pickT rfl rfl) fun ac39 hf48 => ?_)
            refine seq_end ?_
            clear hf36 ac30 hf39 ac32 hf40 ac33 hf41 ac34 hf42 hf43 ac35 hf44 ac36 hf45 ac37 hf46 ac38 hf47
            refine then_normal ?_
            refine code_if_true hf48 rfl ?_
            refine code_seq ?_
            refine seq_start (l := [0]) rfl ?_
            refine seq_one (op_val (v := .int .u8 3) hf48 rfl rfl rfl rfl rfl rfl (r_assign rfl) fun ac40 hf49 => ?_)
            refine seq_end ?_
            clear ac39 hf48
            refine then_normal ?_
            refine wp_ret ?_
            refine then_ret ?_
            refine post1 rfl hf49 rfl ⟨?_, hI3.done (fresh_keys (ks := [b1]) rfl (fk_cons hb1 fk_nil))⟩
            simp only [decide_eq_true_eq, decide_eq_false_iff_not, Bool.not_eq_true', Bool.not_eq_false'] at g7_1 c11_2
            have e1 : (!(inR x0 1 65536)) = false := by simp [inR, g7_1, c11_2] <;> omega
            simp only [decide_eq_true_eq, decide_eq_false_iff_not, Bool.not_eq_true', Bool.not_eq_false'] at g15_3 c19_4
            have e2 : (!(inR x1 1 4096)) = false := by simp [inR, g15_3, c19_4] <;> omega
            simp only [decide_eq_true_eq, decide_eq_false_iff_not, Bool.not_eq_true', Bool.not_eq_false'] at g23_5
            have e3 : (!(inR x2 0 10)) = true := by simp [inR, g23_5] <;> omega
            unfold wrongF
            simp only [e1, e2, e3, cond_true, cond_false]
          · have hf50 := hf43.know 23 (u := .bool false) rfl (congrArg Value.bool g23_5)
            refine seq_one (op_val (v := .pointer (some ⟨b1, 2, none⟩)) hf50 rfl rfl rfl rfl rfl rfl (r_fieldAddr fi_41_2 rfl rfl) fun ac41 hf51 => ?_)
            refine seq_one (op_val (v := .int .i64 x2) hf51 rfl rfl rfl rfl rfl rfl (r_load ag_3 rfl (hI3.at 0 rfl) rfl) fun ac42 hf52 => ?_)
            refine seq_one (op_val (v := .bool (decide (x2 > 10))) hf52 rfl rfl rfl rfl rfl rfl (r_gtr rfl rfl) fun ac43 hf53 => ?_)
            refine seq_one (op_val (v := .bool (decide (x2 > 10))) hf53 rfl rfl rfl rfl rfl rfl (r_pickF rfl rfl) fun ac44 hf54 => ?_)
            refine seq_end ?_
            clear hf36 ac30 hf39 ac32 hf40 ac33 hf41 ac34 hf42 hf43 ac35 hf50 ac41 hf51 ac42 hf52 ac43 hf53
            refine then_normal ?_
            refine code_if hf54 rfl (fun c27_6 => ?_) (fun c27_6 => ?_)
            · have hf55 := hf54.know 27 (u := .bool true) rfl (congrArg Value.bool c27_6)
              refine code_seq ?_
              refine seq_start (l := [0]) rfl ?_
              refine seq_one (op_val (v := .int .u8 3) hf55 rfl rfl rfl rfl rfl rfl (r_assign rfl) fun ac45 hf56 => ?_)
              refine seq_end ?_
              clear hf54 ac44 hf55
              refine then_normal ?_
              refine wp_ret ?_
              refine then_ret ?_
              refine post1 rfl hf56 rfl ⟨?_, hI3.done (fresh_keys (ks := [b1]) rfl (fk_cons hb1 fk_nil))⟩
              simp only [decide_eq_true_eq, decide_eq_false_iff_not, Bool.not_eq_true', Bool.not_eq_false'] at g7_1 c11_2
              have e1 : (!(inR x0 1 65536)) = false := by simp [inR, g7_1, c11_2] <;> omega
              simp only [decide_eq_true_eq, decide_eq_false_iff_not, Bool.not_eq_true', Bool.not_eq_false'] at g15_3 c19_4
              have e2 : (!(inR x1 1 4096)) = false := by simp [inR, g15_3, c19_4] <;> omega
              simp only [decide_eq_true_eq, decide_eq_false_iff_not, Bool.not_eq_true', Bool.not_eq_false'] at g23_5 c27_6
              have e3 : (!(inR x2 0 10)) = true := by simp [inR, g23_5, c27_6] <;> omega
              unfold wrongF
              simp only [e1, e2, e3, cond_true, cond_false]
            · have hf57 := hf54.know 27 (u := .bool false) rfl (congrArg Value.bool c27_6)
              refine wp_skip ?_
              refine then_normal ?_
              refine code_seq ?_
              refine code_seq ?_
              refine seq_start (l := [0, 1, 2, 3, 4, 5, 6, 7, 8, 9, 10, 11, 12, 13, 14, 15, 16, 17, 18, 19, 20, 21]) rfl ?_
              refine seq_one (op_val (v := .pointer (some ⟨b1, 3, none⟩)) hf57 rfl rfl rfl rfl rfl rfl (r_fieldAddr fi_41_3 rfl rfl) fun ac46 hf58 => ?_)
              refine seq_one (op_val (v := .int .i64 x3) hf58 rfl rfl rfl rfl rfl rfl (r_load ag_3 rfl (hI3.at 0 rfl) rfl) fun ac47 hf59 => ?_)
              refine seq_one (op_val (v := .bool (decide (x3 < 1))) hf59 rfl rfl rfl rfl rfl rfl (r_lss rfl rfl) fun ac48 hf60 => ?_)
              refine seq_one (op_val (v := .bool (decide (x3 < 1))) hf60 rfl rfl rfl rfl rfl rfl (r_move rfl) fun ac49 hf61 => ?_)
              rcases Bool.eq_false_or_eq_true (decide (x3 < 1) : Bool) with g31_7 | g31_7
              · have hf62 := hf61.know 31 (u := .bool true) rfl (congrArg Value.bool g31_7)
                refine seq_one (op_skip hf62 rfl rfl rfl rfl fun ac50 hf63 => ?_)
                refine seq_one (op_skip hf63 rfl rfl rfl rfl fun ac51 hf64 => ?_)
                refine seq_one (op_skip hf64 rfl rfl rfl rfl fun ac52 hf65 => ?_)
                refine seq_one (op_skip hf65 rfl rfl rfl rfl fun ac53 hf66 => ?_)
                refine seq_one (op_skip hf66 rfl rfl rfl rfl fun ac54 hf67 => ?_)
                refine seq_one (op_val (v := .bool true) hf67 rfl rfl rfl rfl rfl rfl (r_pickT rfl rfl) fun ac55 hf68 => ?_)
                refine seq_one (op_val (v := .bool true) hf68 rfl rfl rfl rfl rfl rfl (r_move rfl) fun ac56 hf69 => ?_)
                refine seq_one (op_skip hf69 rfl rfl rfl rfl fun ac57 hf70 => ?_)
                refine seq_one (op_skip hf70 rfl rfl rfl rfl fun ac58 hf71 => ?_)
                refine seq_one (op_skip hf71 rfl rfl rfl rfl fun ac59 hf72 => ?_)
                refine seq_one (op_val (v := .bool true) hf72 rfl rfl rfl rfl rfl rfl (r_pickT rfl rfl) fun ac60 hf73 => ?_)
                refine seq_one (op_val (v := .bool true) hf73 rfl rfl rfl rfl rfl rfl (r_move rfl) fun ac61 hf74 => ?_)
                refine seq_one (op_skip hf74 rfl rfl rfl rfl fun ac62 hf75 => ?_)
                refine seq_one (op_skip hf75 rfl rfl rfl rfl fun ac63 hf76 => ?_)
                refine seq_one (op_skip hf76 rfl rfl rfl rfl fun ac64 hf77 => ?_)
                refine seq_one (op_skip hf77 rfl rfl rfl rfl fun ac65 hf78 => ?_)
                refine seq_one (op_skip hf78 rfl rfl rfl rfl fun ac66 hf79 => ?_)
                refine seq_one (op_val (v := .bool true) hf79 rfl rfl rfl rfl rfl rfl (r_pickT rfl rfl) fun ac67 hf80 => ?_)
                refine seq_end ?_
                clear hf54 ac44 hf57 ac46 hf58 ac47 hf59 ac48 hf60 hf61 ac49 hf62 ac50 hf63 ac51 hf64 ac52 hf65 ac53 hf66 ac54 hf67 ac55 hf68 ac56 hf69 ac57 hf70 ac58 hf71 ac59 hf72 ac60 hf73 ac61 hf74 ac62 hf75 ac63 hf76 ac64 hf77 ac65 hf78 ac66 hf79
                refine then_normal ?_
                refine code_if_true hf80 rfl ?_
                refine code_seq ?_
                refine seq_start (l := [0]) rfl ?_
                refine seq_one (op_val (v := .int .u8 4) hf80 rfl rfl rfl rfl rfl rfl (r_assign rfl) fun ac68 hf81 => ?_)
                refine seq_end ?_
                clear ac67 hf80
                refine then_normal ?_
                refine wp_ret ?_
                refine then_ret ?_
                refine post1 rfl hf81 rfl ⟨?_, hI3.done (fresh_keys (ks := [b1]) rfl (fk_cons hb1 fk_nil))⟩
                simp only [decide_eq_true_eq, decide_eq_false_iff_not, Bool.not_eq_true', Bool.not_eq_false'] at g7_1 c11_2
                have e1 : (!(inR x0 1 65536)) = false := by simp [inR, g7_1, c11_2] <;> omega
                simp only [decide_eq_true_eq, decide_eq_false_iff_not, Bool.not_eq_true', Bool.not_eq_false'] at g15_3 c19_4
                have e2 : (!(inR x1 1 4096)) = false := by simp [inR, g15_3, c19_4] <;> omega
                simp only [decide_eq_true_eq, decide_eq_false_iff_not, Bool.not_eq_true', Bool.not_eq_false'] at g23_5 c27_6
                have e3 : (!(inR x2 0 10)) = false := by simp [inR, g23_5, c27_6] <;> omega
                simp only [decide_eq_true_eq, decide_eq_false_iff_not, Bool.not_eq_true', Bool.not_eq_false'] at g31_7
                have e4 : (!(inR x3 1 x0 && inR x4 1 x0)) = true := by simp [inR, g31_7] <;> omega
                unfold wrongF
                simp only [e1, e2, e3, e4, cond_true, cond_false]
              · have hf82 := hf61.know 31 (u := .bool false) rfl (congrArg Value.bool g31_7)
                refine seq_one (op_val (v := .pointer (some ⟨b1, 3, none⟩)) hf82 rfl rfl rfl rfl rfl rfl (r_fieldAddr fi_41_3 rfl rfl) fun ac69 hf83 => ?_)
                refine seq_one (op_val (v := .int .i64 x3) hf83 rfl rfl rfl rfl rfl rfl (r_load ag_3 rfl (hI3.at 0 rfl) rfl) fun ac70 hf84 => ?_)
                refine seq_one (op_val (v := .pointer (some ⟨b1, 0, none⟩)) hf84 rfl rfl rfl rfl rfl rfl (r_fieldAddr fi_41_0 rfl rfl) fun ac71 hf85 => ?_)
                refine seq_one (op_val (v := .int .i64 x0) hf85 rfl rfl rfl rfl rfl rfl (r_load ag_3 rfl (hI3.at 0 rfl) rfl) fun ac72 hf86 => ?_)
                refine seq_one (op_val (v := .bool (decide (x3 > x0))) hf86 rfl rfl rfl rfl rfl rfl (r_gtr rfl rfl) fun ac73 hf87 => ?_)
                refine seq_one (op_val (v := .bool (decide (x3 > x0))) hf87 rfl rfl rfl rfl rfl rfl (r_pickF rfl rfl) fun ac74 hf88 => ?_)
                refine seq_one (op_val (v := .bool (decide (x3 > x0))) hf88 rfl rfl rfl rfl rfl rfl (r_move rfl) fun ac75 hf89 => ?_)
                rcases Bool.eq_false_or_eq_true (decide (x3 > x0) : Bool) with g38_8 | g38_8
                · have hf90 := hf89.know 38 (u := .bool true) rfl (congrArg Value.bool g38_8)
                  refine seq_one (op_skip hf90 rfl rfl rfl rfl fun ac76 hf91 => ?_)
                  refine seq_one (op_skip hf91 rfl rfl rfl rfl fun ac77 hf92 => ?_)
                  refine seq_one (op_skip hf92 rfl rfl rfl rfl fun ac78 hf93 => ?_)
                  refine seq_one (op_val (v := .bool true) hf93 rfl rfl rfl rfl rfl rfl (r_pickT rfl rfl) fun ac79 hf94 => ?_)
                  refine seq_one (op_val (v := .bool true) hf94 rfl rfl rfl rfl rfl rfl (r_move rfl) fun ac80 hf95 => ?_)
                  refine seq_one (op_skip hf95 rfl rfl rfl rfl fun ac81 hf96 => ?_)
                  refine seq_one (op_skip hf96 rfl rfl rfl rfl fun ac82 hf97 => ?_)
                  refine seq_one (op_skip hf97 rfl rfl rfl rfl fun ac83 hf98 => ?_)
                  refine seq_one (op_skip hf98 rfl rfl rfl rfl fun ac84 hf99 => ?_)
                  refine seq_one (op_skip hf99 rfl rfl rfl rfl fun ac85 hf100 => ?_)
                  refine seq_one (op_val (v := .bool true) hf100 rfl rfl rfl rfl rfl rfl (r_pickT rfl rfl) fun ac86 hf101 => ?_)
                  refine seq_end ?_
                  clear hf54 ac44 hf57 ac46 hf58 ac47 hf59 ac48 hf60 hf61 ac49 hf82 ac69 hf83 ac70 hf84 ac71 hf85 ac72 hf86 ac73 hf87 ac74 hf88 hf89 ac75 hf90 ac76 hf91 ac77 hf92 ac78 hf93 ac79 hf94 ac80 hf95 ac81 hf96 ac82 hf97 ac83 hf98 ac84 hf99 ac85 hf100
                  refine then_normal ?_
                  refine code_if_true hf101 rfl ?_
                  refine code_seq ?_
                  refine seq_start (l := [0]) rfl ?_
                  refine seq_one (op_val (v := .int .u8 4) hf101 rfl rfl rfl rfl rfl rfl (r_assign rfl) fun ac87 hf102 => ?_)
                  refine seq_end ?_
                  clear ac86 hf101
                  refine then_normal ?_
                  refine wp_ret ?_
                  refine then_ret ?_
                  refine post1 rfl hf102 rfl ⟨?_, hI3.done (fresh_keys (ks := [b1]) rfl (fk_cons hb1 fk_nil))⟩
                  simp only [decide_eq_true_eq, decide_eq_false_iff_not, Bool.not_eq_true', Bool.not_eq_false'] at g7_1 c11_2
                  have e1 : (!(inR x0 1 65536)) = false := by simp [inR, g7_1, c11_2] <;> omega
                  simp only [decide_eq_true_eq, decide_eq_false_iff_not, Bool.not_eq_true', Bool.not_eq_false'] at g15_3 c19_4
                  have e2 : (!(inR x1 1 4096)) = false := by simp [inR, g15_3, c19_4] <;> omega
                  simp only [decide_eq_true_eq, decide_eq_false_iff_not, Bool.not_eq_true', Bool.not_eq_false'] at g23_5 c27_6
                  have e3 : (!(inR x2 0 10)) = false := by simp [inR, g23_5, c27_6] <;> omega
                  simp only [decide_eq_true_eq, decide_eq_false_iff_not, Bool.not_eq_true', Bool.not_eq_false'] at g31_7 g38_8
                  have e4 : (!(inR x3 1 x0 && inR x4 1 x0)) = true := by simp [inR, g31_7, g38_8] <;> omega
                  unfold wrongF
                  simp only [e1, e2, e3, e4, cond_true, cond_false]
                · have hf103 := hf89.know 38 (u := .bool false) rfl (congrArg Value.bool g38_8)
                  refine seq_one (op_val (v := .pointer (some ⟨b1, 4, none⟩)) hf103 rfl rfl rfl rfl rfl rfl (r_fieldAddr fi_41_4 rfl rfl) fun ac88 hf104 => ?_)
                  refine seq_one (op_val (v := .int .i64 x4) hf104 rfl rfl rfl rfl rfl rfl (r_load ag_3 rfl (hI3.at 0 rfl) rfl) fun ac89 hf105 => ?_)
                  refine seq_one (op_val (v := .bool (decide (x4 < 1))) hf105 rfl rfl rfl rfl rfl rfl (r_lss rfl rfl) fun ac90 hf106 => ?_)
                  refine seq_one (op_val (v := .bool (decide (x4 < 1))) hf106 rfl rfl rfl rfl rfl rfl (r_pickF rfl rfl) fun ac91 hf107 => ?_)
                  refine seq_one (op_val (v := .bool (decide (x4 < 1))) hf107 rfl rfl rfl rfl rfl rfl (r_move rfl) fun ac92 hf108 => ?_)
                  rcases Bool.eq_false_or_eq_true (decide (x4 < 1) : Bool) with g43_9 | g43_9
                  · have hf109 := hf108.know 43 (u := .bool true) rfl (congrArg Value.bool g43_9)
                    refine seq_one (op_skip hf109 rfl rfl rfl rfl fun ac93 hf110 => ?_)
                    refine seq_one (op_skip hf110 rfl rfl rfl rfl fun ac94 hf111 => ?_)
                    refine seq_one (op_skip hf111 rfl rfl rfl rfl fun ac95 hf112 => ?_)
                    refine seq_one (op_skip hf112 rfl rfl rfl rfl fun ac96 hf113 => ?_)
                    refine seq_one (op_skip hf113 rfl rfl rfl rfl fun ac97 hf114 => ?_)
                    refine seq_one (op_val (v := .bool true) hf114 rfl rfl rfl rfl rfl rfl (r_pickT rfl rfl) fun ac98 hf115 => ?_)
                    refine seq_end ?_
                    clear hf54 ac44 hf57 ac46 hf58 ac47 hf59 ac48 hf60 hf61 ac49 hf82 ac69 hf83 ac70 hf84 ac71 hf85 ac72 hf86 ac73 hf87 ac74 hf88 hf89 ac75 hf103 ac88 hf104 ac89 hf105 ac90 hf106 ac91 hf107 hf108 ac92 hf109 ac93 hf110 ac94 hf111 ac95 hf112 ac96 hf113 ac97 hf114
                    refine then_normal ?_
                    refine code_if_true hf115 rfl ?_
                    refine code_seq ?_
                    refine seq_start (l := [0]) rfl ?_
                    refine seq_one (op_val (v := .int .u8 4) hf115 rfl rfl rfl rfl rfl rfl (r_assign rfl) fun ac99 hf116 => ?_)
                    refine seq_end ?_
                    clear ac98 hf115
                    refine then_normal ?_
                    refine wp_ret ?_
                    refine then_ret ?_
                    refine post1 rfl hf116 rfl ⟨?_, hI3.done (fresh_keys (ks := [b1]) rfl (fk_cons hb1 fk_nil))⟩
                    simp only [decide_eq_true_eq, decide_eq_false_iff_not, Bool.not_eq_true', Bool.not_eq_false'] at g7_1 c11_2
                    have e1 : (!(inR x0 1 65536)) = false := by simp [inR, g7_1, c11_2] <;> omega
                    simp only [decide_eq_true_eq, decide_eq_false_iff_not, Bool.not_eq_true', Bool.not_eq_false'] at g15_3 c19_4
                    have e2 : (!(inR x1 1 4096)) = false := by simp [inR, g15_3, c19_4] <;> omega
                    simp only [decide_eq_true_eq, decide_eq_false_iff_not, Bool.not_eq_true', Bool.not_eq_false'] at g23_5 c27_6
                    have e3 : (!(inR x2 0 10)) = false := by simp [inR, g23_5, c27_6] <;> omega
                    simp only [decide_eq_true_eq, decide_eq_false_iff_not, Bool.not_eq_true', Bool.not_eq_false'] at g31_7 g38_8 g43_9
                    have e4 : (!(inR x3 1 x0 && inR x4 1 x0)) = true := by simp [inR, g31_7, g38_8, g43_9] <;> omega
                    unfold wrongF
                    simp only [e1, e2, e3, e4, cond_true, cond_false]
                  · have hf117 := hf108.know 43 (u := .bool false) rfl (congrArg Value.bool g43_9)
                    refine seq_one (op_val (v := .pointer (some ⟨b1, 4, none⟩)) hf117 rfl rfl rfl rfl rfl rfl (r_fieldAddr fi_41_4 rfl rfl) fun ac100 hf118 => ?_)
                    refine seq_one (op_val (v := .int .i64 x4) hf118 rfl rfl rfl rfl rfl rfl (r_load ag_3 rfl (hI3.at 0 rfl) rfl) fun ac101 hf119 => ?_)
                    refine seq_one (op_val (v := .pointer (some ⟨b1, 0, none⟩)) hf119 rfl rfl rfl rfl rfl rfl (r_fieldAddr fi_41_0 rfl rfl) fun ac102 hf120 => ?_)
                    refine seq_one (op_val (v := .int .i64 x0) hf120 rfl rfl rfl rfl rfl rfl (r_load ag_3 rfl (hI3.at 0 rfl) rfl) fun ac103 hf121 => ?_)
                    refine seq_one (op_val (v := .bool (decide (x4 > x0))) hf121 rfl rfl rfl rfl rfl rfl (r_gtr rfl rfl) fun ac104 hf122 => ?_)
                    refine seq_one (op_val (v := .bool (decide (x4 > x0))) hf122 rfl rfl rfl rfl rfl rfl (r_pickF rfl rfl) fun ac105 hf123 => ?_)
                    refine seq_end ?_
                    clear hf54 ac44 hf57 ac46 hf58 ac47 hf59 ac48 hf60 hf61 ac49 hf82 ac69 hf83 ac70 hf84 ac71 hf85 ac72 hf86 ac73 hf87 ac74 hf88 hf89 ac75 hf103 ac88 hf104 ac89 hf105 ac90 hf106 ac91 hf107 hf108 ac92 hf117 ac100 hf118 ac101 hf119 ac102 hf120 ac103 hf121 ac104 hf122
                    refine then_normal ?_
                    refine code_if hf123 rfl (fun c49_10 => ?_) (fun c49_10 => ?_)
                    · have hf124 := hf123.know 49 (u := .bool true) rfl (congrArg Value.bool c49_10)
                      refine code_seq ?_
                      refine seq_start (l := [0]) rfl ?_
                      refine seq_one (op_val (v := .int .u8 4) hf124 rfl rfl rfl rfl rfl rfl (r_assign rfl) fun ac106 hf125 => ?_)
                      refine seq_end ?_
                      clear hf123 ac105 hf124
                      refine then_normal ?_
                      refine wp_ret ?_
                      refine then_ret ?_
                      refine post1 rfl hf125 rfl ⟨?_, hI3.done (fresh_keys (ks := [b1]) rfl (fk_cons hb1 fk_nil))⟩
                      simp only [decide_eq_true_eq, decide_eq_false_iff_not, Bool.not_eq_true', Bool.not_eq_false'] at g7_1 c11_2
                      have e1 : (!(inR x0 1 65536)) = false := by simp [inR, g7_1, c11_2] <;> omega
                      simp only [decide_eq_true_eq, decide_eq_false_iff_not, Bool.not_eq_true', Bool.not_eq_false'] at g15_3 c19_4
                      have e2 : (!(inR x1 1 4096)) = false := by simp [inR, g15_3, c19_4] <;> omega
                      simp only [decide_eq_true_eq, decide_eq_false_iff_not, Bool.not_eq_true', Bool.not_eq_false'] at g23_5 c27_6
                      have e3 : (!(inR x2 0 10)) = false := by simp [inR, g23_5, c27_6] <;> omega
                      simp only [decide_eq_true_eq, decide_eq_false_iff_not, Bool.not_eq_true', Bool.not_eq_false'] at g31_7 g38_8 g43_9 c49_10
                      have e4 : (!(inR x3 1 x0 && inR x4 1 x0)) = true := by simp [inR, g31_7, g38_8, g43_9, c49_10] <;> omega
                      unfold wrongF
                      simp only [e1, e2, e3, e4, cond_true, cond_false]
                    · have hf126 := hf123.know 49 (u := .bool false) rfl (congrArg Value.bool c49_10)
                      refine wp_skip ?_
                      refine then_normal ?_
                      refine code_seq ?_
                      refine code_seq ?_
                      refine seq_start (l := [0, 1, 2, 3, 4, 5, 6, 7, 8, 9]) rfl ?_
                      refine seq_one (op_val (v := .pointer (some ⟨b1, 5, none⟩)) hf126 rfl rfl rfl rfl rfl rfl (r_fieldAddr fi_41_5 rfl rfl) fun ac107 hf127 => ?_)
                      refine seq_one (op_val (v := .agg #[.int .i64 x5, .int .i64 x6, .int .u64 x7, .int .u64 x8, .int .u64 x9]) hf127 rfl rfl rfl rfl rfl rfl (r_loadP (sz := 5) ag_38 sz_38 rfl (hI3.at 0 rfl) (leb rfl) (by kernel_rfl)) fun ac108 hf128 => ?_)
                      refine seq_one (op_pure hf128 rfl rfl rfl rfl ca_47 (flowRR_pur x5 x6 x7 x8 x9) hI3 fun ac109 wd2 hI4 hf129 => ?_)
                      refine seq_one (op_val (v := .bool (!(paceF x5 x6 x8 x9))) hf129 rfl rfl rfl rfl rfl rfl (r_not rfl) fun ac110 hf130 => ?_)
                      refine seq_one (op_val (v := .bool (!(paceF x5 x6 x8 x9))) hf130 rfl rfl rfl rfl rfl rfl (r_move rfl) fun ac111 hf131 => ?_)
                      rcases Bool.eq_false_or_eq_true (!(paceF x5 x6 x8 x9) : Bool) with g54_11 | g54_11
                      · have hf132 := hf131.know 54 (u := .bool true) rfl (congrArg Value.bool g54_11)
                        refine seq_one (op_skip hf132 rfl rfl rfl rfl fun ac112 hf133 => ?_)
                        refine seq_one (op_skip hf133 rfl rfl rfl rfl fun ac113 hf134 => ?_)
                        refine seq_one (op_skip hf134 rfl rfl rfl rfl fun ac114 hf135 => ?_)
                        refine seq_one (op_skip hf135 rfl rfl rfl rfl fun ac115 hf136 => ?_)
                        refine seq_one (op_val (v := .bool true) hf136 rfl rfl rfl rfl rfl rfl (r_pickT rfl rfl) fun ac116 hf137 => ?_)
                        refine seq_end ?_
                        clear hf123 ac105 hf126 ac107 hf127 ac108 wd1 hI3 hf128 ac109 hf129 ac110 hf130 hf131 ac111 hf132 ac112 hf133 ac113 hf134 ac114 hf135 ac115 hf136
                        refine then_normal ?_
                        refine code_if_true hf137 rfl ?_
                        refine code_seq ?_
                        refine seq_start (l := [0]) rfl ?_
                        refine seq_one (op_val (v := .int .u8 5) hf137 rfl rfl rfl rfl rfl rfl (r_assign rfl) fun ac117 hf138 => ?_)
                        refine seq_end ?_
                        clear ac116 hf137
                        refine then_normal ?_
                        refine wp_ret ?_
                        refine then_ret ?_
                        refine post1 rfl hf138 rfl ⟨?_, hI4.done (fresh_keys (ks := [b1]) rfl (fk_cons hb1 fk_nil))⟩
                        simp only [decide_eq_true_eq, decide_eq_false_iff_not, Bool.not_eq_true', Bool.not_eq_false'] at g7_1 c11_2
                        have e1 : (!(inR x0 1 65536)) = false := by simp [inR, g7_1, c11_2] <;> omega
                        simp only [decide_eq_true_eq, decide_eq_false_iff_not, Bool.not_eq_true', Bool.not_eq_false'] at g15_3 c19_4
                        have e2 : (!(inR x1 1 4096)) = false := by simp [inR, g15_3, c19_4] <;> omega
                        simp only [decide_eq_true_eq, decide_eq_false_iff_not, Bool.not_eq_true', Bool.not_eq_false'] at g23_5 c27_6
                        have e3 : (!(inR x2 0 10)) = false := by simp [inR, g23_5, c27_6] <;> omega
                        simp only [decide_eq_true_eq, decide_eq_false_iff_not, Bool.not_eq_true', Bool.not_eq_false'] at g31_7 g38_8 g43_9 c49_10
                        have e4 : (!(inR x3 1 x0 && inR x4 1 x0)) = false := by simp [inR, g31_7, g38_8, g43_9, c49_10] <;> omega
                        simp only [decide_eq_true_eq, decide_eq_false_iff_not, Bool.not_eq_true', Bool.not_eq_false'] at g54_11
                        have e5 : (!(paceF x5 x6 x8 x9 && decide (x5 ≥ 64))) = true := by simp [inR, g54_11] <;> omega
                        unfold wrongF
                        simp only [e1, e2, e3, e4, e5, cond_true, cond_false]
                      · have hf139 := hf131.know 54 (u := .bool false) rfl (congrArg Value.bool g54_11)
                        refine seq_one (op_val (v := .pointer (some ⟨b1, 5, none⟩)) hf139 rfl rfl rfl rfl rfl rfl (r_fieldAddr fi_41_5 rfl rfl) fun ac118 hf140 => ?_)
                        refine seq_one (op_val (v := .pointer (some ⟨b1, 5, none⟩)) hf140 rfl rfl rfl rfl rfl rfl (r_fieldAddr fi_38_0 rfl rfl) fun ac119 hf141 => ?_)
                        refine seq_one (op_val (v := .int .i64 x5) hf141 rfl rfl rfl rfl rfl rfl (r_load ag_3 rfl (hI4.at 0 rfl) rfl) fun ac120 hf142 => ?_)
                        refine seq_one (op_val (v := .bool (decide (x5 < 64))) hf142 rfl rfl rfl rfl rfl rfl (r_lss rfl rfl) fun ac121 hf143 => ?_)
                        refine seq_one (op_val (v := .bool (decide (x5 < 64))) hf143 rfl rfl rfl rfl rfl rfl (r_pickF rfl rfl) fun ac122 hf144 => ?_)
                        refine seq_end ?_
                        clear hf123 ac105 hf126 ac107 hf127 ac108 wd1 hI3 hf128 ac109 hf129 ac110 hf130 hf131 ac111 hf139 ac118 hf140 ac119 hf141 ac120 hf142 ac121 hf143
                        refine then_normal ?_
                        refine code_if hf144 rfl (fun c59_12 => ?_) (fun c59_12 => ?_)
                        · have hf145 := hf144.know 59 (u := .bool true) rfl (congrArg Value.bool c59_12)
                          refine code_seq ?_
                          refine seq_start (l := [0]) rfl ?_
                          refine seq_one (op_val (v := .int .u8 5) hf145 rfl rfl rfl rfl rfl rfl (r_assign rfl) fun ac123 hf146 => ?_)
                          refine seq_end ?_
                          clear hf144 ac122 hf145
                          refine then_normal ?_
                          refine wp_ret ?_
                          refine then_ret ?_
                          refine post1 rfl hf146 rfl ⟨?_, hI4.done (fresh_keys (ks := [b1]) rfl (fk_cons hb1 fk_nil))⟩
                          simp only [decide_eq_true_eq, decide_eq_false_iff_not, Bool.not_eq_true', Bool.not_eq_false'] at g7_1 c11_2
                          have e1 : (!(inR x0 1 65536)) = false := by simp [inR, g7_1, c11_2] <;> omega
                          simp only [decide_eq_true_eq, decide_eq_false_iff_not, Bool.not_eq_true', Bool.not_eq_false'] at g15_3 c19_4
                          have e2 : (!(inR x1 1 4096)) = false := by simp [inR, g15_3, c19_4] <;> omega
                          simp only [decide_eq_true_eq, decide_eq_false_iff_not, Bool.not_eq_true', Bool.not_eq_false'] at g23_5 c27_6
                          have e3 : (!(inR x2 0 10)) = false := by simp [inR, g23_5, c27_6] <;> omega
                          simp only [decide_eq_true_eq, decide_eq_false_iff_not, Bool.not_eq_true', Bool.not_eq_false'] at g31_7 g38_8 g43_9 c49_10
                          have e4 : (!(inR x3 1 x0 && inR x4 1 x0)) = false := by simp [inR, g31_7, g38_8, g43_9, c49_10] <;> omega
                          simp only [decide_eq_true_eq, decide_eq_false_iff_not, Bool.not_eq_true', Bool.not_eq_false'] at g54_11 c59_12
                          have e5 : (!(paceF x5 x6 x8 x9 && decide (x5 ≥ 64))) = true := by simp [inR, g54_11, c59_12] <;> omega
                          unfold wrongF
                          simp only [e1, e2, e3, e4, e5, cond_true, cond_false]
                        · have hf147 := hf144.know 59 (u := .bool false) rfl (congrArg Value.bool c59_12)
                          refine wp_skip ?_
                          refine then_normal ?_
                          refine code_seq ?_
                          refine code_seq ?_
                          refine seq_start (l := [0]) rfl ?_
                          refine seq_one (op_val (v := .int .i64 0) hf147 rfl rfl rfl rfl rfl rfl (r_assign rfl) fun ac124 hf148 => ?_)
                          refine seq_end ?_
                          clear hf144 ac122 hf147
                          refine then_normal ?_
                          refine wp_block ?_
                          refine wp_loop_rounds 4 ?_
                          refine rounds_go ?_
                          refine code_seq ?_
                          refine code_seq ?_
                          refine seq_start (l := [0, 1]) rfl ?_
                          refine seq_one (op_val (v := .int .i64 0) hf148 rfl rfl rfl rfl rfl rfl (r_move rfl) fun ac125 hf149 => ?_)
                          refine seq_one (op_val (v := .bool true) hf149 rfl rfl rfl rfl rfl rfl (r_lssC rfl rfl (by decide)) fun ac126 hf150 => ?_)
                          refine seq_end ?_
                          clear ac124 hf148 ac125 hf149
                          refine then_normal ?_
                          refine code_if_true hf150 rfl ?_
                          refine wp_skip ?_
                          refine then_normal ?_
                          refine code_seq ?_
                          refine wp_block ?_
                          refine code_seq ?_
                          refine seq_start (l := [0, 1, 2, 3, 4, 5, 6, 7, 8, 9, 10, 11]) rfl ?_
                          refine seq_one (op_val (v := .int .i64 0) hf150 rfl rfl rfl rfl rfl rfl (r_move rfl) fun ac127 hf151 => ?_)
                          refine seq_one (op_val (v := .pointer (some ⟨b1, 10, none⟩)) hf151 rfl rfl rfl rfl rfl rfl (r_fieldAddr fi_41_6 rfl rfl) fun ac128 hf152 => ?_)
                          refine seq_one (op_val (v := .pointer (some ⟨b1, 10, none⟩)) hf152 rfl rfl rfl rfl rfl rfl (r_indexAddr (i := 0) ar_39 rfl rfl rfl (by decide) rfl) fun ac129 hf153 => ?_)
                          refine seq_one (op_val (v := .int .i64 x10) hf153 rfl rfl rfl rfl rfl rfl (r_load ag_3 rfl (hI4.at 0 rfl) rfl) fun ac130 hf154 => ?_)
                          refine seq_one (op_val (v := .bool (decide (x10 < 1024))) hf154 rfl rfl rfl rfl rfl rfl (r_lss rfl rfl) fun ac131 hf155 => ?_)
                          refine seq_one (op_val (v := .bool (decide (x10 < 1024))) hf155 rfl rfl rfl rfl rfl rfl (r_move rfl) fun ac132 hf156 => ?_)
                          rcases Bool.eq_false_or_eq_true (decide (x10 < 1024) : Bool) with g69_13 | g69_13
                          · have hf157 := hf156.know 69 (u := .bool true) rfl (congrArg Value.bool g69_13)
                            refine seq_one (op_skip hf157 rfl rfl rfl rfl fun ac133 hf158 => ?_)
                            refine seq_one (op_skip hf158 rfl rfl rfl rfl fun ac134 hf159 => ?_)
                            refine seq_one (op_skip hf159 rfl rfl rfl rfl fun ac135 hf160 => ?_)
                            refine seq_one (op_skip hf160 rfl rfl rfl rfl fun ac136 hf161 => ?_)
                            refine seq_one (op_skip hf161 rfl rfl rfl rfl fun ac137 hf162 => ?_)
                            refine seq_one (op_val (v := .bool true) hf162 rfl rfl rfl rfl rfl rfl (r_pickT rfl rfl) fun ac138 hf163 => ?_)
                            refine seq_end ?_
                            clear ac126 hf150 ac127 hf151 ac128 hf152 ac129 hf153 ac130 hf154 ac131 hf155 hf156 ac132 hf157 ac133 hf158 ac134 hf159 ac135 hf160 ac136 hf161 ac137 hf162
                            refine then_normal ?_
                            refine code_if_true hf163 rfl ?_
                            refine code_seq ?_
                            refine seq_start (l := [0]) rfl ?_
                            refine seq_one (op_val (v := .int .u8 6) hf163 rfl rfl rfl rfl rfl rfl (r_assign rfl) fun ac139 hf164 => ?_)
                            refine seq_end ?_
                            clear ac138 hf163
                            refine then_normal ?_
                            refine wp_ret ?_
                            refine block_ret ?_
                            refine then_ret ?_
                            refine then_ret ?_
                            refine block_ret ?_
                            refine then_ret ?_
                            refine post1 rfl hf164 rfl ⟨?_, hI4.done (fresh_keys (ks := [b1]) rfl (fk_cons hb1 fk_nil))⟩
                            simp only [decide_eq_true_eq, decide_eq_false_iff_not, Bool.not_eq_true', Bool.not_eq_false'] at g7_1 c11_2
                            have e1 : (!(inR x0 1 65536)) = false := by simp [inR, g7_1, c11_2] <;> omega
                            simp only [decide_eq_true_eq, decide_eq_false_iff_not, Bool.not_eq_true', Bool.not_eq_false'] at g15_3 c19_4
                            have e2 : (!(inR x1 1 4096)) = false := by simp [inR, g15_3, c19_4] <;> omega
                            simp only [decide_eq_true_eq, decide_eq_false_iff_not, Bool.not_eq_true', Bool.not_eq_false'] at g23_5 c27_6
                            have e3 : (!(inR x2 0 10)) = false := by simp [inR, g23_5, c27_6] <;> omega
                            simp only [decide_eq_true_eq, decide_eq_false_iff_not, Bool.not_eq_true', Bool.not_eq_false'] at g31_7 g38_8 g43_9 c49_10
                            have e4 : (!(inR x3 1 x0 && inR x4 1 x0)) = false := by simp [inR, g31_7, g38_8, g43_9, c49_10] <;> omega
                            simp only [decide_eq_true_eq, decide_eq_false_iff_not, Bool.not_eq_true', Bool.not_eq_false'] at g54_11 c59_12
                            have e5 : (!(paceF x5 x6 x8 x9 && decide (x5 ≥ 64))) = false := by simp [inR, g54_11, c59_12] <;> omega
                            simp only [decide_eq_true_eq, decide_eq_false_iff_not, Bool.not_eq_true', Bool.not_eq_false'] at g69_13
                            have e6 : (!(inR x10 1024 1048576 && inR x11 1024 1048576 && inR x12 1024 1048576)) = true := by simp [inR, g69_13] <;> omega
                            unfold wrongF
                            simp only [e1, e2, e3, e4, e5, e6, cond_true, cond_false]
                          · have hf165 := hf156.know 69 (u := .bool false) rfl (congrArg Value.bool g69_13)
                            refine seq_one (op_val (v := .int .i64 0) hf165 rfl rfl rfl rfl rfl rfl (r_move rfl) fun ac140 hf166 => ?_)
                            refine seq_one (op_val (v := .pointer (some ⟨b1, 10, none⟩)) hf166 rfl rfl rfl rfl rfl rfl (r_fieldAddr fi_41_6 rfl rfl) fun ac141 hf167 => ?_)
                            refine seq_one (op_val (v := .pointer (some ⟨b1, 10, none⟩)) hf167 rfl rfl rfl rfl rfl rfl (r_indexAddr (i := 0) ar_39 rfl rfl rfl (by decide) rfl) fun ac142 hf168 => ?_)
                            refine seq_one (op_val (v := .int .i64 x10) hf168 rfl rfl rfl rfl rfl rfl (r_load ag_3 rfl (hI4.at 0 rfl) rfl) fun ac143 hf169 => ?_)
                            refine seq_one (op_val (v := .bool (decide (x10 > 1048576))) hf169 rfl rfl rfl rfl rfl rfl (r_gtr rfl rfl) fun ac144 hf170 => ?_)
                            refine seq_one (op_val (v := .bool (decide (x10 > 1048576))) hf170 rfl rfl rfl rfl rfl rfl (r_pickF rfl rfl) fun ac145 hf171 => ?_)
                            refine seq_end ?_
                            clear ac126 hf150 ac127 hf151 ac128 hf152 ac129 hf153 ac130 hf154 ac131 hf155 hf156 ac132 hf165 ac140 hf166 ac141 hf167 ac142 hf168 ac143 hf169 ac144 hf170
                            refine then_normal ?_
                            refine code_if hf171 rfl (fun c75_14 => ?_) (fun c75_14 => ?_)
                            · have hf172 := hf171.know 75 (u := .bool true) rfl (congrArg Value.bool c75_14)
                              refine code_seq ?_
                              refine seq_start (l := [0]) rfl ?_
                              refine seq_one (op_val (v := .int .u8 6) hf172 rfl rfl rfl rfl rfl rfl (r_assign rfl) fun ac146 hf173 => ?_)
                              refine seq_end ?_
                              clear hf171 ac145 hf172
                              refine then_normal ?_
                              refine wp_ret ?_
                              refine block_ret ?_
                              refine then_ret ?_
                              refine then_ret ?_
                              refine block_ret ?_
                              refine then_ret ?_
                              refine post1 rfl hf173 rfl ⟨?_, hI4.done (fresh_keys (ks := [b1]) rfl (fk_cons hb1 fk_nil))⟩
                              simp only [decide_eq_true_eq, decide_eq_false_iff_not, Bool.not_eq_true', Bool.not_eq_false'] at g7_1 c11_2
                              have e1 : (!(inR x0 1 65536)) = false := by simp [inR, g7_1, c11_2] <;> omega
                              simp only [decide_eq_true_eq, decide_eq_false_iff_not, Bool.not_eq_true', Bool.not_eq_false'] at g15_3 c19_4
                              have e2 : (!(inR x1 1 4096)) = false := by simp [inR, g15_3, c19_4] <;> omega
                              simp only [decide_eq_true_eq, decide_eq_false_iff_not, Bool.not_eq_true', Bool.not_eq_false'] at g23_5 c27_6
                              have e3 : (!(inR x2 0 10)) = false := by simp [inR, g23_5, c27_6] <;> omega
                              simp only [decide_eq_true_eq, decide_eq_false_iff_not, Bool.not_eq_true', Bool.not_eq_false'] at g31_7 g38_8 g43_9 c49_10
                              have e4 : (!(inR x3 1 x0 && inR x4 1 x0)) = false := by simp [inR, g31_7, g38_8, g43_9, c49_10] <;> omega
                              simp only [decide_eq_true_eq, decide_eq_false_iff_not, Bool.not_eq_true', Bool.not_eq_false'] at g54_11 c59_12
                              have e5 : (!(paceF x5 x6 x8 x9 && decide (x5 ≥ 64))) = false := by simp [inR, g54_11, c59_12] <;> omega
                              simp only [decide_eq_true_eq, decide_eq_false_iff_not, Bool.not_eq_true', Bool.not_eq_false'] at g69_13 c75_14
                              have e6 : (!(inR x10 1024 1048576 && inR x11 1024 1048576 && inR x12 1024 1048576)) = true := by simp [inR, g69_13, c75_14] <;> omega
                              unfold wrongF
                              simp only [e1, e2, e3, e4, e5, e6, cond_true, cond_false]
                            · have hf174 := hf171.know 75 (u := .bool false) rfl (congrArg Value.bool c75_14)
                              refine wp_skip ?_
                              refine block_normal ?_
                              refine then_normal ?_
                              refine seq_start (l := [0, 1, 2]) rfl ?_
                              refine seq_one (op_val (v := .int .i64 0) hf174 rfl rfl rfl rfl rfl rfl (r_move rfl) fun ac147 hf175 => ?_)
                              refine seq_one (op_val (v := .int .i64 1) hf175 rfl rfl rfl rfl rfl rfl (r_add (c := 1) rfl rfl (by rfl)) fun ac148 hf176 => ?_)
                              refine seq_one (op_val (v := .int .i64 1) hf176 rfl rfl rfl rfl rfl rfl (r_assign rfl) fun ac149 hf177 => ?_)
                              refine seq_end ?_
                              clear hf171 ac145 hf174 ac147 hf175 ac148 hf176
                              refine then_normal ?_
                              refine rounds_go ?_
                              refine code_seq ?_
                              refine code_seq ?_
                              refine seq_start (l := [0, 1]) rfl ?_
                              refine seq_one (op_val (v := .int .i64 1) hf177 rfl rfl rfl rfl rfl rfl (r_move rfl) fun ac150 hf178 => ?_)
                              refine seq_one (op_val (v := .bool true) hf178 rfl rfl rfl rfl rfl rfl (r_lssC rfl rfl (by decide)) fun ac151 hf179 => ?_)
                              refine seq_end ?_
                              clear ac149 hf177 ac150 hf178
                              refine then_normal ?_
                              refine code_if_true hf179 rfl ?_
                              refine wp_skip ?_
                              refine then_normal ?_
                              refine code_seq ?_
                              refine wp_block ?_
                              refine code_seq ?_
                              refine seq_start (l := [0, 1, 2, 3, 4, 5, 6, 7, 8, 9, 10, 11]) rfl ?_
                              refine seq_one (op_val (v := .int .i64 1) hf179 rfl rfl rfl rfl rfl rfl (r_move rfl) fun ac152 hf180 => ?_)
                              refine seq_one (op_val (v := .pointer (some ⟨b1, 10, none⟩)) hf180 rfl rfl rfl rfl rfl rfl (r_fieldAddr fi_41_6 rfl rfl) fun ac153 hf181 => ?_)
                              refine seq_one (op_val (v := .pointer (some ⟨b1, 11, none⟩)) hf181 rfl rfl rfl rfl rfl rfl (r_indexAddr (i := 1) ar_39 rfl rfl rfl (by decide) rfl) fun ac154 hf182 => ?_)
                              refine seq_one (op_val (v := .int .i64 x11) hf182 rfl rfl rfl rfl rfl rfl (r_load ag_3 rfl (hI4.at 0 rfl) rfl) fun ac155 hf183 => ?_)
                              refine seq_one (op_val (v := .bool (decide (x11 < 1024))) hf183 rfl rfl rfl rfl rfl rfl (r_lss rfl rfl) fun ac156 hf184 => ?_)
                              refine seq_one (op_val (v := .bool (decide (x11 < 1024))) hf184 rfl rfl rfl rfl rfl rfl (r_move rfl) fun ac157 hf185 => ?_)
                              rcases Bool.eq_false_or_eq_true (decide (x11 < 1024) : Bool) with g69_15 | g69_15
                              · have hf186 := hf185.know 69 (u := .bool true) rfl (congrArg Value.bool g69_15)
                                refine seq_one (op_skip hf186 rfl rfl rfl rfl fun ac158 hf187 => ?_)
                                refine seq_one (op_skip hf187 rfl rfl rfl rfl fun ac159 hf188 => ?_)
                                refine seq_one (op_skip hf188 rfl rfl rfl rfl fun ac160 hf189 => ?_)
                                refine seq_one (op_skip hf189 rfl rfl rfl rfl fun ac161 hf190 => ?_)
                                refine seq_one (op_skip hf190 rfl rfl rfl rfl fun ac162 hf191 => ?_)
                                refine seq_one (op_val (v := .bool true) hf191 rfl rfl rfl rfl rfl rfl (r_pickT rfl rfl) fun ac163 hf192 => ?_)
                                refine seq_end ?_
                                clear ac151 hf179 ac152 hf180 ac153 hf181 ac154 hf182 ac155 hf183 ac156 hf184 hf185 ac157 hf186 ac158 hf187 ac159 hf188 ac160 hf189 ac161 hf190 ac162 hf191
                                refine then_normal ?_
                                refine code_if_true hf192 rfl ?_
                                refine code_seq ?_
                                refine seq_start (l := [0]) rfl ?_
                                refine seq_one (op_val (v := .int .u8 6) hf192 rfl rfl rfl rfl rfl rfl (r_assign rfl) fun ac164 hf193 => ?_)
                                refine seq_end ?_
                                clear ac163 hf192
                                refine then_normal ?_
                                refine wp_ret ?_
                                refine block_ret ?_
                                refine then_ret ?_
                                refine then_ret ?_
                                refine block_ret ?_
                                refine then_ret ?_
                                refine post1 rfl hf193 rfl ⟨?_, hI4.done (fresh_keys (ks := [b1]) rfl (fk_cons hb1 fk_nil))⟩
                                simp only [decide_eq_true_eq, decide_eq_false_iff_not, Bool.not_eq_true', Bool.not_eq_false'] at g7_1 c11_2
                                have e1 : (!(inR x0 1 65536)) = false := by simp [inR, g7_1, c11_2] <;> omega
                                simp only [decide_eq_true_eq, decide_eq_false_iff_not, Bool.not_eq_true', Bool.not_eq_false'] at g15_3 c19_4
                                have e2 : (!(inR x1 1 4096)) = false := by simp [inR, g15_3, c19_4] <;> omega
                                simp only [decide_eq_true_eq, decide_eq_false_iff_not, Bool.not_eq_true', Bool.not_eq_false'] at g23_5 c27_6
                                have e3 : (!(inR x2 0 10)) = false := by simp [inR, g23_5, c27_6] <;> omega
                                simp only [decide_eq_true_eq, decide_eq_false_iff_not, Bool.not_eq_true', Bool.not_eq_false'] at g31_7 g38_8 g43_9 c49_10
                                have e4 : (!(inR x3 1 x0 && inR x4 1 x0)) = false := by simp [inR, g31_7, g38_8, g43_9, c49_10] <;> omega
                                simp only [decide_eq_true_eq, decide_eq_false_iff_not, Bool.not_eq_true', Bool.not_eq_false'] at g54_11 c59_12
                                have e5 : (!(paceF x5 x6 x8 x9 && decide (x5 ≥ 64))) = false := by simp [inR, g54_11, c59_12] <;> omega
                                simp only [decide_eq_true_eq, decide_eq_false_iff_not, Bool.not_eq_true', Bool.not_eq_false'] at g69_13 c75_14 g69_15
                                have e6 : (!(inR x10 1024 1048576 && inR x11 1024 1048576 && inR x12 1024 1048576)) = true := by simp [inR, g69_13, c75_14, g69_15] <;> omega
                                unfold wrongF
                                simp only [e1, e2, e3, e4, e5, e6, cond_true, cond_false]
                              · have hf194 := hf185.know 69 (u := .bool false) rfl (congrArg Value.bool g69_15)
                                refine seq_one (op_val (v := .int .i64 1) hf194 rfl rfl rfl rfl rfl rfl (r_move rfl) fun ac165 hf195 => ?_)
                                refine seq_one (op_val (v := .pointer (some ⟨b1, 10, none⟩)) hf195 rfl rfl rfl rfl rfl rfl (r_fieldAddr fi_41_6 rfl rfl) fun ac166 hf196 => ?_)
                                refine seq_one (op_val (v := .pointer (some ⟨b1, 11, none⟩)) hf196 rfl rfl rfl rfl rfl rfl (r_indexAddr (i := 1) ar_39 rfl rfl rfl (by decide) rfl) fun ac167 hf197 => ?_)
                                refine seq_one (op_val (v := .int .i64 x11) hf197 rfl rfl rfl rfl rfl rfl (r_load ag_3 rfl (hI4.at 0 rfl) rfl) fun ac168 hf198 => ?_)
                                refine seq_one (op_val (v := .bool (decide (x11 > 1048576))) hf198 rfl rfl rfl rfl rfl rfl (r_gtr rfl rfl) fun ac169 hf199 => ?_)
                                refine seq_one (op_val (v := .bool (decide (x11 > 1048576))) hf199 rfl rfl rfl rfl rfl rfl (r_pickF rfl rfl) fun ac170 hf200 => ?_)
                                refine seq_end ?_
                                clear ac151 hf179 ac152 hf180 ac153 hf181 ac154 hf182 ac155 hf183 ac156 hf184 hf185 ac157 hf194 ac165 hf195 ac166 hf196 ac167 hf197 ac168 hf198 ac169 hf199
                                refine then_normal ?_
                                refine code_if hf200 rfl (fun c75_16 => ?_) (fun c75_16 => ?_)
                                · have hf201 := hf200.know 75 (u := .bool true) rfl (congrArg Value.bool c75_16)
                                  refine code_seq ?_
                                  refine seq_start (l := [0]) rfl ?_
                                  refine seq_one (op_val (v := .int .u8 6) hf201 rfl rfl rfl rfl rfl rfl (r_assign rfl) fun ac171 hf202 => ?_)
                                  refine seq_end ?_
                                  clear hf200 ac170 hf201
                                  refine then_normal ?_
                                  refine wp_ret ?_
                                  refine block_ret ?_
                                  refine then_ret ?_
                                  refine then_ret ?_
                                  refine block_ret ?_
                                  refine then_ret ?_
                                  refine post1 rfl hf202 rfl ⟨?_, hI4.done (fresh_keys (ks := [b1]) rfl (fk_cons hb1 fk_nil))⟩
                                  simp only [decide_eq_true_eq, decide_eq_false_iff_not, Bool.not_eq_true', Bool.not_eq_false'] at g7_1 c11_2
                                  have e1 : (!(inR x0 1 65536)) = false := by simp [inR, g7_1, c11_2] <;> omega
                                  simp only [decide_eq_true_eq, decide_eq_false_iff_not, Bool.not_eq_true', Bool.not_eq_false'] at g15_3 c19_4
                                  have e2 : (!(inR x1 1 4096)) = false := by simp [inR, g15_3, c19_4] <;> omega
                                  simp only [decide_eq_true_eq, decide_eq_false_iff_not, Bool.not_eq_true', Bool.not_eq_false'] at g23_5 c27_6
                                  have e3 : (!(inR x2 0 10)) = false := by simp [inR, g23_5, c27_6] <;> omega
                                  simp only [decide_eq_true_eq, decide_eq_false_iff_not, Bool.not_eq_true', Bool.not_eq_false'] at g31_7 g38_8 g43_9 c49_10
                                  have e4 : (!(inR x3 1 x0 && inR x4 1 x0)) = false := by simp [inR, g31_7, g38_8, g43_9, c49_10] <;> omega
                                  simp only [decide_eq_true_eq, decide_eq_false_iff_not, Bool.not_eq_true', Bool.not_eq_false'] at g54_11 c59_12
                                  have e5 : (!(paceF x5 x6 x8 x9 && decide (x5 ≥ 64))) = false := by simp [inR, g54_11, c59_12] <;> omega
                                  simp only [decide_eq_true_eq, decide_eq_false_iff_not, Bool.not_eq_true', Bool.not_eq_false'] at g69_13 c75_14 g69_15 c75_16
                                  have e6 : (!(inR x10 1024 1048576 && inR x11 1024 1048576 && inR x12 1024 1048576)) = true := by simp [inR, g69_13, c75_14, g69_15, c75_16] <;> omega
                                  unfold wrongF
                                  simp only [e1, e2, e3, e4, e5, e6, cond_true, cond_false]
                                · have hf203 := hf200.know 75 (u := .bool false) rfl (congrArg Value.bool c75_16)
                                  refine wp_skip ?_
                                  refine block_normal ?_
                                  refine then_normal ?_
                                  refine seq_start (l := [0, 1, 2]) rfl ?_
                                  refine seq_one (op_val (v := .int .i64 1) hf203 rfl rfl rfl rfl rfl rfl (r_move rfl) fun ac172 hf204 => ?_)
                                  refine seq_one (op_val (v := .int .i64 2) hf204 rfl rfl rfl rfl rfl rfl (r_add (c := 2) rfl rfl (by rfl)) fun ac173 hf205 => ?_)
                                  refine seq_one (op_val (v := .int .i64 2) hf205 rfl rfl rfl rfl rfl rfl (r_assign rfl) fun ac174 hf206 => ?_)
                                  refine seq_end ?_
                                  clear hf200 ac170 hf203 ac172 hf204 ac173 hf205
                                  refine then_normal ?_
                                  refine rounds_go ?_
                                  refine code_seq ?_
                                  refine code_seq ?_
                                  refine seq_start (l := [0, 1]) rfl ?_
                                  refine seq_one (op_val (v := .int .i64 2) hf206 rfl rfl rfl rfl rfl rfl (r_move rfl) fun ac175 hf207 => ?_)
                                  refine seq_one (op_val (v := .bool true) hf207 rfl rfl rfl rfl rfl rfl (r_lssC rfl rfl (by decide)) fun ac176 hf208 => ?_)
                                  refine seq_end ?_
                                  clear ac174 hf206 ac175 hf207
                                  refine then_normal ?_
                                  refine code_if_true hf208 rfl ?_
                                  refine wp_skip ?_
                                  refine then_normal ?_
                                  refine code_seq ?_
                                  refine wp_block ?_
                                  refine code_seq ?_
                                  refine seq_start (l := [0, 1, 2, 3, 4, 5, 6, 7, 8, 9, 10, 11]) rfl ?_
                                  refine seq_one (op_val (v := .int .i64 2) hf208 rfl rfl rfl rfl rfl rfl (r_move rfl) fun ac177 hf209 => ?_)
                                  refine seq_one (op_val (v := .pointer (some ⟨b1, 10, none⟩)) hf209 rfl rfl rfl rfl rfl rfl (r_fieldAddr fi_41_6 rfl rfl) fun ac178 hf210 => ?_)
                                  refine seq_one (op_val (v := .pointer (some ⟨b1, 12, none⟩)) hf210 rfl rfl rfl rfl rfl rfl (r_indexAddr (i := 2) ar_39 rfl rfl rfl (by decide) rfl) fun ac179 hf211 => ?_)
                                  refine seq_one (op_val (v := .int .i64 x12) hf211 rfl rfl rfl rfl rfl rfl (r_load ag_3 rfl (hI4.at 0 rfl) rfl) fun ac180 hf212 => ?_)
                                  refine seq_one (op_val (v := .bool (decide (x12 < 1024))) hf212 rfl rfl rfl rfl rfl rfl (r_lss rfl rfl) fun ac181 hf213 => ?_)
                                  refine seq_one (op_val (v := .bool (decide (x12 < 1024))) hf213 rfl rfl rfl rfl rfl rfl (r_move rfl) fun ac182 hf214 => ?_)
                                  rcases Bool.eq_false_or_eq_true (decide (x12 < 1024) : Bool) with g69_17 | g69_17
                                  · have hf215 := hf214.know 69 (u := .bool true) rfl (congrArg Value.bool g69_17)
                                    refine seq_one (op_skip hf215 rfl rfl rfl rfl fun ac183 hf216 => ?_)
                                    refine seq_one (op_skip hf216 rfl rfl rfl rfl fun ac184 hf217 => ?_)
                                    refine seq_one (op_skip hf217 rfl rfl rfl rfl fun ac185 hf218 => ?_)
                                    refine seq_one (op_skip hf218 rfl rfl rfl rfl fun ac186 hf219 => ?_)
                                    refine seq_one (op_skip hf219 rfl rfl rfl rfl fun ac187 hf220 => ?_)
                                    refine seq_one (op_val (v := .bool true) hf220 rfl rfl rfl rfl rfl rfl (r_pickT rfl rfl) fun ac188 hf221 => ?_)
                                    refine seq_end ?_
                                    clear ac176 hf208 ac177 hf209 ac178 hf210 ac179 hf211 ac180 hf212 ac181 hf213 hf214 ac182 hf215 ac183 hf216 ac184 hf217 ac185 hf218 ac186 hf219 ac187 hf220
                                    refine then_normal ?_
                                    refine code_if_true hf221 rfl ?_
                                    refine code_seq ?_
                                    refine seq_start (l := [0]) rfl ?_
                                    refine seq_one (op_val (v := .int .u8 6) hf221 rfl rfl rfl rfl rfl rfl (r_assign rfl) fun ac189 hf222 => ?_)
                                    refine seq_end ?_
                                    clear ac188 hf221
                                    refine then_normal ?_
                                    refine wp_ret ?_
                                    refine block_ret ?_
                                    refine then_ret ?_
                                    refine then_ret ?_
                                    refine block_ret ?_
                                    refine then_ret ?_
                                    refine post1 rfl hf222 rfl ⟨?_, hI4.done (fresh_keys (ks := [b1]) rfl (fk_cons hb1 fk_nil))⟩
                                    simp only [decide_eq_true_eq, decide_eq_false_iff_not, Bool.not_eq_true', Bool.not_eq_false'] at g7_1 c11_2
                                    have e1 : (!(inR x0 1 65536)) = false := by simp [inR, g7_1, c11_2] <;> omega
                                    simp only [decide_eq_true_eq, decide_eq_false_iff_not, Bool.not_eq_true', Bool.not_eq_false'] at g15_3 c19_4
                                    have e2 : (!(inR x1 1 4096)) = false := by simp [inR, g15_3, c19_4] <;> omega
                                    simp only [decide_eq_true_eq, decide_eq_false_iff_not, Bool.not_eq_true', Bool.not_eq_false'] at g23_5 c27_6
                                    have e3 : (!(inR x2 0 10)) = false := by simp [inR, g23_5, c27_6] <;> omega
                                    simp only [decide_eq_true_eq, decide_eq_false_iff_not, Bool.not_eq_true', Bool.not_eq_false'] at g31_7 g38_8 g43_9 c49_10
                                    have e4 : (!(inR x3 1 x0 && inR x4 1 x0)) = false := by simp [inR, g31_7, g38_8, g43_9, c49_10] <;> omega
                                    simp only [decide_eq_true_eq, decide_eq_false_iff_not, Bool.not_eq_true', Bool.not_eq_false'] at g54_11 c59_12
                                    have e5 : (!(paceF x5 x6 x8 x9 && decide (x5 ≥ 64))) = false := by simp [inR, g54_11, c59_12] <;> omega
                                    simp only [decide_eq_true_eq, decide_eq_false_iff_not, Bool.not_eq_true', Bool.not_eq_false'] at g69_13 c75_14 g69_15 c75_16 g69_17
                                    have e6 : (!(inR x10 1024 1048576 && inR x11 1024 1048576 && inR x12 1024 1048576)) = true := by simp [inR, g69_13, c75_14, g69_15, c75_16, g69_17] <;> omega
                                    unfold wrongF
                                    simp only [e1, e2, e3, e4, e5, e6, cond_true, cond_false]
                                  · have hf223 := hf214.know 69 (u := .bool false) rfl (congrArg Value.bool g69_17)
                                    refine seq_one (op_val (v := .int .i64 2) hf223 rfl rfl rfl rfl rfl rfl (r_move rfl) fun ac190 hf224 => ?_)
                                    refine seq_one (op_val (v := .pointer (some ⟨b1, 10, none⟩)) hf224 rfl rfl rfl rfl rfl rfl (r_fieldAddr fi_41_6 rfl rfl) fun ac191 hf225 => ?_)
                                    refine seq_one (op_val (v := .pointer (some ⟨b1, 12, none⟩)) hf225 rfl rfl rfl rfl rfl rfl (r_indexAddr (i := 2) ar_39 rfl rfl rfl (by decide) rfl) fun ac192 hf226 => ?_)
                                    refine seq_one (op_val (v := .int .i64 x12) hf226 rfl rfl rfl rfl rfl rfl (r_load ag_3 rfl (hI4.at 0 rfl) rfl) fun ac193 hf227 => ?_)
                                    refine seq_one (op_val (v := .bool (decide (x12 > 1048576))) hf227 rfl rfl rfl rfl rfl rfl (r_gtr rfl rfl) fun ac194 hf228 => ?_)
                                    refine seq_one (op_val (v := .bool (decide (x12 > 1048576))) hf228 rfl rfl rfl rfl rfl rfl (r_pickF rfl rfl) fun ac195 hf229 => ?_)
                                    refine seq_end ?_
                                    clear ac176 hf208 ac177 hf209 ac178 hf210 ac179 hf211 ac180 hf212 ac181 hf213 hf214 ac182 hf223 ac190 hf224 ac191 hf225 ac192 hf226 ac193 hf227 ac194 hf228
                                    refine then_normal ?_
                                    refine code_if hf229 rfl (fun c75_18 => ?_) (fun c75_18 => ?_)
                                    · have hf230 := hf229.know 75 (u := .bool true) rfl (congrArg Value.bool c75_18)
                                      refine code_seq ?_
                                      refine seq_start (l := [0]) rfl ?_
                                      refine seq_one (op_val (v := .int .u8 6) hf230 rfl rfl rfl rfl rfl rfl (r_assign rfl) fun ac196 hf231 => ?_)
                                      refine seq_end ?_
                                      clear hf229 ac195 hf230
                                      refine then_normal ?_
                                      refine wp_ret ?_
                                      refine block_ret ?_
                                      refine then_ret ?_
                                      refine then_ret ?_
                                      refine block_ret ?_
                                      refine then_ret ?_
                                      refine post1 rfl hf231 rfl ⟨?_, hI4.done (fresh_keys (ks := [b1]) rfl (fk_cons hb1 fk_nil))⟩
                                      simp only [decide_eq_true_eq, decide_eq_false_iff_not, Bool.not_eq_true', Bool.not_eq_false'] at g7_1 c11_2
                                      have e1 : (!(inR x0 1 65536)) = false := by simp [inR, g7_1, c11_2] <;> omega
                                      simp only [decide_eq_true_eq, decide_eq_false_iff_not, Bool.not_eq_true', Bool.not_eq_false'] at g15_3 c19_4
                                      have e2 : (!(inR x1 1 4096)) = false := by simp [inR, g15_3, c19_4] <;> omega
                                      simp only [decide_eq_true_eq, decide_eq_false_iff_not, Bool.not_eq_true', Bool.not_eq_false'] at g23_5 c27_6
                                      have e3 : (!(inR x2 0 10)) = false := by simp [inR, g23_5, c27_6] <;> omega
                                      simp only [decide_eq_true_eq, decide_eq_false_iff_not, Bool.not_eq_true', Bool.not_eq_false'] at g31_7 g38_8 g43_9 c49_10
                                      have e4 : (!(inR x3 1 x0 && inR x4 1 x0)) = false := by simp [inR, g31_7, g38_8, g43_9, c49_10] <;> omega
                                      simp only [decide_eq_true_eq, decide_eq_false_iff_not, Bool.not_eq_true', Bool.not_eq_false'] at g54_11 c59_12
                                      have e5 : (!(paceF x5 x6 x8 x9 && decide (x5 ≥ 64))) = false := by simp [inR, g54_11, c59_12] <;> omega
                                      simp only [decide_eq_true_eq, decide_eq_false_iff_not, Bool.not_eq_true', Bool.not_eq_false'] at g69_13 c75_14 g69_15 c75_16 g69_17 c75_18
                                      have e6 : (!(inR x10 1024 1048576 && inR x11 1024 1048576 && inR x12 1024 1048576)) = true := by simp [inR, g69_13, c75_14, g69_15, c75_16, g69_17, c75_18] <;> omega
                                      unfold wrongF
                                      simp only [e1, e2, e3, e4, e5, e6, cond_true, cond_false]
                                    · have hf232 := hf229.know 75 (u := .bool false) rfl (congrArg Value.bool c75_18)
                                      refine wp_skip ?_
                                      refine block_normal ?_
                                      refine then_normal ?_
                                      refine seq_start (l := [0, 1, 2]) rfl ?_
                                      refine seq_one (op_val (v := .int .i64 2) hf232 rfl rfl rfl rfl rfl rfl (r_move rfl) fun ac197 hf233 => ?_)
                                      refine seq_one (op_val (v := .int .i64 3) hf233 rfl rfl rfl rfl rfl rfl (r_add (c := 3) rfl rfl (by rfl)) fun ac198 hf234 => ?_)
                                      refine seq_one (op_val (v := .int .i64 3) hf234 rfl rfl rfl rfl rfl rfl (r_assign rfl) fun ac199 hf235 => ?_)
                                      refine seq_end ?_
                                      clear hf229 ac195 hf232 ac197 hf233 ac198 hf234
                                      refine then_normal ?_
                                      refine rounds_go ?_
                                      refine code_seq ?_
                                      refine code_seq ?_
                                      refine seq_start (l := [0, 1]) rfl ?_
                                      refine seq_one (op_val (v := .int .i64 3) hf235 rfl rfl rfl rfl rfl rfl (r_move rfl) fun ac200 hf236 => ?_)
                                      refine seq_one (op_val (v := .bool false) hf236 rfl rfl rfl rfl rfl rfl (r_lssC rfl rfl (by decide)) fun ac201 hf237 => ?_)
                                      refine seq_end ?_
                                      clear ac199 hf235 ac200 hf236
                                      refine then_normal ?_
                                      refine code_if_false hf237 rfl ?_
                                      refine wp_exit ?_
                                      refine then_exit ?_
                                      refine then_exit ?_
                                      refine block_here ?_
                                      refine then_normal ?_
                                      refine code_seq ?_
                                      refine code_seq ?_
                                      refine seq_start (l := [0, 1, 2, 3]) rfl ?_
                                      refine seq_one (op_val (v := .pointer (some ⟨b1, 13, none⟩)) hf237 rfl rfl rfl rfl rfl rfl (r_fieldAddr fi_41_7 rfl rfl) fun ac202 hf238 => ?_)
                                      refine seq_one (op_val (v := .agg #[.int .u8 x13, .int .u8 x14, .int .u8 x15, .int .u8 x16, .int .u8 x17, .int .u8 x18, .int .u8 x19, .int .u8 x20, .int .u8 x21, .int .u8 x22, .int .u8 x23, .int .u8 x24, .int .u8 x25, .int .u8 x26, .int .u8 x27, .int .u8 x28]) hf238 rfl rfl rfl rfl rfl rfl (r_loadP (sz := 16) ag_22 sz_22 rfl (hI4.at 0 rfl) (leb rfl) (by kernel_rfl)) fun ac203 hf239 => ?_)
                                      refine seq_one (op_pure hf239 rfl rfl rfl rfl ca_15 (rightR_pur [x13, x14, x15, x16, x17, x18, x19, x20, x21, x22, x23, x24, x25, x26, x27, x28] rfl ink) hI4 fun ac204 wd3 hI5 hf240 => ?_)
                                      refine seq_one (op_val (v := .bool (!(rightF [x13, x14, x15, x16, x17, x18, x19, x20, x21, x22, x23, x24, x25, x26, x27, x28]))) hf240 rfl rfl rfl rfl rfl rfl (r_not rfl) fun ac205 hf241 => ?_)
                                      refine seq_end ?_
                                      clear ac201 hf237 ac202 hf238 ac203 wd2 hI4 hf239 ac204 hf240
                                      refine then_normal ?_
                                      refine code_if hf241 rfl (fun c79_19 => ?_) (fun c79_19 => ?_)
                                      · have hf242 := hf241.know 79 (u := .bool true) rfl (congrArg Value.bool c79_19)
                                        refine code_seq ?_
                                        refine seq_start (l := [0]) rfl ?_
                                        refine seq_one (op_val (v := .int .u8 7) hf242 rfl rfl rfl rfl rfl rfl (r_assign rfl) fun ac206 hf243 => ?_)
                                        refine seq_end ?_
                                        clear hf241 ac205 hf242
                                        refine then_normal ?_
                                        refine wp_ret ?_
                                        refine then_ret ?_
                                        refine post1 rfl hf243 rfl ⟨?_, hI5.done (fresh_keys (ks := [b1]) rfl (fk_cons hb1 fk_nil))⟩
                                        simp only [decide_eq_true_eq, decide_eq_false_iff_not, Bool.not_eq_true', Bool.not_eq_false'] at g7_1 c11_2
                                        have e1 : (!(inR x0 1 65536)) = false := by simp [inR, g7_1, c11_2] <;> omega
                                        simp only [decide_eq_true_eq, decide_eq_false_iff_not, Bool.not_eq_true', Bool.not_eq_false'] at g15_3 c19_4
                                        have e2 : (!(inR x1 1 4096)) = false := by simp [inR, g15_3, c19_4] <;> omega
                                        simp only [decide_eq_true_eq, decide_eq_false_iff_not, Bool.not_eq_true', Bool.not_eq_false'] at g23_5 c27_6
                                        have e3 : (!(inR x2 0 10)) = false := by simp [inR, g23_5, c27_6] <;> omega
                                        simp only [decide_eq_true_eq, decide_eq_false_iff_not, Bool.not_eq_true', Bool.not_eq_false'] at g31_7 g38_8 g43_9 c49_10
                                        have e4 : (!(inR x3 1 x0 && inR x4 1 x0)) = false := by simp [inR, g31_7, g38_8, g43_9, c49_10] <;> omega
                                        simp only [decide_eq_true_eq, decide_eq_false_iff_not, Bool.not_eq_true', Bool.not_eq_false'] at g54_11 c59_12
                                        have e5 : (!(paceF x5 x6 x8 x9 && decide (x5 ≥ 64))) = false := by simp [inR, g54_11, c59_12] <;> omega
                                        simp only [decide_eq_true_eq, decide_eq_false_iff_not, Bool.not_eq_true', Bool.not_eq_false'] at g69_13 c75_14 g69_15 c75_16 g69_17 c75_18
                                        have e6 : (!(inR x10 1024 1048576 && inR x11 1024 1048576 && inR x12 1024 1048576)) = false := by simp [inR, g69_13, c75_14, g69_15, c75_16, g69_17, c75_18] <;> omega
                                        have e7 : (!(rightF [x13, x14, x15, x16, x17, x18, x19, x20, x21, x22, x23, x24, x25, x26, x27, x28])) = true := c79_19
                                        unfold wrongF
                                        simp only [e1, e2, e3, e4, e5, e6, e7, cond_true, cond_false]
                                      · have hf244 := hf241.know 79 (u := .bool false) rfl (congrArg Value.bool c79_19)
                                        refine wp_skip ?_
                                        refine then_normal ?_
                                        refine code_seq ?_
                                        refine code_seq ?_
                                        refine seq_start (l := [0, 1, 2]) rfl ?_
                                        refine seq_one (op_val (v := .pointer (some ⟨b1, 29, none⟩)) hf244 rfl rfl rfl rfl rfl rfl (r_fieldAddr fi_41_8 rfl rfl) fun ac207 hf245 => ?_)
                                        refine seq_one (op_val (v := .int .u64 x29) hf245 rfl rfl rfl rfl rfl rfl (r_load ag_36 rfl (hI5.at 0 rfl) rfl) fun ac208 hf246 => ?_)
                                        refine seq_one (op_val (v := .bool (decide (x29 > 1125899906842624))) hf246 rfl rfl rfl rfl rfl rfl (r_gtr rfl rfl) fun ac209 hf247 => ?_)
                                        refine seq_end ?_
                                        clear hf241 ac205 hf244 ac207 hf245 ac208 hf246
                                        refine then_normal ?_
                                        refine code_if hf247 rfl (fun c82_20 => ?_) (fun c82_20 => ?_)
                                        · have hf248 := hf247.know 82 (u := .bool true) rfl (congrArg Value.bool c82_20)
                                          refine code_seq ?_
                                          refine seq_start (l := [0]) rfl ?_
                                          refine seq_one (op_val (v := .int .u8 8) hf248 rfl rfl rfl rfl rfl rfl (r_assign rfl) fun ac210 hf249 => ?_)
                                          refine seq_end ?_
                                          clear hf247 ac209 hf248
                                          refine then_normal ?_
                                          refine wp_ret ?_
                                          refine then_ret ?_
                                          refine post1 rfl hf249 rfl ⟨?_, hI5.done (fresh_keys (ks := [b1]) rfl (fk_cons hb1 fk_nil))⟩
                                          simp only [decide_eq_true_eq, decide_eq_false_iff_not, Bool.not_eq_true', Bool.not_eq_false'] at g7_1 c11_2
                                          have e1 : (!(inR x0 1 65536)) = false := by simp [inR, g7_1, c11_2] <;> omega
                                          simp only [decide_eq_true_eq, decide_eq_false_iff_not, Bool.not_eq_true', Bool.not_eq_false'] at g15_3 c19_4
                                          have e2 : (!(inR x1 1 4096)) = false := by simp [inR, g15_3, c19_4] <;> omega
                                          simp only [decide_eq_true_eq, decide_eq_false_iff_not, Bool.not_eq_true', Bool.not_eq_false'] at g23_5 c27_6
                                          have e3 : (!(inR x2 0 10)) = false := by simp [inR, g23_5, c27_6] <;> omega
                                          simp only [decide_eq_true_eq, decide_eq_false_iff_not, Bool.not_eq_true', Bool.not_eq_false'] at g31_7 g38_8 g43_9 c49_10
                                          have e4 : (!(inR x3 1 x0 && inR x4 1 x0)) = false := by simp [inR, g31_7, g38_8, g43_9, c49_10] <;> omega
                                          simp only [decide_eq_true_eq, decide_eq_false_iff_not, Bool.not_eq_true', Bool.not_eq_false'] at g54_11 c59_12
                                          have e5 : (!(paceF x5 x6 x8 x9 && decide (x5 ≥ 64))) = false := by simp [inR, g54_11, c59_12] <;> omega
                                          simp only [decide_eq_true_eq, decide_eq_false_iff_not, Bool.not_eq_true', Bool.not_eq_false'] at g69_13 c75_14 g69_15 c75_16 g69_17 c75_18
                                          have e6 : (!(inR x10 1024 1048576 && inR x11 1024 1048576 && inR x12 1024 1048576)) = false := by simp [inR, g69_13, c75_14, g69_15, c75_16, g69_17, c75_18] <;> omega
                                          have e7 : (!(rightF [x13, x14, x15, x16, x17, x18, x19, x20, x21, x22, x23, x24, x25, x26, x27, x28])) = false := c79_19
                                          simp only [decide_eq_true_eq, decide_eq_false_iff_not, Bool.not_eq_true', Bool.not_eq_false'] at c82_20
                                          have e8 : (!(decide (x29 ≤ 1125899906842624))) = true := by simp [inR, c82_20] <;> omega
                                          unfold wrongF
                                          simp only [e1, e2, e3, e4, e5, e6, e7, e8, cond_true, cond_false]
                                        · have hf250 := hf247.know 82 (u := .bool false) rfl (congrArg Value.bool c82_20)
                                          refine wp_skip ?_
                                          refine then_normal ?_
                                          refine code_seq ?_
                                          refine code_seq ?_
                                          refine seq_start (l := [0, 1, 2, 3, 4, 5, 6, 7, 8, 9, 10, 11, 12, 13, 14, 15, 16, 17]) rfl ?_
                                          refine seq_one (op_val (v := .pointer (some ⟨b1, 32, none⟩)) hf250 rfl rfl rfl rfl rfl rfl (r_fieldAddr fi_41_11 rfl rfl) fun ac211 hf251 => ?_)
                                          refine seq_one (op_val (v := .int .i64 x32) hf251 rfl rfl rfl rfl rfl rfl (r_load ag_3 rfl (hI5.at 0 rfl) rfl) fun ac212 hf252 => ?_)
                                          refine seq_one (op_val (v := .bool (decide (x32 < 2))) hf252 rfl rfl rfl rfl rfl rfl (r_lss rfl rfl) fun ac213 hf253 => ?_)
                                          refine seq_one (op_val (v := .bool (decide (x32 < 2))) hf253 rfl rfl rfl rfl rfl rfl (r_move rfl) fun ac214 hf254 => ?_)
                                          rcases Bool.eq_false_or_eq_true (decide (x32 < 2) : Bool) with g86_21 | g86_21
                                          · have hf255 := hf254.know 86 (u := .bool true) rfl (congrArg Value.bool g86_21)
                                            refine seq_one (op_skip hf255 rfl rfl rfl rfl fun ac215 hf256 => ?_)
                                            refine seq_one (op_skip hf256 rfl rfl rfl rfl fun ac216 hf257 => ?_)
                                            refine seq_one (op_skip hf257 rfl rfl rfl rfl fun ac217 hf258 => ?_)
                                            refine seq_one (op_val (v := .bool true) hf258 rfl rfl rfl rfl rfl rfl (r_pickT rfl rfl) fun ac218 hf259 => ?_)
                                            refine seq_one (op_val (v := .bool true) hf259 rfl rfl rfl rfl rfl rfl (r_move rfl) fun ac219 hf260 => ?_)
                                            refine seq_one (op_skip hf260 rfl rfl rfl rfl fun ac220 hf261 => ?_)
                                            refine seq_one (op_skip hf261 rfl rfl rfl rfl fun ac221 hf262 => ?_)
                                            refine seq_one (op_skip hf262 rfl rfl rfl rfl fun ac222 hf263 => ?_)
                                            refine seq_one (op_val (v := .bool true) hf263 rfl rfl rfl rfl rfl rfl (r_pickT rfl rfl) fun ac223 hf264 => ?_)
                                            refine seq_one (op_val (v := .bool true) hf264 rfl rfl rfl rfl rfl rfl (r_move rfl) fun ac224 hf265 => ?_)
                                            refine seq_one (op_skip hf265 rfl rfl rfl rfl fun ac225 hf266 => ?_)
                                            refine seq_one (op_skip hf266 rfl rfl rfl rfl fun ac226 hf267 => ?_)
                                            refine seq_one (op_skip hf267 rfl rfl rfl rfl fun ac227 hf268 => ?_)
                                            refine seq_one (op_val (v := .bool true) hf268 rfl rfl rfl rfl rfl rfl (r_pickT rfl rfl) fun ac228 hf269 => ?_)
                                            refine seq_end ?_
                                            clear hf247 ac209 hf250 ac211 hf251 ac212 hf252 ac213 hf253 hf254 ac214 hf255 ac215 hf256 ac216 hf257 ac217 hf258 ac218 hf259 ac219 hf260 ac220 hf261 ac221 hf262 ac222 hf263 ac223 hf264 ac224 hf265 ac225 hf266 ac226 hf267 ac227 hf268
                                            refine then_normal ?_
                                            refine code_if_true hf269 rfl ?_
                                            refine code_seq ?_
                                            refine seq_start (l := [0]) rfl ?_
                                            refine seq_one (op_val (v := .int .u8 9) hf269 rfl rfl rfl rfl rfl rfl (r_assign rfl) fun ac229 hf270 => ?_)
                                            refine seq_end ?_
                                            clear ac228 hf269
                                            refine then_normal ?_
                                            refine wp_ret ?_
                                            refine then_ret ?_
                                            refine post1 rfl hf270 rfl ⟨?_, hI5.done (fresh_keys (ks := [b1]) rfl (fk_cons hb1 fk_nil))⟩
                                            simp only [decide_eq_true_eq, decide_eq_false_iff_not, Bool.not_eq_true', Bool.not_eq_false'] at g7_1 c11_2
                                            have e1 : (!(inR x0 1 65536)) = false := by simp [inR, g7_1, c11_2] <;> omega
                                            simp only [decide_eq_true_eq, decide_eq_false_iff_not, Bool.not_eq_true', Bool.not_eq_false'] at g15_3 c19_4
                                            have e2 : (!(inR x1 1 4096)) = false := by simp [inR, g15_3, c19_4] <;> omega
                                            simp only [decide_eq_true_eq, decide_eq_false_iff_not, Bool.not_eq_true', Bool.not_eq_false'] at g23_5 c27_6
                                            have e3 : (!(inR x2 0 10)) = false := by simp [inR, g23_5, c27_6] <;> omega
                                            simp only [decide_eq_true_eq, decide_eq_false_iff_not, Bool.not_eq_true', Bool.not_eq_false'] at g31_7 g38_8 g43_9 c49_10
                                            have e4 : (!(inR x3 1 x0 && inR x4 1 x0)) = false := by simp [inR, g31_7, g38_8, g43_9, c49_10] <;> omega
                                            simp only [decide_eq_true_eq, decide_eq_false_iff_not, Bool.not_eq_true', Bool.not_eq_false'] at g54_11 c59_12
                                            have e5 : (!(paceF x5 x6 x8 x9 && decide (x5 ≥ 64))) = false := by simp [inR, g54_11, c59_12] <;> omega
                                            simp only [decide_eq_true_eq, decide_eq_false_iff_not, Bool.not_eq_true', Bool.not_eq_false'] at g69_13 c75_14 g69_15 c75_16 g69_17 c75_18
                                            have e6 : (!(inR x10 1024 1048576 && inR x11 1024 1048576 && inR x12 1024 1048576)) = false := by simp [inR, g69_13, c75_14, g69_15, c75_16, g69_17, c75_18] <;> omega
                                            have e7 : (!(rightF [x13, x14, x15, x16, x17, x18, x19, x20, x21, x22, x23, x24, x25, x26, x27, x28])) = false := c79_19
                                            simp only [decide_eq_true_eq, decide_eq_false_iff_not, Bool.not_eq_true', Bool.not_eq_false'] at c82_20
                                            have e8 : (!(decide (x29 ≤ 1125899906842624))) = false := by simp [inR, c82_20] <;> omega
                                            simp only [decide_eq_true_eq, decide_eq_false_iff_not, Bool.not_eq_true', Bool.not_eq_false'] at g86_21
                                            have e9 : (!(inR x32 2 4096 && decide (x33 ≥ 1) && decide (x33 ≤ 1099511627776))) = true := by simp [inR, g86_21] <;> omega
                                            unfold wrongF
                                            simp only [e1, e2, e3, e4, e5, e6, e7, e8, e9, cond_true, cond_false]
                                          · have hf271 := hf254.know 86 (u := .bool false) rfl (congrArg Value.bool g86_21)
                                            refine seq_one (op_val (v := .pointer (some ⟨b1, 32, none⟩)) hf271 rfl rfl rfl rfl rfl rfl (r_fieldAddr fi_41_11 rfl rfl) fun ac230 hf272 => ?_)
                                            refine seq_one (op_val (v := .int .i64 x32) hf272 rfl rfl rfl rfl rfl rfl (r_load ag_3 rfl (hI5.at 0 rfl) rfl) fun ac231 hf273 => ?_)
                                            refine seq_one (op_val (v := .bool (decide (x32 > 4096))) hf273 rfl rfl rfl rfl rfl rfl (r_gtr rfl rfl) fun ac232 hf274 => ?_)
                                            refine seq_one (op_val (v := .bool (decide (x32 > 4096))) hf274 rfl rfl rfl rfl rfl rfl (r_pickF rfl rfl) fun ac233 hf275 => ?_)
                                            refine seq_one (op_val (v := .bool (decide (x32 > 4096))) hf275 rfl rfl rfl rfl rfl rfl (r_move rfl) fun ac234 hf276 => ?_)
                                            rcases Bool.eq_false_or_eq_true (decide (x32 > 4096) : Bool) with g91_22 | g91_22
                                            · have hf277 := hf276.know 91 (u := .bool true) rfl (congrArg Value.bool g91_22)
                                              refine seq_one (op_skip hf277 rfl rfl rfl rfl fun ac235 hf278 => ?_)
                                              refine seq_one (op_skip hf278 rfl rfl rfl rfl fun ac236 hf279 => ?_)
                                              refine seq_one (op_skip hf279 rfl rfl rfl rfl fun ac237 hf280 => ?_)
                                              refine seq_one (op_val (v := .bool true) hf280 rfl rfl rfl rfl rfl rfl (r_pickT rfl rfl) fun ac238 hf281 => ?_)
                                              refine seq_one (op_val (v := .bool true) hf281 rfl rfl rfl rfl rfl rfl (r_move rfl) fun ac239 hf282 => ?_)
                                              refine seq_one (op_skip hf282 rfl rfl rfl rfl fun ac240 hf283 => ?_)
                                              refine seq_one (op_skip hf283 rfl rfl rfl rfl fun ac241 hf284 => ?_)
                                              refine seq_one (op_skip hf284 rfl rfl rfl rfl fun ac242 hf285 => ?_)
                                              refine seq_one (op_val (v := .bool true) hf285 rfl rfl rfl rfl rfl rfl (r_pickT rfl rfl) fun ac243 hf286 => ?_)
                                              refine seq_end ?_
                                              clear hf247 ac209 hf250 ac211 hf251 ac212 hf252 ac213 hf253 hf254 ac214 hf271 ac230 hf272 ac231 hf273 ac232 hf274 ac233 hf275 hf276 ac234 hf277 ac235 hf278 ac236 hf279 ac237 hf280 ac238 hf281 ac239 hf282 ac240 hf283 ac241 hf284 ac242 hf285
                                              refine then_normal ?_
                                              refine code_if_true hf286 rfl ?_
                                              refine code_seq ?_
                                              refine seq_start (l := [0]) rfl ?_
                                              refine seq_one (op_val (v := .int .u8 9) hf286 rfl rfl rfl rfl rfl rfl (r_assign rfl) fun ac244 hf287 => ?_)
                                              refine seq_end ?_
                                              clear ac243 hf286
                                              refine then_normal ?_
                                              refine wp_ret ?_
                                              refine then_ret ?_
                                              refine post1 rfl hf287 rfl ⟨?_, hI5.done (fresh_keys (ks := [b1]) rfl (fk_cons hb1 fk_nil))⟩
                                              simp only [decide_eq_true_eq, decide_eq_false_iff_not, Bool.not_eq_true', Bool.not_eq_false'] at g7_1 c11_2
                                              have e1 : (!(inR x0 1 65536)) = false := by simp [inR, g7_1, c11_2] <;> omega
                                              simp only [decide_eq_true_eq, decide_eq_false_iff_not, Bool.not_eq_true', Bool.not_eq_false'] at g15_3 c19_4
                                              have e2 : (!(inR x1 1 4096)) = false := by simp [inR, g15_3, c19_4] <;> omega
                                              simp only [decide_eq_true_eq, decide_eq_false_iff_not, Bool.not_eq_true', Bool.not_eq_false'] at g23_5 c27_6
                                              have e3 : (!(inR x2 0 10)) = false := by simp [inR, g23_5, c27_6] <;> omega
                                              simp only [decide_eq_true_eq, decide_eq_false_iff_not, Bool.not_eq_true', Bool.not_eq_false'] at g31_7 g38_8 g43_9 c49_10
                                              have e4 : (!(inR x3 1 x0 && inR x4 1 x0)) = false := by simp [inR, g31_7, g38_8, g43_9, c49_10] <;> omega
                                              simp only [decide_eq_true_eq, decide_eq_false_iff_not, Bool.not_eq_true', Bool.not_eq_false'] at g54_11 c59_12
                                              have e5 : (!(paceF x5 x6 x8 x9 && decide (x5 ≥ 64))) = false := by simp [inR, g54_11, c59_12] <;> omega
                                              simp only [decide_eq_true_eq, decide_eq_false_iff_not, Bool.not_eq_true', Bool.not_eq_false'] at g69_13 c75_14 g69_15 c75_16 g69_17 c75_18
                                              have e6 : (!(inR x10 1024 1048576 && inR x11 1024 1048576 && inR x12 1024 1048576)) = false := by simp [inR, g69_13, c75_14, g69_15, c75_16, g69_17, c75_18] <;> omega
                                              have e7 : (!(rightF [x13, x14, x15, x16, x17, x18, x19, x20, x21, x22, x23, x24, x25, x26, x27, x28])) = false := c79_19
                                              simp only [decide_eq_true_eq, decide_eq_false_iff_not, Bool.not_eq_true', Bool.not_eq_false'] at c82_20
                                              have e8 : (!(decide (x29 ≤ 1125899906842624))) = false := by simp [inR, c82_20] <;> omega
                                              simp only [decide_eq_true_eq, decide_eq_false_iff_not, Bool.not_eq_true', Bool.not_eq_false'] at g86_21 g91_22
                                              have e9 : (!(inR x32 2 4096 && decide (x33 ≥ 1) && decide (x33 ≤ 1099511627776))) = true := by simp [inR, g86_21, g91_22] <;> omega
                                              unfold wrongF
                                              simp only [e1, e2, e3, e4, e5, e6, e7, e8, e9, cond_true, cond_false]
                                            · have hf288 := hf276.know 91 (u := .bool false) rfl (congrArg Value.bool g91_22)
                                              refine seq_one (op_val (v := .pointer (some ⟨b1, 33, none⟩)) hf288 rfl rfl rfl rfl rfl rfl (r_fieldAddr fi_41_12 rfl rfl) fun ac245 hf289 => ?_)
                                              refine seq_one (op_val (v := .int .u64 x33) hf289 rfl rfl rfl rfl rfl rfl (r_load ag_36 rfl (hI5.at 0 rfl) rfl) fun ac246 hf290 => ?_)
                                              refine seq_one (op_val (v := .bool (decide (x33 < 1))) hf290 rfl rfl rfl rfl rfl rfl (r_lss rfl rfl) fun ac247 hf291 => ?_)
                                              refine seq_one (op_val (v := .bool (decide (x33 < 1))) hf291 rfl rfl rfl rfl rfl rfl (r_pickF rfl rfl) fun ac248 hf292 => ?_)
                                              refine seq_one (op_val (v := .bool (decide (x33 < 1))) hf292 rfl rfl rfl rfl rfl rfl (r_move rfl) fun ac249 hf293 => ?_)
                                              rcases Bool.eq_false_or_eq_true (decide (x33 < 1) : Bool) with g96_23 | g96_23
                                              · have hf294 := hf293.know 96 (u := .bool true) rfl (congrArg Value.bool g96_23)
                                                refine seq_one (op_skip hf294 rfl rfl rfl rfl fun ac250 hf295 => ?_)
                                                refine seq_one (op_skip hf295 rfl rfl rfl rfl fun ac251 hf296 => ?_)
                                                refine seq_one (op_skip hf296 rfl rfl rfl rfl fun ac252 hf297 => ?_)
                                                refine seq_one (op_val (v := .bool true) hf297 rfl rfl rfl rfl rfl rfl (r_pickT rfl rfl) fun ac253 hf298 => ?_)
                                                refine seq_end ?_
                                                clear hf247 ac209 hf250 ac211 hf251 ac212 hf252 ac213 hf253 hf254 ac214 hf271 ac230 hf272 ac231 hf273 ac232 hf274 ac233 hf275 hf276 ac234 hf288 ac245 hf289 ac246 hf290 ac247 hf291 ac248 hf292 hf293 ac249 hf294 ac250 hf295 ac251 hf296 ac252 hf297
                                                refine then_normal ?_
                                                refine code_if_true hf298 rfl ?_
                                                refine code_seq ?_
                                                refine seq_start (l := [0]) rfl ?_
                                                refine seq_one (op_val (v := .int .u8 9) hf298 rfl rfl rfl rfl rfl rfl (r_assign rfl) fun ac254 hf299 => ?_)
                                                refine seq_end ?_
                                                clear ac253 hf298
                                                refine then_normal ?_
                                                refine wp_ret ?_
                                                refine then_ret ?_
                                                refine post1 rfl hf299 rfl ⟨?_, hI5.done (fresh_keys (ks := [b1]) rfl (fk_cons hb1 fk_nil))⟩
                                                simp only [decide_eq_true_eq, decide_eq_false_iff_not, Bool.not_eq_true', Bool.not_eq_false'] at g7_1 c11_2
                                                have e1 : (!(inR x0 1 65536)) = false := by simp [inR, g7_1, c11_2] <;> omega
                                                simp only [decide_eq_true_eq, decide_eq_false_iff_not, Bool.not_eq_true', Bool.not_eq_false'] at g15_3 c19_4
                                                have e2 : (!(inR x1 1 4096)) = false := by simp [inR, g15_3, c19_4] <;> omega
                                                simp only [decide_eq_true_eq, decide_eq_false_iff_not, Bool.not_eq_true', Bool.not_eq_false'] at g23_5 c27_6
                                                have e3 : (!(inR x2 0 10)) = false := by simp [inR, g23_5, c27_6] <;> omega
                                                simp only [decide_eq_true_eq, decide_eq_false_iff_not, Bool.not_eq_true', Bool.not_eq_false'] at g31_7 g38_8 g43_9 c49_10
                                                have e4 : (!(inR x3 1 x0 && inR x4 1 x0)) = false := by simp [inR, g31_7, g38_8, g43_9, c49_10] <;> omega
                                                simp only [decide_eq_true_eq, decide_eq_false_iff_not, Bool.not_eq_true', Bool.not_eq_false'] at g54_11 c59_12
                                                have e5 : (!(paceF x5 x6 x8 x9 && decide (x5 ≥ 64))) = false := by simp [inR, g54_11, c59_12] <;> omega
                                                simp only [decide_eq_true_eq, decide_eq_false_iff_not, Bool.not_eq_true', Bool.not_eq_false'] at g69_13 c75_14 g69_15 c75_16 g69_17 c75_18
                                                have e6 : (!(inR x10 1024 1048576 && inR x11 1024 1048576 && inR x12 1024 1048576)) = false := by simp [inR, g69_13, c75_14, g69_15, c75_16, g69_17, c75_18] <;> omega
                                                have e7 : (!(rightF [x13, x14, x15, x16, x17, x18, x19, x20, x21, x22, x23, x24, x25, x26, x27, x28])) = false := c79_19
                                                simp only [decide_eq_true_eq, decide_eq_false_iff_not, Bool.not_eq_true', Bool.not_eq_false'] at c82_20
                                                have e8 : (!(decide (x29 ≤ 1125899906842624))) = false := by simp [inR, c82_20] <;> omega
                                                simp only [decide_eq_true_eq, decide_eq_false_iff_not, Bool.not_eq_true', Bool.not_eq_false'] at g86_21 g91_22 g96_23
                                                have e9 : (!(inR x32 2 4096 && decide (x33 ≥ 1) && decide (x33 ≤ 1099511627776))) = true := by simp [inR, g86_21, g91_22, g96_23] <;> omega
                                                unfold wrongF
                                                simp only [e1, e2, e3, e4, e5, e6, e7, e8, e9, cond_true, cond_false]
                                              · have hf300 := hf293.know 96 (u := .bool false) rfl (congrArg Value.bool g96_23)
                                                refine seq_one (op_val (v := .pointer (some ⟨b1, 33, none⟩)) hf300 rfl rfl rfl rfl rfl rfl (r_fieldAddr fi_41_12 rfl rfl) fun ac255 hf301 => ?_)
                                                refine seq_one (op_val (v := .int .u64 x33) hf301 rfl rfl rfl rfl rfl rfl (r_load ag_36 rfl (hI5.at 0 rfl) rfl) fun ac256 hf302 => ?_)
                                                refine seq_one (op_val (v := .bool (decide (x33 > 1099511627776))) hf302 rfl rfl rfl rfl rfl rfl (r_gtr rfl rfl) fun ac257 hf303 => ?_)
                                                refine seq_one (op_val (v := .bool (decide (x33 > 1099511627776))) hf303 rfl rfl rfl rfl rfl rfl (r_pickF rfl rfl) fun ac258 hf304 => ?_)
                                                refine seq_end ?_
                                                clear hf247 ac209 hf250 ac211 hf251 ac212 hf252 ac213 hf253 hf254 ac214 hf271 ac230 hf272 ac231 hf273 ac232 hf274 ac233 hf275 hf276 ac234 hf288 ac245 hf289 ac246 hf290 ac247 hf291 ac248 hf292 hf293 ac249 hf300 ac255 hf301 ac256 hf302 ac257 hf303
                                                refine then_normal ?_
                                                refine code_if hf304 rfl (fun c100_24 => ?_) (fun c100_24 => ?_)
                                                · have hf305 := hf304.know 100 (u := .bool true) rfl (congrArg Value.bool c100_24)
                                                  refine code_seq ?_
                                                  refine seq_start (l := [0]) rfl ?_
                                                  refine seq_one (op_val (v := .int .u8 9) hf305 rfl rfl rfl rfl rfl rfl (r_assign rfl) fun ac259 hf306 => ?_)
                                                  refine seq_end ?_
                                                  clear hf304 ac258 hf305
                                                  refine then_normal ?_
                                                  refine wp_ret ?_
                                                  refine then_ret ?_
                                                  refine post1 rfl hf306 rfl ⟨?_, hI5.done (fresh_keys (ks := [b1]) rfl (fk_cons hb1 fk_nil))⟩
                                                  simp only [decide_eq_true_eq, decide_eq_false_iff_not, Bool.not_eq_true', Bool.not_eq_false'] at g7_1 c11_2
                                                  have e1 : (!(inR x0 1 65536)) = false := by simp [inR, g7_1, c11_2] <;> omega
                                                  simp only [decide_eq_true_eq, decide_eq_false_iff_not, Bool.not_eq_true', Bool.not_eq_false'] at g15_3 c19_4
                                                  have e2 : (!(inR x1 1 4096)) = false := by simp [inR, g15_3, c19_4] <;> omega
                                                  simp only [decide_eq_true_eq, decide_eq_false_iff_not, Bool.not_eq_true', Bool.not_eq_false'] at g23_5 c27_6
                                                  have e3 : (!(inR x2 0 10)) = false := by simp [inR, g23_5, c27_6] <;> omega
                                                  simp only [decide_eq_true_eq, decide_eq_false_iff_not, Bool.not_eq_true', Bool.not_eq_false'] at g31_7 g38_8 g43_9 c49_10
                                                  have e4 : (!(inR x3 1 x0 && inR x4 1 x0)) = false := by simp [inR, g31_7, g38_8, g43_9, c49_10] <;> omega
                                                  simp only [decide_eq_true_eq, decide_eq_false_iff_not, Bool.not_eq_true', Bool.not_eq_false'] at g54_11 c59_12
                                                  have e5 : (!(paceF x5 x6 x8 x9 && decide (x5 ≥ 64))) = false := by simp [inR, g54_11, c59_12] <;> omega
                                                  simp only [decide_eq_true_eq, decide_eq_false_iff_not, Bool.not_eq_true', Bool.not_eq_false'] at g69_13 c75_14 g69_15 c75_16 g69_17 c75_18
                                                  have e6 : (!(inR x10 1024 1048576 && inR x11 1024 1048576 && inR x12 1024 1048576)) = false := by simp [inR, g69_13, c75_14, g69_15, c75_16, g69_17, c75_18] <;> omega
                                                  have e7 : (!(rightF [x13, x14, x15, x16, x17, x18, x19, x20, x21, x22, x23, x24, x25, x26, x27, x28])) = false := c79_19
                                                  simp only [decide_eq_true_eq, decide_eq_false_iff_not, Bool.not_eq_true', Bool.not_eq_false'] at c82_20
                                                  have e8 : (!(decide (x29 ≤ 1125899906842624))) = false := by simp [inR, c82_20] <;> omega
                                                  simp only [decide_eq_true_eq, decide_eq_false_iff_not, Bool.not_eq_true', Bool.not_eq_false'] at g86_21 g91_22 g96_23 c100_24
                                                  have e9 : (!(inR x32 2 4096 && decide (x33 ≥ 1) && decide (x33 ≤ 1099511627776))) = true := by simp [inR, g86_21, g91_22, g96_23, c100_24] <;> omega
                                                  unfold wrongF
                                                  simp only [e1, e2, e3, e4, e5, e6, e7, e8, e9, cond_true, cond_false]
                                                · have hf307 := hf304.know 100 (u := .bool false) rfl (congrArg Value.bool c100_24)
                                                  refine wp_skip ?_
                                                  refine then_normal ?_
                                                  refine code_seq ?_
                                                  refine code_seq ?_
                                                  refine seq_start (l := [0, 1, 2, 3, 4, 5, 6, 7]) rfl ?_
                                                  refine seq_one (op_val (v := .pointer (some ⟨b1, 34, none⟩)) hf307 rfl rfl rfl rfl rfl rfl (r_fieldAddr fi_41_13 rfl rfl) fun ac260 hf308 => ?_)
                                                  refine seq_one (op_val (v := .int .i64 x34) hf308 rfl rfl rfl rfl rfl rfl (r_load ag_3 rfl (hI5.at 0 rfl) rfl) fun ac261 hf309 => ?_)
                                                  refine seq_one (op_val (v := .bool (decide (x34 < 1))) hf309 rfl rfl rfl rfl rfl rfl (r_lss rfl rfl) fun ac262 hf310 => ?_)
                                                  refine seq_one (op_val (v := .bool (decide (x34 < 1))) hf310 rfl rfl rfl rfl rfl rfl (r_move rfl) fun ac263 hf311 => ?_)
                                                  rcases Bool.eq_false_or_eq_true (decide (x34 < 1) : Bool) with g104_25 | g104_25
                                                  · have hf312 := hf311.know 104 (u := .bool true) rfl (congrArg Value.bool g104_25)
                                                    refine seq_one (op_skip hf312 rfl rfl rfl rfl fun ac264 hf313 => ?_)
                                                    refine seq_one (op_skip hf313 rfl rfl rfl rfl fun ac265 hf314 => ?_)
                                                    refine seq_one (op_skip hf314 rfl rfl rfl rfl fun ac266 hf315 => ?_)
                                                    refine seq_one (op_val (v := .bool true) hf315 rfl rfl rfl rfl rfl rfl (r_pickT rfl rfl) fun ac267 hf316 => ?_)
                                                    refine seq_end ?_
                                                    clear hf304 ac258 hf307 ac260 hf308 ac261 hf309 ac262 hf310 hf311 ac263 hf312 ac264 hf313 ac265 hf314 ac266 hf315
                                                    refine then_normal ?_
                                                    refine code_if_true hf316 rfl ?_
                                                    refine code_seq ?_
                                                    refine seq_start (l := [0]) rfl ?_
                                                    refine seq_one (op_val (v := .int .u8 10) hf316 rfl rfl rfl rfl rfl rfl (r_assign rfl) fun ac268 hf317 => ?_)
                                                    refine seq_end ?_
                                                    clear ac267 hf316
                                                    refine then_normal ?_
                                                    refine wp_ret ?_
                                                    refine then_ret ?_
                                                    refine post1 rfl hf317 rfl ⟨?_, hI5.done (fresh_keys (ks := [b1]) rfl (fk_cons hb1 fk_nil))⟩
                                                    simp only [decide_eq_true_eq, decide_eq_false_iff_not, Bool.not_eq_true', Bool.not_eq_false'] at g7_1 c11_2
                                                    have e1 : (!(inR x0 1 65536)) = false := by simp [inR, g7_1, c11_2] <;> omega
                                                    simp only [decide_eq_true_eq, decide_eq_false_iff_not, Bool.not_eq_true', Bool.not_eq_false'] at g15_3 c19_4
                                                    have e2 : (!(inR x1 1 4096)) = false := by simp [inR, g15_3, c19_4] <;> omega
                                                    simp only [decide_eq_true_eq, decide_eq_false_iff_not, Bool.not_eq_true', Bool.not_eq_false'] at g23_5 c27_6
                                                    have e3 : (!(inR x2 0 10)) = false := by simp [inR, g23_5, c27_6] <;> omega
                                                    simp only [decide_eq_true_eq, decide_eq_false_iff_not, Bool.not_eq_true', Bool.not_eq_false'] at g31_7 g38_8 g43_9 c49_10
                                                    have e4 : (!(inR x3 1 x0 && inR x4 1 x0)) = false := by simp [inR, g31_7, g38_8, g43_9, c49_10] <;> omega
                                                    simp only [decide_eq_true_eq, decide_eq_false_iff_not, Bool.not_eq_true', Bool.not_eq_false'] at g54_11 c59_12
                                                    have e5 : (!(paceF x5 x6 x8 x9 && decide (x5 ≥ 64))) = false := by simp [inR, g54_11, c59_12] <;> omega
                                                    simp only [decide_eq_true_eq, decide_eq_false_iff_not, Bool.not_eq_true', Bool.not_eq_false'] at g69_13 c75_14 g69_15 c75_16 g69_17 c75_18
                                                    have e6 : (!(inR x10 1024 1048576 && inR x11 1024 1048576 && inR x12 1024 1048576)) = false := by simp [inR, g69_13, c75_14, g69_15, c75_16, g69_17, c75_18] <;> omega
                                                    have e7 : (!(rightF [x13, x14, x15, x16, x17, x18, x19, x20, x21, x22, x23, x24, x25, x26, x27, x28])) = false := c79_19
                                                    simp only [decide_eq_true_eq, decide_eq_false_iff_not, Bool.not_eq_true', Bool.not_eq_false'] at c82_20
                                                    have e8 : (!(decide (x29 ≤ 1125899906842624))) = false := by simp [inR, c82_20] <;> omega
                                                    simp only [decide_eq_true_eq, decide_eq_false_iff_not, Bool.not_eq_true', Bool.not_eq_false'] at g86_21 g91_22 g96_23 c100_24
                                                    have e9 : (!(inR x32 2 4096 && decide (x33 ≥ 1) && decide (x33 ≤ 1099511627776))) = false := by simp [inR, g86_21, g91_22, g96_23, c100_24] <;> omega
                                                    simp only [decide_eq_true_eq, decide_eq_false_iff_not, Bool.not_eq_true', Bool.not_eq_false'] at g104_25
                                                    have e10 : (!(inR x34 1 4096)) = true := by simp [inR, g104_25] <;> omega
                                                    unfold wrongF
                                                    simp only [e1, e2, e3, e4, e5, e6, e7, e8, e9, e10, cond_true, cond_false]
                                                  · have hf318 := hf311.know 104 (u := .bool false) rfl (congrArg Value.bool g104_25)
                                                    refine seq_one (op_val (v := .pointer (some ⟨b1, 34, none⟩)) hf318 rfl rfl rfl rfl rfl rfl (r_fieldAddr fi_41_13 rfl rfl) fun ac269 hf319 => ?_)
                                                    refine seq_one (op_val (v := .int .i64 x34) hf319 rfl rfl rfl rfl rfl rfl (r_load ag_3 rfl (hI5.at 0 rfl) rfl) fun ac270 hf320 => ?_)
                                                    refine seq_one (op_val (v := .bool (decide (x34 > 4096))) hf320 rfl rfl rfl rfl rfl rfl (r_gtr rfl rfl) fun ac271 hf321 => ?_)
                                                    refine seq_one (op_val (v := .bool (decide (x34 > 4096))) hf321 rfl rfl rfl rfl rfl rfl (r_pickF rfl rfl) fun ac272 hf322 => ?_)
                                                    refine seq_end ?_
                                                    clear hf304 ac258 hf307 ac260 hf308 ac261 hf309 ac262 hf310 hf311 ac263 hf318 ac269 hf319 ac270 hf320 ac271 hf321
                                                    refine then_normal ?_
                                                    refine code_if hf322 rfl (fun c108_26 => ?_) (fun c108_26 => ?_)
                                                    · have hf323 := hf322.know 108 (u := .bool true) rfl (congrArg Value.bool c108_26)
                                                      refine code_seq ?_
                                                      refine seq_start (l := [0]) rfl ?_
                                                      refine seq_one (op_val (v := .int .u8 10) hf323 rfl rfl rfl rfl rfl rfl (r_assign rfl) fun ac273 hf324 => ?_)
                                                      refine seq_end ?_
                                                      clear hf322 ac272 hf323
                                                      refine then_normal ?_
                                                      refine wp_ret ?_
                                                      refine then_ret ?_
                                                      refine post1 rfl hf324 rfl ⟨?_, hI5.done (fresh_keys (ks := [b1]) rfl (fk_cons hb1 fk_nil))⟩
                                                      simp only [decide_eq_true_eq, decide_eq_false_iff_not, Bool.not_eq_true', Bool.not_eq_false'] at g7_1 c11_2
                                                      have e1 : (!(inR x0 1 65536)) = false := by simp [inR, g7_1, c11_2] <;> omega
                                                      simp only [decide_eq_true_eq, decide_eq_false_iff_not, Bool.not_eq_true', Bool.not_eq_false'] at g15_3 c19_4
                                                      have e2 : (!(inR x1 1 4096)) = false := by simp [inR, g15_3, c19_4] <;> omega
                                                      simp only [decide_eq_true_eq, decide_eq_false_iff_not, Bool.not_eq_true', Bool.not_eq_false'] at g23_5 c27_6
                                                      have e3 : (!(inR x2 0 10)) = false := by simp [inR, g23_5, c27_6] <;> omega
                                                      simp only [decide_eq_true_eq, decide_eq_false_iff_not, Bool.not_eq_true', Bool.not_eq_false'] at g31_7 g38_8 g43_9 c49_10
                                                      have e4 : (!(inR x3 1 x0 && inR x4 1 x0)) = false := by simp [inR, g31_7, g38_8, g43_9, c49_10] <;> omega
                                                      simp only [decide_eq_true_eq, decide_eq_false_iff_not, Bool.not_eq_true', Bool.not_eq_false'] at g54_11 c59_12
                                                      have e5 : (!(paceF x5 x6 x8 x9 && decide (x5 ≥ 64))) = false := by simp [inR, g54_11, c59_12] <;> omega
                                                      simp only [decide_eq_true_eq, decide_eq_false_iff_not, Bool.not_eq_true', Bool.not_eq_false'] at g69_13 c75_14 g69_15 c75_16 g69_17 c75_18
                                                      have e6 : (!(inR x10 1024 1048576 && inR x11 1024 1048576 && inR x12 1024 1048576)) = false := by simp [inR, g69_13, c75_14, g69_15, c75_16, g69_17, c75_18] <;> omega
                                                      have e7 : (!(rightF [x13, x14, x15, x16, x17, x18, x19, x20, x21, x22, x23, x24, x25, x26, x27, x28])) = false := c79_19
                                                      simp only [decide_eq_true_eq, decide_eq_false_iff_not, Bool.not_eq_true', Bool.not_eq_false'] at c82_20
                                                      have e8 : (!(decide (x29 ≤ 1125899906842624))) = false := by simp [inR, c82_20] <;> omega
                                                      simp only [decide_eq_true_eq, decide_eq_false_iff_not, Bool.not_eq_true', Bool.not_eq_false'] at g86_21 g91_22 g96_23 c100_24
                                                      have e9 : (!(inR x32 2 4096 && decide (x33 ≥ 1) && decide (x33 ≤ 1099511627776))) = false := by simp [inR, g86_21, g91_22, g96_23, c100_24] <;> omega
                                                      simp only [decide_eq_true_eq, decide_eq_false_iff_not, Bool.not_eq_true', Bool.not_eq_false'] at g104_25 c108_26
                                                      have e10 : (!(inR x34 1 4096)) = true := by simp [inR, g104_25, c108_26] <;> omega
                                                      unfold wrongF
                                                      simp only [e1, e2, e3, e4, e5, e6, e7, e8, e9, e10, cond_true, cond_false]
                                                    · have hf325 := hf322.know 108 (u := .bool false) rfl (congrArg Value.bool c108_26)
                                                      refine wp_skip ?_
                                                      refine then_normal ?_
                                                      refine code_seq ?_
                                                      refine code_seq ?_
                                                      refine seq_start (l := [0, 1, 2, 3, 4, 5, 6, 7, 8, 9, 10, 11, 12, 13, 14, 15, 16, 17]) rfl ?_
                                                      refine seq_one (op_val (v := .pointer (some ⟨b1, 35, none⟩)) hf325 rfl rfl rfl rfl rfl rfl (r_fieldAddr fi_41_14 rfl rfl) fun ac274 hf326 => ?_)
                                                      refine seq_one (op_val (v := .int .i64 x35) hf326 rfl rfl rfl rfl rfl rfl (r_load ag_3 rfl (hI5.at 0 rfl) rfl) fun ac275 hf327 => ?_)
                                                      refine seq_one (op_val (v := .bool (decide (x35 < 64))) hf327 rfl rfl rfl rfl rfl rfl (r_lss rfl rfl) fun ac276 hf328 => ?_)
                                                      refine seq_one (op_val (v := .bool (decide (x35 < 64))) hf328 rfl rfl rfl rfl rfl rfl (r_move rfl) fun ac277 hf329 => ?_)
                                                      rcases Bool.eq_false_or_eq_true (decide (x35 < 64) : Bool) with g112_27 | g112_27
                                                      · have hf330 := hf329.know 112 (u := .bool true) rfl (congrArg Value.bool g112_27)
                                                        refine seq_one (op_skip hf330 rfl rfl rfl rfl fun ac278 hf331 => ?_)
                                                        refine seq_one (op_skip hf331 rfl rfl rfl rfl fun ac279 hf332 => ?_)
                                                        refine seq_one (op_skip hf332 rfl rfl rfl rfl fun ac280 hf333 => ?_)
                                                        refine seq_one (op_val (v := .bool true) hf333 rfl rfl rfl rfl rfl rfl (r_pickT rfl rfl) fun ac281 hf334 => ?_)
                                                        refine seq_one (op_val (v := .bool true) hf334 rfl rfl rfl rfl rfl rfl (r_move rfl) fun ac282 hf335 => ?_)
                                                        refine seq_one (op_skip hf335 rfl rfl rfl rfl fun ac283 hf336 => ?_)
                                                        refine seq_one (op_skip hf336 rfl rfl rfl rfl fun ac284 hf337 => ?_)
                                                        refine seq_one (op_skip hf337 rfl rfl rfl rfl fun ac285 hf338 => ?_)
                                                        refine seq_one (op_val (v := .bool true) hf338 rfl rfl rfl rfl rfl rfl (r_pickT rfl rfl) fun ac286 hf339 => ?_)
                                                        refine seq_one (op_val (v := .bool true) hf339 rfl rfl rfl rfl rfl rfl (r_move rfl) fun ac287 hf340 => ?_)
                                                        refine seq_one (op_skip hf340 rfl rfl rfl rfl fun ac288 hf341 => ?_)
                                                        refine seq_one (op_skip hf341 rfl rfl rfl rfl fun ac289 hf342 => ?_)
                                                        refine seq_one (op_skip hf342 rfl rfl rfl rfl fun ac290 hf343 => ?_)
                                                        refine seq_one (op_val (v := .bool true) hf343 rfl rfl rfl rfl rfl rfl (r_pickT rfl rfl) fun ac291 hf344 => ?_)
                                                        refine seq_end ?_
                                                        clear hf322 ac272 hf325 ac274 hf326 ac275 hf327 ac276 hf328 hf329 ac277 hf330 ac278 hf331 ac279 hf332 ac280 hf333 ac281 hf334 ac282 hf335 ac283 hf336 ac284 hf337 ac285 hf338 ac286 hf339 ac287 hf340 ac288 hf341 ac289 hf342 ac290 hf343
                                                        refine then_normal ?_
                                                        refine code_if_true hf344 rfl ?_
                                                        refine code_seq ?_
                                                        refine seq_start (l := [0]) rfl ?_
                                                        refine seq_one (op_val (v := .int .u8 11) hf344 rfl rfl rfl rfl rfl rfl (r_assign rfl) fun ac292 hf345 => ?_)
                                                        refine seq_end ?_
                                                        clear ac291 hf344
                                                        refine then_normal ?_
                                                        refine wp_ret ?_
                                                        refine then_ret ?_
                                                        refine post1 rfl hf345 rfl ⟨?_, hI5.done (fresh_keys (ks := [b1]) rfl (fk_cons hb1 fk_nil))⟩
                                                        simp only [decide_eq_true_eq, decide_eq_false_iff_not, Bool.not_eq_true', Bool.not_eq_false'] at g7_1 c11_2
                                                        have e1 : (!(inR x0 1 65536)) = false := by simp [inR, g7_1, c11_2] <;> omega
                                                        simp only [decide_eq_true_eq, decide_eq_false_iff_not, Bool.not_eq_true', Bool.not_eq_false'] at g15_3 c19_4
                                                        have e2 : (!(inR x1 1 4096)) = false := by simp [inR, g15_3, c19_4] <;> omega
                                                        simp only [decide_eq_true_eq, decide_eq_false_iff_not, Bool.not_eq_true', Bool.not_eq_false'] at g23_5 c27_6
                                                        have e3 : (!(inR x2 0 10)) = false := by simp [inR, g23_5, c27_6] <;> omega
                                                        simp only [decide_eq_true_eq, decide_eq_false_iff_not, Bool.not_eq_true', Bool.not_eq_false'] at g31_7 g38_8 g43_9 c49_10
                                                        have e4 : (!(inR x3 1 x0 && inR x4 1 x0)) = false := by simp [inR, g31_7, g38_8, g43_9, c49_10] <;> omega
                                                        simp only [decide_eq_true_eq, decide_eq_false_iff_not, Bool.not_eq_true', Bool.not_eq_false'] at g54_11 c59_12
                                                        have e5 : (!(paceF x5 x6 x8 x9 && decide (x5 ≥ 64))) = false := by simp [inR, g54_11, c59_12] <;> omega
                                                        simp only [decide_eq_true_eq, decide_eq_false_iff_not, Bool.not_eq_true', Bool.not_eq_false'] at g69_13 c75_14 g69_15 c75_16 g69_17 c75_18
                                                        have e6 : (!(inR x10 1024 1048576 && inR x11 1024 1048576 && inR x12 1024 1048576)) = false := by simp [inR, g69_13, c75_14, g69_15, c75_16, g69_17, c75_18] <;> omega
                                                        have e7 : (!(rightF [x13, x14, x15, x16, x17, x18, x19, x20, x21, x22, x23, x24, x25, x26, x27, x28])) = false := c79_19
                                                        simp only [decide_eq_true_eq, decide_eq_false_iff_not, Bool.not_eq_true', Bool.not_eq_false'] at c82_20
                                                        have e8 : (!(decide (x29 ≤ 1125899906842624))) = false := by simp [inR, c82_20] <;> omega
                                                        simp only [decide_eq_true_eq, decide_eq_false_iff_not, Bool.not_eq_true', Bool.not_eq_false'] at g86_21 g91_22 g96_23 c100_24
                                                        have e9 : (!(inR x32 2 4096 && decide (x33 ≥ 1) && decide (x33 ≤ 1099511627776))) = false := by simp [inR, g86_21, g91_22, g96_23, c100_24] <;> omega
                                                        simp only [decide_eq_true_eq, decide_eq_false_iff_not, Bool.not_eq_true', Bool.not_eq_false'] at g104_25 c108_26
                                                        have e10 : (!(inR x34 1 4096)) = false := by simp [inR, g104_25, c108_26] <;> omega
                                                        simp only [decide_eq_true_eq, decide_eq_false_iff_not, Bool.not_eq_true', Bool.not_eq_false'] at g112_27
                                                        have e11 : (!(inR x35 64 65536 && inR x36 1 64)) = true := by simp [inR, g112_27] <;> omega
                                                        unfold wrongF
                                                        simp only [e1, e2, e3, e4, e5, e6, e7, e8, e9, e10, e11, cond_true, cond_false]
                                                      · have hf346 := hf329.know 112 (u := .bool false) rfl (congrArg Value.bool g112_27)
                                                        refine seq_one (op_val (v := .pointer (some ⟨b1, 35, none⟩)) hf346 rfl rfl rfl rfl rfl rfl (r_fieldAddr fi_41_14 rfl rfl) fun ac293 hf347 => ?_)
                                                        refine seq_one (op_val (v := .int .i64 x35) hf347 rfl rfl rfl rfl rfl rfl (r_load ag_3 rfl (hI5.at 0 rfl) rfl) fun ac294 hf348 => ?_)
                                                        refine seq_one (op_val (v := .bool (decide (x35 > 65536))) hf348 rfl rfl rfl rfl rfl rfl (r_gtr rfl rfl) fun ac295 hf349 => ?_)
                                                        refine seq_one (op_val (v := .bool (decide (x35 > 65536))) hf349 rfl rfl rfl rfl rfl rfl (r_pickF rfl rfl) fun ac296 hf350 => ?_)
                                                        refine seq_one (op_val (v := .bool (decide (x35 > 65536))) hf350 rfl rfl rfl rfl rfl rfl (r_move rfl) fun ac297 hf351 => ?_)
                                                        rcases Bool.eq_false_or_eq_true (decide (x35 > 65536) : Bool) with g117_28 | g117_28
                                                        · have hf352 := hf351.know 117 (u := .bool true) rfl (congrArg Value.bool g117_28)
                                                          refine seq_one (op_skip hf352 rfl rfl rfl rfl fun ac298 hf353 => ?_)
                                                          refine seq_one (op_skip hf353 rfl rfl rfl rfl fun ac299 hf354 => ?_)
                                                          refine seq_one (op_skip hf354 rfl rfl rfl rfl fun ac300 hf355 => ?_)
                                                          refine seq_one (op_val (v := .bool true) hf355 rfl rfl rfl rfl rfl rfl (r_pickT rfl rfl) fun ac301 hf356 => ?_)
                                                          refine seq_one (op_val (v := .bool true) hf356 rfl rfl rfl rfl rfl rfl (r_move rfl) fun ac302 hf357 => ?_)
                                                          refine seq_one (op_skip hf357 rfl rfl rfl rfl fun ac303 hf358 => ?_)
                                                          refine seq_one (op_skip hf358 rfl rfl rfl rfl fun ac304 hf359 => ?_)
                                                          refine seq_one (op_skip hf359 rfl rfl rfl rfl fun ac305 hf360 => ?_)
                                                          refine seq_one (op_val (v := .bool true) hf360 rfl rfl rfl rfl rfl rfl (r_pickT rfl rfl) fun ac306 hf361 => ?_)
                                                          refine seq_end ?_
                                                          clear hf322 ac272 hf325 ac274 hf326 ac275 hf327 ac276 hf328 hf329 ac277 hf346 ac293 hf347 ac294 hf348 ac295 hf349 ac296 hf350 hf351 ac297 hf352 ac298 hf353 ac299 hf354 ac300 hf355 ac301 hf356 ac302 hf357 ac303 hf358 ac304 hf359 ac305 hf360
                                                          refine then_normal ?_
                                                          refine code_if_true hf361 rfl ?_
                                                          refine code_seq ?_
                                                          refine seq_start (l := [0]) rfl ?_
                                                          refine seq_one (op_val (v := .int .u8 11) hf361 rfl rfl rfl rfl rfl rfl (r_assign rfl) fun ac307 hf362 => ?_)
                                                          refine seq_end ?_
                                                          clear ac306 hf361
                                                          refine then_normal ?_
                                                          refine wp_ret ?_
                                                          refine then_ret ?_
                                                          refine post1 rfl hf362 rfl ⟨?_, hI5.done (fresh_keys (ks := [b1]) rfl (fk_cons hb1 fk_nil))⟩
                                                          simp only [decide_eq_true_eq, decide_eq_false_iff_not, Bool.not_eq_true', Bool.not_eq_false'] at g7_1 c11_2
                                                          have e1 : (!(inR x0 1 65536)) = false := by simp [inR, g7_1, c11_2] <;> omega
                                                          simp only [decide_eq_true_eq, decide_eq_false_iff_not, Bool.not_eq_true', Bool.not_eq_false'] at g15_3 c19_4
                                                          have e2 : (!(inR x1 1 4096)) = false := by simp [inR, g15_3, c19_4] <;> omega
                                                          simp only [decide_eq_true_eq, decide_eq_false_iff_not, Bool.not_eq_true', Bool.not_eq_false'] at g23_5 c27_6
                                                          have e3 : (!(inR x2 0 10)) = false := by simp [inR, g23_5, c27_6] <;> omega
                                                          simp only [decide_eq_true_eq, decide_eq_false_iff_not, Bool.not_eq_true', Bool.not_eq_false'] at g31_7 g38_8 g43_9 c49_10
                                                          have e4 : (!(inR x3 1 x0 && inR x4 1 x0)) = false := by simp [inR, g31_7, g38_8, g43_9, c49_10] <;> omega
                                                          simp only [decide_eq_true_eq, decide_eq_false_iff_not, Bool.not_eq_true', Bool.not_eq_false'] at g54_11 c59_12
                                                          have e5 : (!(paceF x5 x6 x8 x9 && decide (x5 ≥ 64))) = false := by simp [inR, g54_11, c59_12] <;> omega
                                                          simp only [decide_eq_true_eq, decide_eq_false_iff_not, Bool.not_eq_true', Bool.not_eq_false'] at g69_13 c75_14 g69_15 c75_16 g69_17 c75_18
                                                          have e6 : (!(inR x10 1024 1048576 && inR x11 1024 1048576 && inR x12 1024 1048576)) = false := by simp [inR, g69_13, c75_14, g69_15, c75_16, g69_17, c75_18] <;> omega
                                                          have e7 : (!(rightF [x13, x14, x15, x16, x17, x18, x19, x20, x21, x22, x23, x24, x25, x26, x27, x28])) = false := c79_19
                                                          simp only [decide_eq_true_eq, decide_eq_false_iff_not, Bool.not_eq_true', Bool.not_eq_false'] at c82_20
                                                          have e8 : (!(decide (x29 ≤ 1125899906842624))) = false := by simp [inR, c82_20] <;> omega
                                                          simp only [decide_eq_true_eq, decide_eq_false_iff_not, Bool.not_eq_true', Bool.not_eq_false'] at g86_21 g91_22 g96_23 c100_24
                                                          have e9 : (!(inR x32 2 4096 && decide (x33 ≥ 1) && decide (x33 ≤ 1099511627776))) = false := by simp [inR, g86_21, g91_22, g96_23, c100_24] <;> omega
                                                          simp only [decide_eq_true_eq, decide_eq_false_iff_not, Bool.not_eq_true', Bool.not_eq_false'] at g104_25 c108_26
                                                          have e10 : (!(inR x34 1 4096)) = false := by simp [inR, g104_25, c108_26] <;> omega
                                                          simp only [decide_eq_true_eq, decide_eq_false_iff_not, Bool.not_eq_true', Bool.not_eq_false'] at g112_27 g117_28
                                                          have e11 : (!(inR x35 64 65536 && inR x36 1 64)) = true := by simp [inR, g112_27, g117_28] <;> omega
                                                          unfold wrongF
                                                          simp only [e1, e2, e3, e4, e5, e6, e7, e8, e9, e10, e11, cond_true, cond_false]
                                                        · have hf363 := hf351.know 117 (u := .bool false) rfl (congrArg Value.bool g117_28)
                                                          refine seq_one (op_val (v := .pointer (some ⟨b1, 36, none⟩)) hf363 rfl rfl rfl rfl rfl rfl (r_fieldAddr fi_41_15 rfl rfl) fun ac308 hf364 => ?_)
                                                          refine seq_one (op_val (v := .int .i64 x36) hf364 rfl rfl rfl rfl rfl rfl (r_load ag_3 rfl (hI5.at 0 rfl) rfl) fun ac309 hf365 => ?_)
                                                          refine seq_one (op_val (v := .bool (decide (x36 < 1))) hf365 rfl rfl rfl rfl rfl rfl (r_lss rfl rfl) fun ac310 hf366 => ?_)
                                                          refine seq_one (op_val (v := .bool (decide (x36 < 1))) hf366 rfl rfl rfl rfl rfl rfl (r_pickF rfl rfl) fun ac311 hf367 => ?_)
                                                          refine seq_one (op_val (v := .bool (decide (x36 < 1))) hf367 rfl rfl rfl rfl rfl rfl (r_move rfl) fun ac312 hf368 => ?_)
                                                          rcases Bool.eq_false_or_eq_true (decide (x36 < 1) : Bool) with g122_29 | g122_29
                                                          · have hf369 := hf368.know 122 (u := .bool true) rfl (congrArg Value.bool g122_29)
                                                            refine seq_one (op_skip hf369 rfl rfl rfl rfl fun ac313 hf370 => ?_)
                                                            refine seq_one (op_skip hf370 rfl rfl rfl rfl fun ac314 hf371 => ?_)
                                                            refine seq_one (op_skip hf371 rfl rfl rfl rfl fun ac315 hf372 => ?_)
                                                            refine seq_one (op_val (v := .bool true) hf372 rfl rfl rfl rfl rfl rfl (r_pickT rfl rfl) fun ac316 hf373 => ?_)
                                                            refine seq_end ?_
                                                            clear hf322 ac272 hf325 ac274 hf326 ac275 hf327 ac276 hf328 hf329 ac277 hf346 ac293 hf347 ac294 hf348 ac295 hf349 ac296 hf350 hf351 ac297 hf363 ac308 hf364 ac309 hf365 ac310 hf366 ac311 hf367 hf368 ac312 hf369 ac313 hf370 ac314 hf371 ac315 hf372
                                                            refine then_normal ?_
                                                            refine code_if_true hf373 rfl ?_
                                                            refine code_seq ?_
                                                            refine seq_start (l := [0]) rfl ?_
                                                            refine seq_one (op_val (v := .int .u8 11) hf373 rfl rfl rfl rfl rfl rfl (r_assign rfl) fun ac317 hf374 => ?_)
                                                            refine seq_end ?_
                                                            clear ac316 hf373
                                                            refine then_normal ?_
                                                            refine wp_ret ?_
                                                            refine then_ret ?_
                                                            refine post1 rfl hf374 rfl ⟨?_, hI5.done (fresh_keys (ks := [b1]) rfl (fk_cons hb1 fk_nil))⟩
                                                            simp only [decide_eq_true_eq, decide_eq_false_iff_not, Bool.not_eq_true', Bool.not_eq_false'] at g7_1 c11_2
                                                            have e1 : (!(inR x0 1 65536)) = false := by simp [inR, g7_1, c11_2] <;> omega
                                                            simp only [decide_eq_true_eq, decide_eq_false_iff_not, Bool.not_eq_true', Bool.not_eq_false'] at g15_3 c19_4
                                                            have e2 : (!(inR x1 1 4096)) = false := by simp [inR, g15_3, c19_4] <;> omega
                                                            simp only [decide_eq_true_eq, decide_eq_false_iff_not, Bool.not_eq_true', Bool.not_eq_false'] at g23_5 c27_6
                                                            have e3 : (!(inR x2 0 10)) = false := by simp [inR, g23_5, c27_6] <;> omega
                                                            simp only [decide_eq_true_eq, decide_eq_false_iff_not, Bool.not_eq_true', Bool.not_eq_false'] at g31_7 g38_8 g43_9 c49_10
                                                            have e4 : (!(inR x3 1 x0 && inR x4 1 x0)) = false := by simp [inR, g31_7, g38_8, g43_9, c49_10] <;> omega
                                                            simp only [decide_eq_true_eq, decide_eq_false_iff_not, Bool.not_eq_true', Bool.not_eq_false'] at g54_11 c59_12
                                                            have e5 : (!(paceF x5 x6 x8 x9 && decide (x5 ≥ 64))) = false := by simp [inR, g54_11, c59_12] <;> omega
                                                            simp only [decide_eq_true_eq, decide_eq_false_iff_not, Bool.not_eq_true', Bool.not_eq_false'] at g69_13 c75_14 g69_15 c75_16 g69_17 c75_18
                                                            have e6 : (!(inR x10 1024 1048576 && inR x11 1024 1048576 && inR x12 1024 1048576)) = false := by simp [inR, g69_13, c75_14, g69_15, c75_16, g69_17, c75_18] <;> omega
                                                            have e7 : (!(rightF [x13, x14, x15, x16, x17, x18, x19, x20, x21, x22, x23, x24, x25, x26, x27, x28])) = false := c79_19
                                                            simp only [decide_eq_true_eq, decide_eq_false_iff_not, Bool.not_eq_true', Bool.not_eq_false'] at c82_20
                                                            have e8 : (!(decide (x29 ≤ 1125899906842624))) = false := by simp [inR, c82_20] <;> omega
                                                            simp only [decide_eq_true_eq, decide_eq_false_iff_not, Bool.not_eq_true', Bool.not_eq_false'] at g86_21 g91_22 g96_23 c100_24
                                                            have e9 : (!(inR x32 2 4096 && decide (x33 ≥ 1) && decide (x33 ≤ 1099511627776))) = false := by simp [inR, g86_21, g91_22, g96_23, c100_24] <;> omega
                                                            simp only [decide_eq_true_eq, decide_eq_false_iff_not, Bool.not_eq_true', Bool.not_eq_false'] at g104_25 c108_26
                                                            have e10 : (!(inR x34 1 4096)) = false := by simp [inR, g104_25, c108_26] <;> omega
                                                            simp only [decide_eq_true_eq, decide_eq_false_iff_not, Bool.not_eq_true', Bool.not_eq_false'] at g112_27 g117_28 g122_29
                                                            have e11 : (!(inR x35 64 65536 && inR x36 1 64)) = true := by simp [inR, g112_27, g117_28, g122_29] <;> omega
                                                            unfold wrongF
                                                            simp only [e1, e2, e3, e4, e5, e6, e7, e8, e9, e10, e11, cond_true, cond_false]
                                                          · have hf375 := hf368.know 122 (u := .bool false) rfl (congrArg Value.bool g122_29)
                                                            refine seq_one (op_val (v := .pointer (some ⟨b1, 36, none⟩)) hf375 rfl rfl rfl rfl rfl rfl (r_fieldAddr fi_41_15 rfl rfl) fun ac318 hf376 => ?_)
                                                            refine seq_one (op_val (v := .int .i64 x36) hf376 rfl rfl rfl rfl rfl rfl (r_load ag_3 rfl (hI5.at 0 rfl) rfl) fun ac319 hf377 => ?_)
                                                            refine seq_one (op_val (v := .bool (decide (x36 > 64))) hf377 rfl rfl rfl rfl rfl rfl (r_gtr rfl rfl) fun ac320 hf378 => ?_)
                                                            refine seq_one (op_val (v := .bool (decide (x36 > 64))) hf378 rfl rfl rfl rfl rfl rfl (r_pickF rfl rfl) fun ac321 hf379 => ?_)
                                                            refine seq_end ?_
                                                            clear hf322 ac272 hf325 ac274 hf326 ac275 hf327 ac276 hf328 hf329 ac277 hf346 ac293 hf347 ac294 hf348 ac295 hf349 ac296 hf350 hf351 ac297 hf363 ac308 hf364 ac309 hf365 ac310 hf366 ac311 hf367 hf368 ac312 hf375 ac318 hf376 ac319 hf377 ac320 hf378
                                                            refine then_normal ?_
                                                            refine code_if hf379 rfl (fun c126_30 => ?_) (fun c126_30 => ?_)
                                                            · have hf380 := hf379.know 126 (u := .bool true) rfl (congrArg Value.bool c126_30)
                                                              refine code_seq ?_
                                                              refine seq_start (l := [0]) rfl ?_
                                                              refine seq_one (op_val (v := .int .u8 11) hf380 rfl rfl rfl rfl rfl rfl (r_assign rfl) fun ac322 hf381 => ?_)
                                                              refine seq_end ?_
                                                              clear hf379 ac321 hf380
                                                              refine then_normal ?_
                                                              refine wp_ret ?_
                                                              refine then_ret ?_
                                                              refine post1 rfl hf381 rfl ⟨?_, hI5.done (fresh_keys (ks := [b1]) rfl (fk_cons hb1 fk_nil))⟩
                                                              simp only [decide_eq_true_eq, decide_eq_false_iff_not, Bool.not_eq_true', Bool.not_eq_false'] at g7_1 c11_2
                                                              have e1 : (!(inR x0 1 65536)) = false := by simp [inR, g7_1, c11_2] <;> omega
                                                              simp only [decide_eq_true_eq, decide_eq_false_iff_not, Bool.not_eq_true', Bool.not_eq_false'] at g15_3 c19_4
                                                              have e2 : (!(inR x1 1 4096)) = false := by simp [inR, g15_3, c19_4] <;> omega
                                                              simp only [decide_eq_true_eq, decide_eq_false_iff_not, Bool.not_eq_true', Bool.not_eq_false'] at g23_5 c27_6
                                                              have e3 : (!(inR x2 0 10)) = false := by simp [inR, g23_5, c27_6] <;> omega
                                                              simp only [decide_eq_true_eq, decide_eq_false_iff_not, Bool.not_eq_true', Bool.not_eq_false'] at g31_7 g38_8 g43_9 c49_10
                                                              have e4 : (!(inR x3 1 x0 && inR x4 1 x0)) = false := by simp [inR, g31_7, g38_8, g43_9, c49_10] <;> omega
                                                              simp only [decide_eq_true_eq, decide_eq_false_iff_not, Bool.not_eq_true', Bool.not_eq_false'] at g54_11 c59_12
                                                              have e5 : (!(paceF x5 x6 x8 x9 && decide (x5 ≥ 64))) = false := by simp [inR, g54_11, c59_12] <;> omega
                                                              simp only [decide_eq_true_eq, decide_eq_false_iff_not, Bool.not_eq_true', Bool.not_eq_false'] at g69_13 c75_14 g69_15 c75_16 g69_17 c75_18
                                                              have e6 : (!(inR x10 1024 1048576 && inR x11 1024 1048576 && inR x12 1024 1048576)) = false := by simp [inR, g69_13, c75_14, g69_15, c75_16, g69_17, c75_18] <;> omega
                                                              have e7 : (!(rightF [x13, x14, x15, x16, x17, x18, x19, x20, x21, x22, x23, x24, x25, x26, x27, x28])) = false := c79_19
                                                              simp only [decide_eq_true_eq, decide_eq_false_iff_not, Bool.not_eq_true', Bool.not_eq_false'] at c82_20
                                                              have e8 : (!(decide (x29 ≤ 1125899906842624))) = false := by simp [inR, c82_20] <;> omega
                                                              simp only [decide_eq_true_eq, decide_eq_false_iff_not, Bool.not_eq_true', Bool.not_eq_false'] at g86_21 g91_22 g96_23 c100_24
                                                              have e9 : (!(inR x32 2 4096 && decide (x33 ≥ 1) && decide (x33 ≤ 1099511627776))) = false := by simp [inR, g86_21, g91_22, g96_23, c100_24] <;> omega
                                                              simp only [decide_eq_true_eq, decide_eq_false_iff_not, Bool.not_eq_true', Bool.not_eq_false'] at g104_25 c108_26
                                                              have e10 : (!(inR x34 1 4096)) = false := by simp [inR, g104_25, c108_26] <;> omega
                                                              simp only [decide_eq_true_eq, decide_eq_false_iff_not, Bool.not_eq_true', Bool.not_eq_false'] at g112_27 g117_28 g122_29 c126_30
                                                              have e11 : (!(inR x35 64 65536 && inR x36 1 64)) = true := by simp [inR, g112_27, g117_28, g122_29, c126_30] <;> omega
                                                              unfold wrongF
                                                              simp only [e1, e2, e3, e4, e5, e6, e7, e8, e9, e10, e11, cond_true, cond_false]
                                                            · have hf382 := hf379.know 126 (u := .bool false) rfl (congrArg Value.bool c126_30)
                                                              refine wp_skip ?_
                                                              refine then_normal ?_
                                                              refine code_seq ?_
                                                              refine seq_start (l := [0]) rfl ?_
                                                              refine seq_one (op_val (v := .int .u8 0) hf382 rfl rfl rfl rfl rfl rfl (r_assign rfl) fun ac323 hf383 => ?_)
                                                              refine seq_end ?_
                                                              clear hf379 ac321 hf382
                                                              refine then_normal ?_
                                                              refine wp_ret ?_
                                                              refine post1 rfl hf383 rfl ⟨?_, hI5.done (fresh_keys (ks := [b1]) rfl (fk_cons hb1 fk_nil))⟩
                                                              simp only [decide_eq_true_eq, decide_eq_false_iff_not, Bool.not_eq_true', Bool.not_eq_false'] at g7_1 c11_2
                                                              have e1 : (!(inR x0 1 65536)) = false := by simp [inR, g7_1, c11_2] <;> omega
                                                              simp only [decide_eq_true_eq, decide_eq_false_iff_not, Bool.not_eq_true', Bool.not_eq_false'] at g15_3 c19_4
                                                              have e2 : (!(inR x1 1 4096)) = false := by simp [inR, g15_3, c19_4] <;> omega
                                                              simp only [decide_eq_true_eq, decide_eq_false_iff_not, Bool.not_eq_true', Bool.not_eq_false'] at g23_5 c27_6
                                                              have e3 : (!(inR x2 0 10)) = false := by simp [inR, g23_5, c27_6] <;> omega
                                                              simp only [decide_eq_true_eq, decide_eq_false_iff_not, Bool.not_eq_true', Bool.not_eq_false'] at g31_7 g38_8 g43_9 c49_10
                                                              have e4 : (!(inR x3 1 x0 && inR x4 1 x0)) = false := by simp [inR, g31_7, g38_8, g43_9, c49_10] <;> omega
                                                              simp only [decide_eq_true_eq, decide_eq_false_iff_not, Bool.not_eq_true', Bool.not_eq_false'] at g54_11 c59_12
                                                              have e5 : (!(paceF x5 x6 x8 x9 && decide (x5 ≥ 64))) = false := by simp [inR, g54_11, c59_12] <;> omega
                                                              simp only [decide_eq_true_eq, decide_eq_false_iff_not, Bool.not_eq_true', Bool.not_eq_false'] at g69_13 c75_14 g69_15 c75_16 g69_17 c75_18
                                                              have e6 : (!(inR x10 1024 1048576 && inR x11 1024 1048576 && inR x12 1024 1048576)) = false := by simp [inR, g69_13, c75_14, g69_15, c75_16, g69_17, c75_18] <;> omega
                                                              have e7 : (!(rightF [x13, x14, x15, x16, x17, x18, x19, x20, x21, x22, x23, x24, x25, x26, x27, x28])) = false := c79_19
                                                              simp only [decide_eq_true_eq, decide_eq_false_iff_not, Bool.not_eq_true', Bool.not_eq_false'] at c82_20
                                                              have e8 : (!(decide (x29 ≤ 1125899906842624))) = false := by simp [inR, c82_20] <;> omega
                                                              simp only [decide_eq_true_eq, decide_eq_false_iff_not, Bool.not_eq_true', Bool.not_eq_false'] at g86_21 g91_22 g96_23 c100_24
                                                              have e9 : (!(inR x32 2 4096 && decide (x33 ≥ 1) && decide (x33 ≤ 1099511627776))) = false := by simp [inR, g86_21, g91_22, g96_23, c100_24] <;> omega
                                                              simp only [decide_eq_true_eq, decide_eq_false_iff_not, Bool.not_eq_true', Bool.not_eq_false'] at g104_25 c108_26
                                                              have e10 : (!(inR x34 1 4096)) = false := by simp [inR, g104_25, c108_26] <;> omega
                                                              simp only [decide_eq_true_eq, decide_eq_false_iff_not, Bool.not_eq_true', Bool.not_eq_false'] at g112_27 g117_28 g122_29 c126_30
                                                              have e11 : (!(inR x35 64 65536 && inR x36 1 64)) = false := by simp [inR, g112_27, g117_28, g122_29, c126_30] <;> omega
                                                              unfold wrongF
                                                              simp only [e1, e2, e3, e4, e5, e6, e7, e8, e9, e10, e11, cond_true, cond_false]
end Go.Proofs.YtakkookpjhaekaaDoor
