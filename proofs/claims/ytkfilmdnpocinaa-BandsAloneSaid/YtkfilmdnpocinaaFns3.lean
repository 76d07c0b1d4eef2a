/-
  New, the weights, and the chapter's examples.
-/
import Derived.Test.YtkfilmdnpocinaaFns2
namespace Go.Proofs.Ytkfilmdnpocinaa
set_option linter.unusedVariables false
set_option linter.unusedSimpArgs false
set_option maxRecDepth 100000
open Go.RowKit
set_option maxHeartbeats 8000000 in
theorem new_walk (w0 w1 w2 : Int) (w : World) : Calls Try.prog 9 [.agg #[.int .i64 w0, .int .i64 w1, .int .i64 w2]].toArray w fun e w' => (WOK w0 w1 w2 ∧ ∃ b, w.heap.size ≤ b ∧ e = .returned (.tuple #[.pointer (some ⟨b, 0, none⟩), .int .i64 0]) ∧ Inv w [(b, #[.int .i64 w0, .int .i64 w1, .int .i64 w2, .int .i64 w0, .int .i64 w1, .int .i64 w2, .int .i64 0], 58)] w') ∨ (¬ WOK w0 w1 w2 ∧ e = .returned (.tuple #[.pointer none, .int .i64 2]) ∧ Inv w [] w') := by
  have hI1 := Inv.start w
  refine enter (n := 21) Try.func9 rfl rfl rfl ?_
  intro ac1 hf1
  refine code_seq ?_
  refine seq_start (l := [0, 1, 2]) rfl ?_
  refine seq_one (op_box hf1 rfl rfl rfl rfl hI1 fun ac2 b1 wd1 hb1 hI2 hf2 => ?_)
  have hI3 : Inv w [(b1, #[.int .i64 w0, .int .i64 w1, .int .i64 w2], 22)] wd1 := hI2
  refine seq_one (op_val (v := .pointer none) hf2 rfl rfl rfl rfl rfl rfl (r_assign rfl) fun ac3 hf3 => ?_)
  refine seq_one (op_val (v := .int .i64 0) hf3 rfl rfl rfl rfl rfl rfl (r_assign rfl) fun ac4 hf4 => ?_)
  refine seq_end ?_
  clear ac1 hI1 hf1 hI2 ac2 hf2 ac3 hf3
  refine then_normal ?_
  refine code_seq ?_
  refine code_seq ?_
  refine seq_start (l := [0, 1]) rfl ?_
  refine seq_one (op_val (v := .agg #[.int .i64 w0, .int .i64 w1, .int .i64 w2]) hf4 rfl rfl rfl rfl rfl rfl (r_loadW ag_22 sz_22 rfl (hI3.at 0 rfl) rfl) fun ac5 hf5 => ?_)
  refine seq_one (op_val (v := .int .i64 0) hf5 rfl rfl rfl rfl rfl rfl (r_move rfl) fun ac6 hf6 => ?_)
  refine seq_end ?_
  clear ac4 hf4 ac5 hf5
  refine then_normal ?_
  refine wp_block ?_
  refine wp_loop_rounds 4 ?_
  refine rounds_go ?_
  refine code_seq ?_
  refine seq_start (l := [0]) rfl ?_
  refine seq_one (op_val (v := .bool true) hf6 rfl rfl rfl rfl rfl rfl (r_lssC rfl rfl (by decide)) fun ac7 hf7 => ?_)
  refine seq_end ?_
  clear ac6 hf6
  refine then_normal ?_
  refine code_seq ?_
  refine code_if_true hf7 rfl ?_
  refine wp_skip ?_
  refine then_normal ?_
  refine code_seq ?_
  refine wp_block ?_
  refine code_seq ?_
  refine seq_start (l := [0, 1]) rfl ?_
  refine seq_one (op_val (v := .int .i64 w0) hf7 rfl rfl rfl rfl rfl rfl (r_index (i := 0) ar_22 ag_3 rfl rfl rfl (by decide) rfl) fun ac8 hf8 => ?_)
  refine seq_one (op_val (v := .int .i64 w0) hf8 rfl rfl rfl rfl rfl rfl (r_assign rfl) fun ac9 hf9 => ?_)
  refine seq_end ?_
  clear ac7 hf7 ac8 hf8
  refine then_normal ?_
  refine code_seq ?_
  refine seq_start (l := [0, 1, 2, 3, 4, 5]) rfl ?_
  refine seq_one (op_val (v := .int .i64 w0) hf9 rfl rfl rfl rfl rfl rfl (r_move rfl) fun ac10 hf10 => ?_)
  refine seq_one (op_val (v := .bool (decide (w0 < 1024))) hf10 rfl rfl rfl rfl rfl rfl (r_lss rfl rfl) fun ac11 hf11 => ?_)
  refine seq_one (op_val (v := .bool (decide (w0 < 1024))) hf11 rfl rfl rfl rfl rfl rfl (r_move rfl) fun ac12 hf12 => ?_)
  rcases Bool.eq_false_or_eq_true (decide (w0 < 1024) : Bool) with g12_1 | g12_1
  · have hf13 := hf12.know 12 (u := .bool true) rfl (congrArg Value.bool g12_1)
    refine seq_one (op_skip hf13 rfl rfl rfl rfl fun ac13 hf14 => ?_)
    refine seq_one (op_skip hf14 rfl rfl rfl rfl fun ac14 hf15 => ?_)
    refine seq_one (op_val (v := .bool true) hf15 rfl rfl rfl rfl rfl rfl (r_pickT rfl rfl) fun ac15 hf16 => ?_)
    refine seq_end ?_
    clear ac9 hf9 ac10 hf10 ac11 hf11 hf12 ac12 hf13 ac13 hf14 ac14 hf15
    refine then_normal ?_
    refine code_if_true hf16 rfl ?_
    refine code_seq ?_
    refine seq_start (l := [0, 1]) rfl ?_
    refine seq_one (op_val (v := .pointer none) hf16 rfl rfl rfl rfl rfl rfl (r_assign rfl) fun ac16 hf17 => ?_)
    refine seq_one (op_val (v := .int .i64 2) hf17 rfl rfl rfl rfl rfl rfl (r_assign rfl) fun ac17 hf18 => ?_)
    refine seq_end ?_
    clear ac15 hf16 ac16 hf17
    refine then_normal ?_
    refine wp_ret ?_
    refine block_ret ?_
    refine then_ret ?_
    refine then_ret ?_
    refine block_ret ?_
    refine then_ret ?_
    refine post2 rfl hf18 rfl rfl ?_
    simp only [decide_eq_true_eq, decide_eq_false_iff_not] at g12_1
    exact .inr ⟨fun h => by have := h.l0; have := h.r0; have := h.l1; have := h.r1; have := h.l2; have := h.r2; omega, rfl, hI3.done (fresh_keys (ks := [b1]) rfl (fk_cons hb1 fk_nil))⟩
  · have hf19 := hf12.know 12 (u := .bool false) rfl (congrArg Value.bool g12_1)
    refine seq_one (op_val (v := .int .i64 w0) hf19 rfl rfl rfl rfl rfl rfl (r_move rfl) fun ac18 hf20 => ?_)
    refine seq_one (op_val (v := .bool (decide (w0 > 1048576))) hf20 rfl rfl rfl rfl rfl rfl (r_gtr rfl rfl) fun ac19 hf21 => ?_)
    refine seq_one (op_val (v := .bool (decide (w0 > 1048576))) hf21 rfl rfl rfl rfl rfl rfl (r_pickF rfl rfl) fun ac20 hf22 => ?_)
    refine seq_end ?_
    clear ac9 hf9 ac10 hf10 ac11 hf11 hf12 ac12 hf19 ac18 hf20 ac19 hf21
    refine then_normal ?_
    refine code_if hf22 rfl (fun c15_2 => ?_) (fun c15_2 => ?_)
    · have hf23 := hf22.know 15 (u := .bool true) rfl (congrArg Value.bool c15_2)
      refine code_seq ?_
      refine seq_start (l := [0, 1]) rfl ?_
      refine seq_one (op_val (v := .pointer none) hf23 rfl rfl rfl rfl rfl rfl (r_assign rfl) fun ac21 hf24 => ?_)
      refine seq_one (op_val (v := .int .i64 2) hf24 rfl rfl rfl rfl rfl rfl (r_assign rfl) fun ac22 hf25 => ?_)
      refine seq_end ?_
      clear hf22 ac20 hf23 ac21 hf24
      refine then_normal ?_
      refine wp_ret ?_
      refine block_ret ?_
      refine then_ret ?_
      refine then_ret ?_
      refine block_ret ?_
      refine then_ret ?_
      refine post2 rfl hf25 rfl rfl ?_
      simp only [decide_eq_true_eq, decide_eq_false_iff_not] at g12_1 c15_2
      exact .inr ⟨fun h => by have := h.l0; have := h.r0; have := h.l1; have := h.r1; have := h.l2; have := h.r2; omega, rfl, hI3.done (fresh_keys (ks := [b1]) rfl (fk_cons hb1 fk_nil))⟩
    · have hf26 := hf22.know 15 (u := .bool false) rfl (congrArg Value.bool c15_2)
      refine wp_skip ?_
      refine block_normal ?_
      refine then_normal ?_
      refine seq_start (l := [0, 1]) rfl ?_
      refine seq_one (op_val (v := .int .i64 1) hf26 rfl rfl rfl rfl rfl rfl (r_add (c := 1) rfl rfl (by rfl)) fun ac23 hf27 => ?_)
      refine seq_one (op_val (v := .int .i64 1) hf27 rfl rfl rfl rfl rfl rfl (r_move rfl) fun ac24 hf28 => ?_)
      refine seq_end ?_
      clear hf22 ac20 hf26 ac23 hf27
      refine then_normal ?_
      refine rounds_go ?_
      refine code_seq ?_
      refine seq_start (l := [0]) rfl ?_
      refine seq_one (op_val (v := .bool true) hf28 rfl rfl rfl rfl rfl rfl (r_lssC rfl rfl (by decide)) fun ac25 hf29 => ?_)
      refine seq_end ?_
      clear ac24 hf28
      refine then_normal ?_
      refine code_seq ?_
      refine code_if_true hf29 rfl ?_
      refine wp_skip ?_
      refine then_normal ?_
      refine code_seq ?_
      refine wp_block ?_
      refine code_seq ?_
      refine seq_start (l := [0, 1]) rfl ?_
      refine seq_one (op_val (v := .int .i64 w1) hf29 rfl rfl rfl rfl rfl rfl (r_index (i := 1) ar_22 ag_3 rfl rfl rfl (by decide) rfl) fun ac26 hf30 => ?_)
      refine seq_one (op_val (v := .int .i64 w1) hf30 rfl rfl rfl rfl rfl rfl (r_assign rfl) fun ac27 hf31 => ?_)
      refine seq_end ?_
      clear ac25 hf29 ac26 hf30
      refine then_normal ?_
      refine code_seq ?_
      refine seq_start (l := [0, 1, 2, 3, 4, 5]) rfl ?_
      refine seq_one (op_val (v := .int .i64 w1) hf31 rfl rfl rfl rfl rfl rfl (r_move rfl) fun ac28 hf32 => ?_)
      refine seq_one (op_val (v := .bool (decide (w1 < 1024))) hf32 rfl rfl rfl rfl rfl rfl (r_lss rfl rfl) fun ac29 hf33 => ?_)
      refine seq_one (op_val (v := .bool (decide (w1 < 1024))) hf33 rfl rfl rfl rfl rfl rfl (r_move rfl) fun ac30 hf34 => ?_)
      rcases Bool.eq_false_or_eq_true (decide (w1 < 1024) : Bool) with g12_3 | g12_3
      · have hf35 := hf34.know 12 (u := .bool true) rfl (congrArg Value.bool g12_3)
        refine seq_one (op_skip hf35 rfl rfl rfl rfl fun ac31 hf36 => ?_)
        refine seq_one (op_skip hf36 rfl rfl rfl rfl fun ac32 hf37 => ?_)
        refine seq_one (op_val (v := .bool true) hf37 rfl rfl rfl rfl rfl rfl (r_pickT rfl rfl) fun ac33 hf38 => ?_)
        refine seq_end ?_
        clear ac27 hf31 ac28 hf32 ac29 hf33 hf34 ac30 hf35 ac31 hf36 ac32 hf37
        refine then_normal ?_
        refine code_if_true hf38 rfl ?_
        refine code_seq ?_
        refine seq_start (l := [0, 1]) rfl ?_
        refine seq_one (op_val (v := .pointer none) hf38 rfl rfl rfl rfl rfl rfl (r_assign rfl) fun ac34 hf39 => ?_)
        refine seq_one (op_val (v := .int .i64 2) hf39 rfl rfl rfl rfl rfl rfl (r_assign rfl) fun ac35 hf40 => ?_)
        refine seq_end ?_
        clear ac33 hf38 ac34 hf39
        refine then_normal ?_
        refine wp_ret ?_
        refine block_ret ?_
        refine then_ret ?_
        refine then_ret ?_
        refine block_ret ?_
        refine then_ret ?_
        refine post2 rfl hf40 rfl rfl ?_
        simp only [decide_eq_true_eq, decide_eq_false_iff_not] at g12_1 c15_2 g12_3
        exact .inr ⟨fun h => by have := h.l0; have := h.r0; have := h.l1; have := h.r1; have := h.l2; have := h.r2; omega, rfl, hI3.done (fresh_keys (ks := [b1]) rfl (fk_cons hb1 fk_nil))⟩
      · have hf41 := hf34.know 12 (u := .bool false) rfl (congrArg Value.bool g12_3)
        refine seq_one (op_val (v := .int .i64 w1) hf41 rfl rfl rfl rfl rfl rfl (r_move rfl) fun ac36 hf42 => ?_)
        refine seq_one (op_val (v := .bool (decide (w1 > 1048576))) hf42 rfl rfl rfl rfl rfl rfl (r_gtr rfl rfl) fun ac37 hf43 => ?_)
        refine seq_one (op_val (v := .bool (decide (w1 > 1048576))) hf43 rfl rfl rfl rfl rfl rfl (r_pickF rfl rfl) fun ac38 hf44 => ?_)
        refine seq_end ?_
        clear ac27 hf31 ac28 hf32 ac29 hf33 hf34 ac30 hf41 ac36 hf42 ac37 hf43
        refine then_normal ?_
        refine code_if hf44 rfl (fun c15_4 => ?_) (fun c15_4 => ?_)
        · have hf45 := hf44.know 15 (u := .bool true) rfl (congrArg Value.bool c15_4)
          refine code_seq ?_
          refine seq_start (l := [0, 1]) rfl ?_
          refine seq_one (op_val (v := .pointer none) hf45 rfl rfl rfl rfl rfl rfl (r_assign rfl) fun ac39 hf46 => ?_)
          refine seq_one (op_val (v := .int .i64 2) hf46 rfl rfl rfl rfl rfl rfl (r_assign rfl) fun ac40 hf47 => ?_)
          refine seq_end ?_
          clear hf44 ac38 hf45 ac39 hf46
          refine then_normal ?_
          refine wp_ret ?_
          refine block_ret ?_
          refine then_ret ?_
          refine then_ret ?_
          refine block_ret ?_
          refine then_ret ?_
          refine post2 rfl hf47 rfl rfl ?_
          simp only [decide_eq_true_eq, decide_eq_false_iff_not] at g12_1 c15_2 g12_3 c15_4
          exact .inr ⟨fun h => by have := h.l0; have := h.r0; have := h.l1; have := h.r1; have := h.l2; have := h.r2; omega, rfl, hI3.done (fresh_keys (ks := [b1]) rfl (fk_cons hb1 fk_nil))⟩
        · have hf48 := hf44.know 15 (u := .bool false) rfl (congrArg Value.bool c15_4)
          refine wp_skip ?_
          refine block_normal ?_
          refine then_normal ?_
          refine seq_start (l := [0, 1]) rfl ?_
          refine seq_one (op_val (v := .int .i64 2) hf48 rfl rfl rfl rfl rfl rfl (r_add (c := 2) rfl rfl (by rfl)) fun ac41 hf49 => ?_)
          refine seq_one (op_val (v := .int .i64 2) hf49 rfl rfl rfl rfl rfl rfl (r_move rfl) fun ac42 hf50 => ?_)
          refine seq_end ?_
          clear hf44 ac38 hf48 ac41 hf49
          refine then_normal ?_
          refine rounds_go ?_
          refine code_seq ?_
          refine seq_start (l := [0]) rfl ?_
          refine seq_one (op_val (v := .bool true) hf50 rfl rfl rfl rfl rfl rfl (r_lssC rfl rfl (by decide)) fun ac43 hf51 => ?_)
          refine seq_end ?_
          clear ac42 hf50
          refine then_normal ?_
          refine code_seq ?_
          refine code_if_true hf51 rfl ?_
          refine wp_skip ?_
          refine then_normal ?_
          refine code_seq ?_
          refine wp_block ?_
          refine code_seq ?_
          refine seq_start (l := [0, 1]) rfl ?_
          refine seq_one (op_val (v := .int .i64 w2) hf51 rfl rfl rfl rfl rfl rfl (r_index (i := 2) ar_22 ag_3 rfl rfl rfl (by decide) rfl) fun ac44 hf52 => ?_)
          refine seq_one (op_val (v := .int .i64 w2) hf52 rfl rfl rfl rfl rfl rfl (r_assign rfl) fun ac45 hf53 => ?_)
          refine seq_end ?_
          clear ac43 hf51 ac44 hf52
          refine then_normal ?_
          refine code_seq ?_
          refine seq_start (l := [0, 1, 2, 3, 4, 5]) rfl ?_
          refine seq_one (op_val (v := .int .i64 w2) hf53 rfl rfl rfl rfl rfl rfl (r_move rfl) fun ac46 hf54 => ?_)
          refine seq_one (op_val (v := .bool (decide (w2 < 1024))) hf54 rfl rfl rfl rfl rfl rfl (r_lss rfl rfl) fun ac47 hf55 => ?_)
          refine seq_one (op_val (v := .bool (decide (w2 < 1024))) hf55 rfl rfl rfl rfl rfl rfl (r_move rfl) fun ac48 hf56 => ?_)
          rcases Bool.eq_false_or_eq_true (decide (w2 < 1024) : Bool) with g12_5 | g12_5
          · have hf57 := hf56.know 12 (u := .bool true) rfl (congrArg Value.bool g12_5)
            refine seq_one (op_skip hf57 rfl rfl rfl rfl fun ac49 hf58 => ?_)
            refine seq_one (op_skip hf58 rfl rfl rfl rfl fun ac50 hf59 => ?_)
            refine seq_one (op_val (v := .bool true) hf59 rfl rfl rfl rfl rfl rfl (r_pickT rfl rfl) fun ac51 hf60 => ?_)
            refine seq_end ?_
            clear ac45 hf53 ac46 hf54 ac47 hf55 hf56 ac48 hf57 ac49 hf58 ac50 hf59
            refine then_normal ?_
            refine code_if_true hf60 rfl ?_
            refine code_seq ?_
            refine seq_start (l := [0, 1]) rfl ?_
            refine seq_one (op_val (v := .pointer none) hf60 rfl rfl rfl rfl rfl rfl (r_assign rfl) fun ac52 hf61 => ?_)
            refine seq_one (op_val (v := .int .i64 2) hf61 rfl rfl rfl rfl rfl rfl (r_assign rfl) fun ac53 hf62 => ?_)
            refine seq_end ?_
            clear ac51 hf60 ac52 hf61
            refine then_normal ?_
            refine wp_ret ?_
            refine block_ret ?_
            refine then_ret ?_
            refine then_ret ?_
            refine block_ret ?_
            refine then_ret ?_
            refine post2 rfl hf62 rfl rfl ?_
            simp only [decide_eq_true_eq, decide_eq_false_iff_not] at g12_1 c15_2 g12_3 c15_4 g12_5
            exact .inr ⟨fun h => by have := h.l0; have := h.r0; have := h.l1; have := h.r1; have := h.l2; have := h.r2; omega, rfl, hI3.done (fresh_keys (ks := [b1]) rfl (fk_cons hb1 fk_nil))⟩
          · have hf63 := hf56.know 12 (u := .bool false) rfl (congrArg Value.bool g12_5)
            refine seq_one (op_val (v := .int .i64 w2) hf63 rfl rfl rfl rfl rfl rfl (r_move rfl) fun ac54 hf64 => ?_)
            refine seq_one (op_val (v := .bool (decide (w2 > 1048576))) hf64 rfl rfl rfl rfl rfl rfl (r_gtr rfl rfl) fun ac55 hf65 => ?_)
            refine seq_one (op_val (v := .bool (decide (w2 > 1048576))) hf65 rfl rfl rfl rfl rfl rfl (r_pickF rfl rfl) fun ac56 hf66 => ?_)
            refine seq_end ?_
            clear ac45 hf53 ac46 hf54 ac47 hf55 hf56 ac48 hf63 ac54 hf64 ac55 hf65
            refine then_normal ?_
            refine code_if hf66 rfl (fun c15_6 => ?_) (fun c15_6 => ?_)
            · have hf67 := hf66.know 15 (u := .bool true) rfl (congrArg Value.bool c15_6)
              refine code_seq ?_
              refine seq_start (l := [0, 1]) rfl ?_
              refine seq_one (op_val (v := .pointer none) hf67 rfl rfl rfl rfl rfl rfl (r_assign rfl) fun ac57 hf68 => ?_)
              refine seq_one (op_val (v := .int .i64 2) hf68 rfl rfl rfl rfl rfl rfl (r_assign rfl) fun ac58 hf69 => ?_)
              refine seq_end ?_
              clear hf66 ac56 hf67 ac57 hf68
              refine then_normal ?_
              refine wp_ret ?_
              refine block_ret ?_
              refine then_ret ?_
              refine then_ret ?_
              refine block_ret ?_
              refine then_ret ?_
              refine post2 rfl hf69 rfl rfl ?_
              simp only [decide_eq_true_eq, decide_eq_false_iff_not] at g12_1 c15_2 g12_3 c15_4 g12_5 c15_6
              exact .inr ⟨fun h => by have := h.l0; have := h.r0; have := h.l1; have := h.r1; have := h.l2; have := h.r2; omega, rfl, hI3.done (fresh_keys (ks := [b1]) rfl (fk_cons hb1 fk_nil))⟩
            · have hf70 := hf66.know 15 (u := .bool false) rfl (congrArg Value.bool c15_6)
              refine wp_skip ?_
              refine block_normal ?_
              refine then_normal ?_
              refine seq_start (l := [0, 1]) rfl ?_
              refine seq_one (op_val (v := .int .i64 3) hf70 rfl rfl rfl rfl rfl rfl (r_add (c := 3) rfl rfl (by rfl)) fun ac59 hf71 => ?_)
              refine seq_one (op_val (v := .int .i64 3) hf71 rfl rfl rfl rfl rfl rfl (r_move rfl) fun ac60 hf72 => ?_)
              refine seq_end ?_
              clear hf66 ac56 hf70 ac59 hf71
              refine then_normal ?_
              refine rounds_go ?_
              refine code_seq ?_
              refine seq_start (l := [0]) rfl ?_
              refine seq_one (op_val (v := .bool false) hf72 rfl rfl rfl rfl rfl rfl (r_lssC rfl rfl (by decide)) fun ac61 hf73 => ?_)
              refine seq_end ?_
              clear ac60 hf72
              refine then_normal ?_
              refine code_seq ?_
              refine code_if_false hf73 rfl ?_
              refine wp_exit ?_
              refine then_exit ?_
              refine then_exit ?_
              refine block_here ?_
              refine then_normal ?_
              refine code_seq ?_
              refine seq_start (l := [0, 1, 2, 3, 4, 5]) rfl ?_
              refine seq_one (op_val (v := .agg #[.int .i64 w0, .int .i64 w1, .int .i64 w2]) hf73 rfl rfl rfl rfl rfl rfl (r_loadW ag_22 sz_22 rfl (hI3.at 0 rfl) rfl) fun ac62 hf74 => ?_)
              refine seq_one (op_val (v := .agg #[.int .i64 w0, .int .i64 w1, .int .i64 w2]) hf74 rfl rfl rfl rfl rfl rfl (r_loadW ag_22 sz_22 rfl (hI3.at 0 rfl) rfl) fun ac63 hf75 => ?_)
              refine seq_one (op_val (v := .agg #[.int .i64 w0, .int .i64 w1, .int .i64 w2, .int .i64 w0, .int .i64 w1, .int .i64 w2, .int .i64 0]) hf75 rfl rfl rfl rfl rfl rfl (r_build (v := .agg #[.int .i64 w0, .int .i64 w1, .int .i64 w2, .int .i64 w0, .int .i64 w1, .int .i64 w2, .int .i64 0]) rfl (fun _ => by kernel_rfl)) fun ac64 hf76 => ?_)
              refine seq_one (op_box hf76 rfl rfl rfl rfl hI3 fun ac65 b2 wd2 hb2 hI4 hf77 => ?_)
              have hI5 : Inv w [(b1, #[.int .i64 w0, .int .i64 w1, .int .i64 w2], 22), (b2, #[.int .i64 w0, .int .i64 w1, .int .i64 w2, .int .i64 w0, .int .i64 w1, .int .i64 w2, .int .i64 0], 58)] wd2 := hI4
              refine seq_one (op_val (v := .pointer (some ⟨b2, 0, none⟩)) hf77 rfl rfl rfl rfl rfl rfl (r_assign rfl) fun ac66 hf78 => ?_)
              refine seq_one (op_val (v := .int .i64 0) hf78 rfl rfl rfl rfl rfl rfl (r_assign rfl) fun ac67 hf79 => ?_)
              refine seq_end ?_
              clear ac61 hf73 ac62 hf74 ac63 hf75 ac64 wd1 hI3 hf76 hI4 ac65 hf77 ac66 hf78
              refine then_normal ?_
              refine wp_ret ?_
              refine post2 rfl hf79 rfl rfl ?_
              simp only [decide_eq_true_eq, decide_eq_false_iff_not] at g12_1 c15_2 g12_3 c15_4 g12_5 c15_6
              exact .inl ⟨⟨by omega, by omega, by omega, by omega, by omega, by omega⟩, b2, hb2, rfl, Inv.keep (A := []) (N := [(b1, #[.int .i64 w0, .int .i64 w1, .int .i64 w2], 22)]) (T := [(b2, #[.int .i64 w0, .int .i64 w1, .int .i64 w2, .int .i64 w0, .int .i64 w1, .int .i64 w2, .int .i64 0], 58)]) hI5 (fresh_keys (ks := [b1]) rfl (fk_cons hb1 fk_nil))⟩
set_option maxHeartbeats 8000000 in
theorem newR_ok (w0 w1 w2 : Int) (hv : WOK w0 w1 w2) : Pur Try.prog 10 [.agg #[.int .i64 w0, .int .i64 w1, .int .i64 w2]] (.tuple #[.agg #[.int .i64 w0, .int .i64 w1, .int .i64 w2, .int .i64 w0, .int .i64 w1, .int .i64 w2, .int .i64 0], .bool true]) := by
  intro w
  have hI1 := Inv.start w
  refine enter (n := 23) Try.func10 rfl rfl rfl ?_
  intro ac1 hf1
  refine code_seq ?_
  refine seq_start (l := [0, 1, 2]) rfl ?_
  refine seq_one (op_box hf1 rfl rfl rfl rfl hI1 fun ac2 b1 wd1 hb1 hI2 hf2 => ?_)
  have hI3 : Inv w [(b1, #[.int .i64 w0, .int .i64 w1, .int .i64 w2], 22)] wd1 := hI2
  refine seq_one (op_alloc hf2 rfl rfl rfl ze_29 hI3 fun ac3 b2 wd2 hb2 hI4 hf3 => ?_)
  have hI5 : Inv w [(b1, #[.int .i64 w0, .int .i64 w1, .int .i64 w2], 22), (b2, #[.int .i64 0, .int .i64 0, .int .i64 0, .int .i64 0, .int .i64 0, .int .i64 0, .int .i64 0], 29)] wd2 := hI4
  refine seq_one (op_val (v := .bool false) hf3 rfl rfl rfl rfl rfl rfl (r_assign rfl) fun ac4 hf4 => ?_)
  refine seq_end ?_
  clear ac1 hI1 hf1 hI2 ac2 wd1 hI3 hf2 hI4 ac3 hf3
  refine then_normal ?_
  refine code_seq ?_
  refine code_seq ?_
  refine seq_start (l := [0]) rfl ?_
  refine seq_one (op_val (v := .int .i64 0) hf4 rfl rfl rfl rfl rfl rfl (r_assign rfl) fun ac5 hf5 => ?_)
  refine seq_end ?_
  clear ac4 hf4
  refine then_normal ?_
  refine wp_block ?_
  refine wp_loop_rounds 4 ?_
  refine rounds_go ?_
  refine code_seq ?_
  refine code_seq ?_
  refine seq_start (l := [0, 1]) rfl ?_
  refine seq_one (op_val (v := .int .i64 0) hf5 rfl rfl rfl rfl rfl rfl (r_move rfl) fun ac6 hf6 => ?_)
  refine seq_one (op_val (v := .bool true) hf6 rfl rfl rfl rfl rfl rfl (r_lssC rfl rfl (by decide)) fun ac7 hf7 => ?_)
  refine seq_end ?_
  clear ac5 hf5 ac6 hf6
  refine then_normal ?_
  refine code_if_true hf7 rfl ?_
  refine wp_skip ?_
  refine then_normal ?_
  refine code_seq ?_
  refine wp_block ?_
  refine code_seq ?_
  refine seq_start (l := [0, 1, 2, 3, 4, 5, 6, 7, 8, 9]) rfl ?_
  refine seq_one (op_val (v := .int .i64 0) hf7 rfl rfl rfl rfl rfl rfl (r_move rfl) fun ac8 hf8 => ?_)
  refine seq_one (op_val (v := .pointer (some ⟨b1, 0, none⟩)) hf8 rfl rfl rfl rfl rfl rfl (r_indexAddr (i := 0) ar_22 rfl rfl rfl (by decide) rfl) fun ac9 hf9 => ?_)
  refine seq_one (op_val (v := .int .i64 w0) hf9 rfl rfl rfl rfl rfl rfl (r_load ag_3 rfl (hI5.at 0 rfl) rfl) fun ac10 hf10 => ?_)
  refine seq_one (op_val (v := .bool (decide (w0 < 1024))) hf10 rfl rfl rfl rfl rfl rfl (r_lss rfl rfl) fun ac11 hf11 => ?_)
  refine seq_one (op_val (v := .bool (decide (w0 < 1024))) hf11 rfl rfl rfl rfl rfl rfl (r_move rfl) fun ac12 hf12 => ?_)
  have hf13 := hf12.know 13 (u := .bool false) rfl (congrArg Value.bool (decide_eq_false (by have := hv.l0; have := hv.r0; have := hv.l1; have := hv.r1; have := hv.l2; have := hv.r2; omega)))
  refine seq_one (op_val (v := .int .i64 0) hf13 rfl rfl rfl rfl rfl rfl (r_move rfl) fun ac13 hf14 => ?_)
  refine seq_one (op_val (v := .pointer (some ⟨b1, 0, none⟩)) hf14 rfl rfl rfl rfl rfl rfl (r_indexAddr (i := 0) ar_22 rfl rfl rfl (by decide) rfl) fun ac14 hf15 => ?_)
  refine seq_one (op_val (v := .int .i64 w0) hf15 rfl rfl rfl rfl rfl rfl (r_load ag_3 rfl (hI5.at 0 rfl) rfl) fun ac15 hf16 => ?_)
  refine seq_one (op_val (v := .bool (decide (w0 > 1048576))) hf16 rfl rfl rfl rfl rfl rfl (r_gtr rfl rfl) fun ac16 hf17 => ?_)
  refine seq_one (op_val (v := .bool (decide (w0 > 1048576))) hf17 rfl rfl rfl rfl rfl rfl (r_pickF rfl rfl) fun ac17 hf18 => ?_)
  refine seq_end ?_
  clear ac7 hf7 ac8 hf8 ac9 hf9 ac10 hf10 ac11 hf11 hf12 ac12 hf13 ac13 hf14 ac14 hf15 ac15 hf16 ac16 hf17
  refine then_normal ?_
  have hf19 := hf18.know 18 (u := .bool false) rfl (congrArg Value.bool (decide_eq_false (by have := hv.l0; have := hv.r0; have := hv.l1; have := hv.r1; have := hv.l2; have := hv.r2; omega)))
  refine code_if_false hf19 rfl ?_
  refine wp_skip ?_
  refine block_normal ?_
  refine then_normal ?_
  refine seq_start (l := [0, 1, 2]) rfl ?_
  refine seq_one (op_val (v := .int .i64 0) hf19 rfl rfl rfl rfl rfl rfl (r_move rfl) fun ac18 hf20 => ?_)
  refine seq_one (op_val (v := .int .i64 1) hf20 rfl rfl rfl rfl rfl rfl (r_add (c := 1) rfl rfl (by rfl)) fun ac19 hf21 => ?_)
  refine seq_one (op_val (v := .int .i64 1) hf21 rfl rfl rfl rfl rfl rfl (r_assign rfl) fun ac20 hf22 => ?_)
  refine seq_end ?_
  clear hf18 ac17 hf19 ac18 hf20 ac19 hf21
  refine then_normal ?_
  refine rounds_go ?_
  refine code_seq ?_
  refine code_seq ?_
  refine seq_start (l := [0, 1]) rfl ?_
  refine seq_one (op_val (v := .int .i64 1) hf22 rfl rfl rfl rfl rfl rfl (r_move rfl) fun ac21 hf23 => ?_)
  refine seq_one (op_val (v := .bool true) hf23 rfl rfl rfl rfl rfl rfl (r_lssC rfl rfl (by decide)) fun ac22 hf24 => ?_)
  refine seq_end ?_
  clear ac20 hf22 ac21 hf23
  refine then_normal ?_
  refine code_if_true hf24 rfl ?_
  refine wp_skip ?_
  refine then_normal ?_
  refine code_seq ?_
  refine wp_block ?_
  refine code_seq ?_
  refine seq_start (l := [0, 1, 2, 3, 4, 5, 6, 7, 8, 9]) rfl ?_
  refine seq_one (op_val (v := .int .i64 1) hf24 rfl rfl rfl rfl rfl rfl (r_move rfl) fun ac23 hf25 => ?_)
  refine seq_one (op_val (v := .pointer (some ⟨b1, 1, none⟩)) hf25 rfl rfl rfl rfl rfl rfl (r_indexAddr (i := 1) ar_22 rfl rfl rfl (by decide) rfl) fun ac24 hf26 => ?_)
  refine seq_one (op_val (v := .int .i64 w1) hf26 rfl rfl rfl rfl rfl rfl (r_load ag_3 rfl (hI5.at 0 rfl) rfl) fun ac25 hf27 => ?_)
  refine seq_one (op_val (v := .bool (decide (w1 < 1024))) hf27 rfl rfl rfl rfl rfl rfl (r_lss rfl rfl) fun ac26 hf28 => ?_)
  refine seq_one (op_val (v := .bool (decide (w1 < 1024))) hf28 rfl rfl rfl rfl rfl rfl (r_move rfl) fun ac27 hf29 => ?_)
  have hf30 := hf29.know 13 (u := .bool false) rfl (congrArg Value.bool (decide_eq_false (by have := hv.l0; have := hv.r0; have := hv.l1; have := hv.r1; have := hv.l2; have := hv.r2; omega)))
  refine seq_one (op_val (v := .int .i64 1) hf30 rfl rfl rfl rfl rfl rfl (r_move rfl) fun ac28 hf31 => ?_)
  refine seq_one (op_val (v := .pointer (some ⟨b1, 1, none⟩)) hf31 rfl rfl rfl rfl rfl rfl (r_indexAddr (i := 1) ar_22 rfl rfl rfl (by decide) rfl) fun ac29 hf32 => ?_)
  refine seq_one (op_val (v := .int .i64 w1) hf32 rfl rfl rfl rfl rfl rfl (r_load ag_3 rfl (hI5.at 0 rfl) rfl) fun ac30 hf33 => ?_)
  refine seq_one (op_val (v := .bool (decide (w1 > 1048576))) hf33 rfl rfl rfl rfl rfl rfl (r_gtr rfl rfl) fun ac31 hf34 => ?_)
  refine seq_one (op_val (v := .bool (decide (w1 > 1048576))) hf34 rfl rfl rfl rfl rfl rfl (r_pickF rfl rfl) fun ac32 hf35 => ?_)
  refine seq_end ?_
  clear ac22 hf24 ac23 hf25 ac24 hf26 ac25 hf27 ac26 hf28 hf29 ac27 hf30 ac28 hf31 ac29 hf32 ac30 hf33 ac31 hf34
  refine then_normal ?_
  have hf36 := hf35.know 18 (u := .bool false) rfl (congrArg Value.bool (decide_eq_false (by have := hv.l0; have := hv.r0; have := hv.l1; have := hv.r1; have := hv.l2; have := hv.r2; omega)))
  refine code_if_false hf36 rfl ?_
  refine wp_skip ?_
  refine block_normal ?_
  refine then_normal ?_
  refine seq_start (l := [0, 1, 2]) rfl ?_
  refine seq_one (op_val (v := .int .i64 1) hf36 rfl rfl rfl rfl rfl rfl (r_move rfl) fun ac33 hf37 => ?_)
  refine seq_one (op_val (v := .int .i64 2) hf37 rfl rfl rfl rfl rfl rfl (r_add (c := 2) rfl rfl (by rfl)) fun ac34 hf38 => ?_)
  refine seq_one (op_val (v := .int .i64 2) hf38 rfl rfl rfl rfl rfl rfl (r_assign rfl) fun ac35 hf39 => ?_)
  refine seq_end ?_
  clear hf35 ac32 hf36 ac33 hf37 ac34 hf38
  refine then_normal ?_
  refine rounds_go ?_
  refine code_seq ?_
  refine code_seq ?_
  refine seq_start (l := [0, 1]) rfl ?_
  refine seq_one (op_val (v := .int .i64 2) hf39 rfl rfl rfl rfl rfl rfl (r_move rfl) fun ac36 hf40 => ?_)
  refine seq_one (op_val (v := .bool true) hf40 rfl rfl rfl rfl rfl rfl (r_lssC rfl rfl (by decide)) fun ac37 hf41 => ?_)
  refine seq_end ?_
  clear ac35 hf39 ac36 hf40
  refine then_normal ?_
  refine code_if_true hf41 rfl ?_
  refine wp_skip ?_
  refine then_normal ?_
  refine code_seq ?_
  refine wp_block ?_
  refine code_seq ?_
  refine seq_start (l := [0, 1, 2, 3, 4, 5, 6, 7, 8, 9]) rfl ?_
  refine seq_one (op_val (v := .int .i64 2) hf41 rfl rfl rfl rfl rfl rfl (r_move rfl) fun ac38 hf42 => ?_)
  refine seq_one (op_val (v := .pointer (some ⟨b1, 2, none⟩)) hf42 rfl rfl rfl rfl rfl rfl (r_indexAddr (i := 2) ar_22 rfl rfl rfl (by decide) rfl) fun ac39 hf43 => ?_)
  refine seq_one (op_val (v := .int .i64 w2) hf43 rfl rfl rfl rfl rfl rfl (r_load ag_3 rfl (hI5.at 0 rfl) rfl) fun ac40 hf44 => ?_)
  refine seq_one (op_val (v := .bool (decide (w2 < 1024))) hf44 rfl rfl rfl rfl rfl rfl (r_lss rfl rfl) fun ac41 hf45 => ?_)
  refine seq_one (op_val (v := .bool (decide (w2 < 1024))) hf45 rfl rfl rfl rfl rfl rfl (r_move rfl) fun ac42 hf46 => ?_)
  have hf47 := hf46.know 13 (u := .bool false) rfl (congrArg Value.bool (decide_eq_false (by have := hv.l0; have := hv.r0; have := hv.l1; have := hv.r1; have := hv.l2; have := hv.r2; omega)))
  refine seq_one (op_val (v := .int .i64 2) hf47 rfl rfl rfl rfl rfl rfl (r_move rfl) fun ac43 hf48 => ?_)
  refine seq_one (op_val (v := .pointer (some ⟨b1, 2, none⟩)) hf48 rfl rfl rfl rfl rfl rfl (r_indexAddr (i := 2) ar_22 rfl rfl rfl (by decide) rfl) fun ac44 hf49 => ?_)
  refine seq_one (op_val (v := .int .i64 w2) hf49 rfl rfl rfl rfl rfl rfl (r_load ag_3 rfl (hI5.at 0 rfl) rfl) fun ac45 hf50 => ?_)
  refine seq_one (op_val (v := .bool (decide (w2 > 1048576))) hf50 rfl rfl rfl rfl rfl rfl (r_gtr rfl rfl) fun ac46 hf51 => ?_)
  refine seq_one (op_val (v := .bool (decide (w2 > 1048576))) hf51 rfl rfl rfl rfl rfl rfl (r_pickF rfl rfl) fun ac47 hf52 => ?_)
  refine seq_end ?_
  clear ac37 hf41 ac38 hf42 ac39 hf43 ac40 hf44 ac41 hf45 hf46 ac42 hf47 ac43 hf48 ac44 hf49 ac45 hf50 ac46 hf51
  refine then_normal ?_
  have hf53 := hf52.know 18 (u := .bool false) rfl (congrArg Value.bool (decide_eq_false (by have := hv.l0; have := hv.r0; have := hv.l1; have := hv.r1; have := hv.l2; have := hv.r2; omega)))
  refine code_if_false hf53 rfl ?_
  refine wp_skip ?_
  refine block_normal ?_
  refine then_normal ?_
  refine seq_start (l := [0, 1, 2]) rfl ?_
  refine seq_one (op_val (v := .int .i64 2) hf53 rfl rfl rfl rfl rfl rfl (r_move rfl) fun ac48 hf54 => ?_)
  refine seq_one (op_val (v := .int .i64 3) hf54 rfl rfl rfl rfl rfl rfl (r_add (c := 3) rfl rfl (by rfl)) fun ac49 hf55 => ?_)
  refine seq_one (op_val (v := .int .i64 3) hf55 rfl rfl rfl rfl rfl rfl (r_assign rfl) fun ac50 hf56 => ?_)
  refine seq_end ?_
  clear hf52 ac47 hf53 ac48 hf54 ac49 hf55
  refine then_normal ?_
  refine rounds_go ?_
  refine code_seq ?_
  refine code_seq ?_
  refine seq_start (l := [0, 1]) rfl ?_
  refine seq_one (op_val (v := .int .i64 3) hf56 rfl rfl rfl rfl rfl rfl (r_move rfl) fun ac51 hf57 => ?_)
  refine seq_one (op_val (v := .bool false) hf57 rfl rfl rfl rfl rfl rfl (r_lssC rfl rfl (by decide)) fun ac52 hf58 => ?_)
  refine seq_end ?_
  clear ac50 hf56 ac51 hf57
  refine then_normal ?_
  refine code_if_false hf58 rfl ?_
  refine wp_exit ?_
  refine then_exit ?_
  refine then_exit ?_
  refine block_here ?_
  refine then_normal ?_
  refine code_seq ?_
  refine seq_start (l := [0, 1, 2, 3, 4]) rfl ?_
  refine seq_one (op_val (v := .agg #[.int .i64 w0, .int .i64 w1, .int .i64 w2]) hf58 rfl rfl rfl rfl rfl rfl (r_loadW ag_22 sz_22 rfl (hI5.at 0 rfl) rfl) fun ac53 hf59 => ?_)
  refine seq_one (op_val (v := .agg #[.int .i64 w0, .int .i64 w1, .int .i64 w2]) hf59 rfl rfl rfl rfl rfl rfl (r_loadW ag_22 sz_22 rfl (hI5.at 0 rfl) rfl) fun ac54 hf60 => ?_)
  refine seq_one (op_val (v := .agg #[.int .i64 w0, .int .i64 w1, .int .i64 w2, .int .i64 w0, .int .i64 w1, .int .i64 w2, .int .i64 0]) hf60 rfl rfl rfl rfl rfl rfl (r_build (v := .agg #[.int .i64 w0, .int .i64 w1, .int .i64 w2, .int .i64 w0, .int .i64 w1, .int .i64 w2, .int .i64 0]) rfl (fun _ => by kernel_rfl)) fun ac55 hf61 => ?_)
  refine seq_one (op_storeW (cells := #[.int .i64 w0, .int .i64 w1, .int .i64 w2, .int .i64 w0, .int .i64 w1, .int .i64 w2, .int .i64 0]) 1 hf61 rfl rfl rfl rfl rfl sz_29 rfl rfl hI5 rfl rfl fun wd3 hI6 => ?_)
  have hI7 : Inv w [(b1, #[.int .i64 w0, .int .i64 w1, .int .i64 w2], 22), (b2, #[.int .i64 w0, .int .i64 w1, .int .i64 w2, .int .i64 w0, .int .i64 w1, .int .i64 w2, .int .i64 0], 29)] wd3 := hI6
  refine seq_one (op_val (v := .bool true) hf61 rfl rfl rfl rfl rfl rfl (r_assign rfl) fun ac56 hf62 => ?_)
  refine seq_end ?_
  clear ac52 hf58 ac53 hf59 ac54 hf60 wd2 hI5 hI6 ac55 hf61
  refine then_normal ?_
  refine wp_ret ?_
  refine postC1 rfl hf62 rfl ag_29 sz_29 (hI7.at 1 rfl) rfl rfl ⟨?_, hI7.done (fresh_keys (ks := [b1, b2]) rfl (fk_cons hb1 (fk_cons hb2 fk_nil)))⟩
  rfl
set_option maxHeartbeats 8000000 in
theorem newR_bad (w0 w1 w2 : Int) (hv : ¬ WOK w0 w1 w2) : Pur Try.prog 10 [.agg #[.int .i64 w0, .int .i64 w1, .int .i64 w2]] (.tuple #[.agg #[.int .i64 0, .int .i64 0, .int .i64 0, .int .i64 0, .int .i64 0, .int .i64 0, .int .i64 0], .bool false]) := by
  intro w
  have hI1 := Inv.start w
  refine enter (n := 23) Try.func10 rfl rfl rfl ?_
  intro ac1 hf1
  refine code_seq ?_
  refine seq_start (l := [0, 1, 2]) rfl ?_
  refine seq_one (op_box hf1 rfl rfl rfl rfl hI1 fun ac2 b1 wd1 hb1 hI2 hf2 => ?_)
  have hI3 : Inv w [(b1, #[.int .i64 w0, .int .i64 w1, .int .i64 w2], 22)] wd1 := hI2
  refine seq_one (op_alloc hf2 rfl rfl rfl ze_29 hI3 fun ac3 b2 wd2 hb2 hI4 hf3 => ?_)
  have hI5 : Inv w [(b1, #[.int .i64 w0, .int .i64 w1, .int .i64 w2], 22), (b2, #[.int .i64 0, .int .i64 0, .int .i64 0, .int .i64 0, .int .i64 0, .int .i64 0, .int .i64 0], 29)] wd2 := hI4
  refine seq_one (op_val (v := .bool false) hf3 rfl rfl rfl rfl rfl rfl (r_assign rfl) fun ac4 hf4 => ?_)
  refine seq_end ?_
  clear ac1 hI1 hf1 hI2 ac2 wd1 hI3 hf2 hI4 ac3 hf3
  refine then_normal ?_
  refine code_seq ?_
  refine code_seq ?_
  refine seq_start (l := [0]) rfl ?_
  refine seq_one (op_val (v := .int .i64 0) hf4 rfl rfl rfl rfl rfl rfl (r_assign rfl) fun ac5 hf5 => ?_)
  refine seq_end ?_
  clear ac4 hf4
  refine then_normal ?_
  refine wp_block ?_
  refine wp_loop_rounds 4 ?_
  refine rounds_go ?_
  refine code_seq ?_
  refine code_seq ?_
  refine seq_start (l := [0, 1]) rfl ?_
  refine seq_one (op_val (v := .int .i64 0) hf5 rfl rfl rfl rfl rfl rfl (r_move rfl) fun ac6 hf6 => ?_)
  refine seq_one (op_val (v := .bool true) hf6 rfl rfl rfl rfl rfl rfl (r_lssC rfl rfl (by decide)) fun ac7 hf7 => ?_)
  refine seq_end ?_
  clear ac5 hf5 ac6 hf6
  refine then_normal ?_
  refine code_if_true hf7 rfl ?_
  refine wp_skip ?_
  refine then_normal ?_
  refine code_seq ?_
  refine wp_block ?_
  refine code_seq ?_
  refine seq_start (l := [0, 1, 2, 3, 4, 5, 6, 7, 8, 9]) rfl ?_
  refine seq_one (op_val (v := .int .i64 0) hf7 rfl rfl rfl rfl rfl rfl (r_move rfl) fun ac8 hf8 => ?_)
  refine seq_one (op_val (v := .pointer (some ⟨b1, 0, none⟩)) hf8 rfl rfl rfl rfl rfl rfl (r_indexAddr (i := 0) ar_22 rfl rfl rfl (by decide) rfl) fun ac9 hf9 => ?_)
  refine seq_one (op_val (v := .int .i64 w0) hf9 rfl rfl rfl rfl rfl rfl (r_load ag_3 rfl (hI5.at 0 rfl) rfl) fun ac10 hf10 => ?_)
  refine seq_one (op_val (v := .bool (decide (w0 < 1024))) hf10 rfl rfl rfl rfl rfl rfl (r_lss rfl rfl) fun ac11 hf11 => ?_)
  refine seq_one (op_val (v := .bool (decide (w0 < 1024))) hf11 rfl rfl rfl rfl rfl rfl (r_move rfl) fun ac12 hf12 => ?_)
  rcases Bool.eq_false_or_eq_true (decide (w0 < 1024) : Bool) with g13_1 | g13_1
  · have hf13 := hf12.know 13 (u := .bool true) rfl (congrArg Value.bool g13_1)
    refine seq_one (op_skip hf13 rfl rfl rfl rfl fun ac13 hf14 => ?_)
    refine seq_one (op_skip hf14 rfl rfl rfl rfl fun ac14 hf15 => ?_)
    refine seq_one (op_skip hf15 rfl rfl rfl rfl fun ac15 hf16 => ?_)
    refine seq_one (op_skip hf16 rfl rfl rfl rfl fun ac16 hf17 => ?_)
    refine seq_one (op_val (v := .bool true) hf17 rfl rfl rfl rfl rfl rfl (r_pickT rfl rfl) fun ac17 hf18 => ?_)
    refine seq_end ?_
    clear ac7 hf7 ac8 hf8 ac9 hf9 ac10 hf10 ac11 hf11 hf12 ac12 hf13 ac13 hf14 ac14 hf15 ac15 hf16 ac16 hf17
    refine then_normal ?_
    refine code_if_true hf18 rfl ?_
    refine code_seq ?_
    refine seq_start (l := [0, 1, 2]) rfl ?_
    refine seq_one (op_val (v := .agg #[.int .i64 0, .int .i64 0, .int .i64 0, .int .i64 0, .int .i64 0, .int .i64 0, .int .i64 0]) hf18 rfl rfl rfl rfl rfl rfl (r_build (v := .agg #[.int .i64 0, .int .i64 0, .int .i64 0, .int .i64 0, .int .i64 0, .int .i64 0, .int .i64 0]) rfl (fun _ => by kernel_rfl)) fun ac18 hf19 => ?_)
    refine seq_one (op_storeW (cells := #[.int .i64 0, .int .i64 0, .int .i64 0, .int .i64 0, .int .i64 0, .int .i64 0, .int .i64 0]) 1 hf19 rfl rfl rfl rfl rfl sz_29 rfl rfl hI5 rfl rfl fun wd3 hI6 => ?_)
    refine seq_one (op_val (v := .bool false) hf19 rfl rfl rfl rfl rfl rfl (r_assign rfl) fun ac19 hf20 => ?_)
    refine seq_end ?_
    clear ac17 hf18 wd2 hI5 ac18 hf19
    refine then_normal ?_
    refine wp_ret ?_
    refine block_ret ?_
    refine then_ret ?_
    refine then_ret ?_
    refine block_ret ?_
    refine then_ret ?_
    refine postC1 rfl hf20 rfl ag_29 sz_29 (hI6.at 1 rfl) rfl rfl ⟨?_, hI6.done (fresh_keys (ks := [b1, b2]) rfl (fk_cons hb1 (fk_cons hb2 fk_nil)))⟩
    rfl
  · have hf21 := hf12.know 13 (u := .bool false) rfl (congrArg Value.bool g13_1)
    refine seq_one (op_val (v := .int .i64 0) hf21 rfl rfl rfl rfl rfl rfl (r_move rfl) fun ac20 hf22 => ?_)
    refine seq_one (op_val (v := .pointer (some ⟨b1, 0, none⟩)) hf22 rfl rfl rfl rfl rfl rfl (r_indexAddr (i := 0) ar_22 rfl rfl rfl (by decide) rfl) fun ac21 hf23 => ?_)
    refine seq_one (op_val (v := .int .i64 w0) hf23 rfl rfl rfl rfl rfl rfl (r_load ag_3 rfl (hI5.at 0 rfl) rfl) fun ac22 hf24 => ?_)
    refine seq_one (op_val (v := .bool (decide (w0 > 1048576))) hf24 rfl rfl rfl rfl rfl rfl (r_gtr rfl rfl) fun ac23 hf25 => ?_)
    refine seq_one (op_val (v := .bool (decide (w0 > 1048576))) hf25 rfl rfl rfl rfl rfl rfl (r_pickF rfl rfl) fun ac24 hf26 => ?_)
    refine seq_end ?_
    clear ac7 hf7 ac8 hf8 ac9 hf9 ac10 hf10 ac11 hf11 hf12 ac12 hf21 ac20 hf22 ac21 hf23 ac22 hf24 ac23 hf25
    refine then_normal ?_
    refine code_if hf26 rfl (fun c18_2 => ?_) (fun c18_2 => ?_)
    · have hf27 := hf26.know 18 (u := .bool true) rfl (congrArg Value.bool c18_2)
      refine code_seq ?_
      refine seq_start (l := [0, 1, 2]) rfl ?_
      refine seq_one (op_val (v := .agg #[.int .i64 0, .int .i64 0, .int .i64 0, .int .i64 0, .int .i64 0, .int .i64 0, .int .i64 0]) hf27 rfl rfl rfl rfl rfl rfl (r_build (v := .agg #[.int .i64 0, .int .i64 0, .int .i64 0, .int .i64 0, .int .i64 0, .int .i64 0, .int .i64 0]) rfl (fun _ => by kernel_rfl)) fun ac25 hf28 => ?_)
      refine seq_one (op_storeW (cells := #[.int .i64 0, .int .i64 0, .int .i64 0, .int .i64 0, .int .i64 0, .int .i64 0, .int .i64 0]) 1 hf28 rfl rfl rfl rfl rfl sz_29 rfl rfl hI5 rfl rfl fun wd4 hI7 => ?_)
      refine seq_one (op_val (v := .bool false) hf28 rfl rfl rfl rfl rfl rfl (r_assign rfl) fun ac26 hf29 => ?_)
      refine seq_end ?_
      clear hf26 ac24 hf27 wd2 hI5 ac25 hf28
      refine then_normal ?_
      refine wp_ret ?_
      refine block_ret ?_
      refine then_ret ?_
      refine then_ret ?_
      refine block_ret ?_
      refine then_ret ?_
      refine postC1 rfl hf29 rfl ag_29 sz_29 (hI7.at 1 rfl) rfl rfl ⟨?_, hI7.done (fresh_keys (ks := [b1, b2]) rfl (fk_cons hb1 (fk_cons hb2 fk_nil)))⟩
      rfl
    · have hf30 := hf26.know 18 (u := .bool false) rfl (congrArg Value.bool c18_2)
      refine wp_skip ?_
      refine block_normal ?_
      refine then_normal ?_
      refine seq_start (l := [0, 1, 2]) rfl ?_
      refine seq_one (op_val (v := .int .i64 0) hf30 rfl rfl rfl rfl rfl rfl (r_move rfl) fun ac27 hf31 => ?_)
      refine seq_one (op_val (v := .int .i64 1) hf31 rfl rfl rfl rfl rfl rfl (r_add (c := 1) rfl rfl (by rfl)) fun ac28 hf32 => ?_)
      refine seq_one (op_val (v := .int .i64 1) hf32 rfl rfl rfl rfl rfl rfl (r_assign rfl) fun ac29 hf33 => ?_)
      refine seq_end ?_
      clear hf26 ac24 hf30 ac27 hf31 ac28 hf32
      refine then_normal ?_
      refine rounds_go ?_
      refine code_seq ?_
      refine code_seq ?_
      refine seq_start (l := [0, 1]) rfl ?_
      refine seq_one (op_val (v := .int .i64 1) hf33 rfl rfl rfl rfl rfl rfl (r_move rfl) fun ac30 hf34 => ?_)
      refine seq_one (op_val (v := .bool true) hf34 rfl rfl rfl rfl rfl rfl (r_lssC rfl rfl (by decide)) fun ac31 hf35 => ?_)
      refine seq_end ?_
      clear ac29 hf33 ac30 hf34
      refine then_normal ?_
      refine code_if_true hf35 rfl ?_
      refine wp_skip ?_
      refine then_normal ?_
      refine code_seq ?_
      refine wp_block ?_
      refine code_seq ?_
      refine seq_start (l := [0, 1, 2, 3, 4, 5, 6, 7, 8, 9]) rfl ?_
      refine seq_one (op_val (v := .int .i64 1) hf35 rfl rfl rfl rfl rfl rfl (r_move rfl) fun ac32 hf36 => ?_)
      refine seq_one (op_val (v := .pointer (some ⟨b1, 1, none⟩)) hf36 rfl rfl rfl rfl rfl rfl (r_indexAddr (i := 1) ar_22 rfl rfl rfl (by decide) rfl) fun ac33 hf37 => ?_)
      refine seq_one (op_val (v := .int .i64 w1) hf37 rfl rfl rfl rfl rfl rfl (r_load ag_3 rfl (hI5.at 0 rfl) rfl) fun ac34 hf38 => ?_)
      refine seq_one (op_val (v := .bool (decide (w1 < 1024))) hf38 rfl rfl rfl rfl rfl rfl (r_lss rfl rfl) fun ac35 hf39 => ?_)
      refine seq_one (op_val (v := .bool (decide (w1 < 1024))) hf39 rfl rfl rfl rfl rfl rfl (r_move rfl) fun ac36 hf40 => ?_)
      rcases Bool.eq_false_or_eq_true (decide (w1 < 1024) : Bool) with g13_3 | g13_3
      · have hf41 := hf40.know 13 (u := .bool true) rfl (congrArg Value.bool g13_3)
        refine seq_one (op_skip hf41 rfl rfl rfl rfl fun ac37 hf42 => ?_)
        refine seq_one (op_skip hf42 rfl rfl rfl rfl fun ac38 hf43 => ?_)
        refine seq_one (op_skip hf43 rfl rfl rfl rfl fun ac39 hf44 => ?_)
        refine seq_one (op_skip hf44 rfl rfl rfl rfl fun ac40 hf45 => ?_)
        refine seq_one (op_val (v := .bool true) hf45 rfl rfl rfl rfl rfl rfl (r_pickT rfl rfl) fun ac41 hf46 => ?_)
        refine seq_end ?_
        clear ac31 hf35 ac32 hf36 ac33 hf37 ac34 hf38 ac35 hf39 hf40 ac36 hf41 ac37 hf42 ac38 hf43 ac39 hf44 ac40 hf45
        refine then_normal ?_
        refine code_if_true hf46 rfl ?_
        refine code_seq ?_
        refine seq_start (l := [0, 1, 2]) rfl ?_
        refine seq_one (op_val (v := .agg #[.int .i64 0, .int .i64 0, .int .i64 0, .int .i64 0, .int .i64 0, .int .i64 0, .int .i64 0]) hf46 rfl rfl rfl rfl rfl rfl (r_build (v := .agg #[.int .i64 0, .int .i64 0, .int .i64 0, .int .i64 0, .int .i64 0, .int .i64 0, .int .i64 0]) rfl (fun _ => by kernel_rfl)) fun ac42 hf47 => ?_)
        refine seq_one (op_storeW (cells := #[.int .i64 0, .int .i64 0, .int .i64 0, .int .i64 0, .int .i64 0, .int .i64 0, .int .i64 0]) 1 hf47 rfl rfl rfl rfl rfl sz_29 rfl rfl hI5 rfl rfl fun wd5 hI8 => ?_)
        refine seq_one (op_val (v := .bool false) hf47 rfl rfl rfl rfl rfl rfl (r_assign rfl) fun ac43 hf48 => ?_)
        refine seq_end ?_
        clear ac41 hf46 wd2 hI5 ac42 hf47
        refine then_normal ?_
        refine wp_ret ?_
        refine block_ret ?_
        refine then_ret ?_
        refine then_ret ?_
        refine block_ret ?_
        refine then_ret ?_
        refine postC1 rfl hf48 rfl ag_29 sz_29 (hI8.at 1 rfl) rfl rfl ⟨?_, hI8.done (fresh_keys (ks := [b1, b2]) rfl (fk_cons hb1 (fk_cons hb2 fk_nil)))⟩
        rfl
      · have hf49 := hf40.know 13 (u := .bool false) rfl (congrArg Value.bool g13_3)
        refine seq_one (op_val (v := .int .i64 1) hf49 rfl rfl rfl rfl rfl rfl (r_move rfl) fun ac44 hf50 => ?_)
        refine seq_one (op_val (v := .pointer (some ⟨b1, 1, none⟩)) hf50 rfl rfl rfl rfl rfl rfl (r_indexAddr (i := 1) ar_22 rfl rfl rfl (by decide) rfl) fun ac45 hf51 => ?_)
        refine seq_one (op_val (v := .int .i64 w1) hf51 rfl rfl rfl rfl rfl rfl (r_load ag_3 rfl (hI5.at 0 rfl) rfl) fun ac46 hf52 => ?_)
        refine seq_one (op_val (v := .bool (decide (w1 > 1048576))) hf52 rfl rfl rfl rfl rfl rfl (r_gtr rfl rfl) fun ac47 hf53 => ?_)
        refine seq_one (op_val (v := .bool (decide (w1 > 1048576))) hf53 rfl rfl rfl rfl rfl rfl (r_pickF rfl rfl) fun ac48 hf54 => ?_)
        refine seq_end ?_
        clear ac31 hf35 ac32 hf36 ac33 hf37 ac34 hf38 ac35 hf39 hf40 ac36 hf49 ac44 hf50 ac45 hf51 ac46 hf52 ac47 hf53
        refine then_normal ?_
        refine code_if hf54 rfl (fun c18_4 => ?_) (fun c18_4 => ?_)
        · have hf55 := hf54.know 18 (u := .bool true) rfl (congrArg Value.bool c18_4)
          refine code_seq ?_
          refine seq_start (l := [0, 1, 2]) rfl ?_
          refine seq_one (op_val (v := .agg #[.int .i64 0, .int .i64 0, .int .i64 0, .int .i64 0, .int .i64 0, .int .i64 0, .int .i64 0]) hf55 rfl rfl rfl rfl rfl rfl (r_build (v := .agg #[.int .i64 0, .int .i64 0, .int .i64 0, .int .i64 0, .int .i64 0, .int .i64 0, .int .i64 0]) rfl (fun _ => by kernel_rfl)) fun ac49 hf56 => ?_)
          refine seq_one (op_storeW (cells := #[.int .i64 0, .int .i64 0, .int .i64 0, .int .i64 0, .int .i64 0, .int .i64 0, .int .i64 0]) 1 hf56 rfl rfl rfl rfl rfl sz_29 rfl rfl hI5 rfl rfl fun wd6 hI9 => ?_)
          refine seq_one (op_val (v := .bool false) hf56 rfl rfl rfl rfl rfl rfl (r_assign rfl) fun ac50 hf57 => ?_)
          refine seq_end ?_
          clear hf54 ac48 hf55 wd2 hI5 ac49 hf56
          refine then_normal ?_
          refine wp_ret ?_
          refine block_ret ?_
          refine then_ret ?_
          refine then_ret ?_
          refine block_ret ?_
          refine then_ret ?_
          refine postC1 rfl hf57 rfl ag_29 sz_29 (hI9.at 1 rfl) rfl rfl ⟨?_, hI9.done (fresh_keys (ks := [b1, b2]) rfl (fk_cons hb1 (fk_cons hb2 fk_nil)))⟩
          rfl
        · have hf58 := hf54.know 18 (u := .bool false) rfl (congrArg Value.bool c18_4)
          refine wp_skip ?_
          refine block_normal ?_
          refine then_normal ?_
          refine seq_start (l := [0, 1, 2]) rfl ?_
          refine seq_one (op_val (v := .int .i64 1) hf58 rfl rfl rfl rfl rfl rfl (r_move rfl) fun ac51 hf59 => ?_)
          refine seq_one (op_val (v := .int .i64 2) hf59 rfl rfl rfl rfl rfl rfl (r_add (c := 2) rfl rfl (by rfl)) fun ac52 hf60 => ?_)
          refine seq_one (op_val (v := .int .i64 2) hf60 rfl rfl rfl rfl rfl rfl (r_assign rfl) fun ac53 hf61 => ?_)
          refine seq_end ?_
          clear hf54 ac48 hf58 ac51 hf59 ac52 hf60
          refine then_normal ?_
          refine rounds_go ?_
          refine code_seq ?_
          refine code_seq ?_
          refine seq_start (l := [0, 1]) rfl ?_
          refine seq_one (op_val (v := .int .i64 2) hf61 rfl rfl rfl rfl rfl rfl (r_move rfl) fun ac54 hf62 => ?_)
          refine seq_one (op_val (v := .bool true) hf62 rfl rfl rfl rfl rfl rfl (r_lssC rfl rfl (by decide)) fun ac55 hf63 => ?_)
          refine seq_end ?_
          clear ac53 hf61 ac54 hf62
          refine then_normal ?_
          refine code_if_true hf63 rfl ?_
          refine wp_skip ?_
          refine then_normal ?_
          refine code_seq ?_
          refine wp_block ?_
          refine code_seq ?_
          refine seq_start (l := [0, 1, 2, 3, 4, 5, 6, 7, 8, 9]) rfl ?_
          refine seq_one (op_val (v := .int .i64 2) hf63 rfl rfl rfl rfl rfl rfl (r_move rfl) fun ac56 hf64 => ?_)
          refine seq_one (op_val (v := .pointer (some ⟨b1, 2, none⟩)) hf64 rfl rfl rfl rfl rfl rfl (r_indexAddr (i := 2) ar_22 rfl rfl rfl (by decide) rfl) fun ac57 hf65 => ?_)
          refine seq_one (op_val (v := .int .i64 w2) hf65 rfl rfl rfl rfl rfl rfl (r_load ag_3 rfl (hI5.at 0 rfl) rfl) fun ac58 hf66 => ?_)
          refine seq_one (op_val (v := .bool (decide (w2 < 1024))) hf66 rfl rfl rfl rfl rfl rfl (r_lss rfl rfl) fun ac59 hf67 => ?_)
          refine seq_one (op_val (v := .bool (decide (w2 < 1024))) hf67 rfl rfl rfl rfl rfl rfl (r_move rfl) fun ac60 hf68 => ?_)
          rcases Bool.eq_false_or_eq_true (decide (w2 < 1024) : Bool) with g13_5 | g13_5
          · have hf69 := hf68.know 13 (u := .bool true) rfl (congrArg Value.bool g13_5)
            refine seq_one (op_skip hf69 rfl rfl rfl rfl fun ac61 hf70 => ?_)
            refine seq_one (op_skip hf70 rfl rfl rfl rfl fun ac62 hf71 => ?_)
            refine seq_one (op_skip hf71 rfl rfl rfl rfl fun ac63 hf72 => ?_)
            refine seq_one (op_skip hf72 rfl rfl rfl rfl fun ac64 hf73 => ?_)
            refine seq_one (op_val (v := .bool true) hf73 rfl rfl rfl rfl rfl rfl (r_pickT rfl rfl) fun ac65 hf74 => ?_)
            refine seq_end ?_
            clear ac55 hf63 ac56 hf64 ac57 hf65 ac58 hf66 ac59 hf67 hf68 ac60 hf69 ac61 hf70 ac62 hf71 ac63 hf72 ac64 hf73
            refine then_normal ?_
            refine code_if_true hf74 rfl ?_
            refine code_seq ?_
            refine seq_start (l := [0, 1, 2]) rfl ?_
            refine seq_one (op_val (v := .agg #[.int .i64 0, .int .i64 0, .int .i64 0, .int .i64 0, .int .i64 0, .int .i64 0, .int .i64 0]) hf74 rfl rfl rfl rfl rfl rfl (r_build (v := .agg #[.int .i64 0, .int .i64 0, .int .i64 0, .int .i64 0, .int .i64 0, .int .i64 0, .int .i64 0]) rfl (fun _ => by kernel_rfl)) fun ac66 hf75 => ?_)
            refine seq_one (op_storeW (cells := #[.int .i64 0, .int .i64 0, .int .i64 0, .int .i64 0, .int .i64 0, .int .i64 0, .int .i64 0]) 1 hf75 rfl rfl rfl rfl rfl sz_29 rfl rfl hI5 rfl rfl fun wd7 hI10 => ?_)
            refine seq_one (op_val (v := .bool false) hf75 rfl rfl rfl rfl rfl rfl (r_assign rfl) fun ac67 hf76 => ?_)
            refine seq_end ?_
            clear ac65 hf74 wd2 hI5 ac66 hf75
            refine then_normal ?_
            refine wp_ret ?_
            refine block_ret ?_
            refine then_ret ?_
            refine then_ret ?_
            refine block_ret ?_
            refine then_ret ?_
            refine postC1 rfl hf76 rfl ag_29 sz_29 (hI10.at 1 rfl) rfl rfl ⟨?_, hI10.done (fresh_keys (ks := [b1, b2]) rfl (fk_cons hb1 (fk_cons hb2 fk_nil)))⟩
            rfl
          · have hf77 := hf68.know 13 (u := .bool false) rfl (congrArg Value.bool g13_5)
            refine seq_one (op_val (v := .int .i64 2) hf77 rfl rfl rfl rfl rfl rfl (r_move rfl) fun ac68 hf78 => ?_)
            refine seq_one (op_val (v := .pointer (some ⟨b1, 2, none⟩)) hf78 rfl rfl rfl rfl rfl rfl (r_indexAddr (i := 2) ar_22 rfl rfl rfl (by decide) rfl) fun ac69 hf79 => ?_)
            refine seq_one (op_val (v := .int .i64 w2) hf79 rfl rfl rfl rfl rfl rfl (r_load ag_3 rfl (hI5.at 0 rfl) rfl) fun ac70 hf80 => ?_)
            refine seq_one (op_val (v := .bool (decide (w2 > 1048576))) hf80 rfl rfl rfl rfl rfl rfl (r_gtr rfl rfl) fun ac71 hf81 => ?_)
            refine seq_one (op_val (v := .bool (decide (w2 > 1048576))) hf81 rfl rfl rfl rfl rfl rfl (r_pickF rfl rfl) fun ac72 hf82 => ?_)
            refine seq_end ?_
            clear ac55 hf63 ac56 hf64 ac57 hf65 ac58 hf66 ac59 hf67 hf68 ac60 hf77 ac68 hf78 ac69 hf79 ac70 hf80 ac71 hf81
            refine then_normal ?_
            refine code_if hf82 rfl (fun c18_6 => ?_) (fun c18_6 => ?_)
            · have hf83 := hf82.know 18 (u := .bool true) rfl (congrArg Value.bool c18_6)
              refine code_seq ?_
              refine seq_start (l := [0, 1, 2]) rfl ?_
              refine seq_one (op_val (v := .agg #[.int .i64 0, .int .i64 0, .int .i64 0, .int .i64 0, .int .i64 0, .int .i64 0, .int .i64 0]) hf83 rfl rfl rfl rfl rfl rfl (r_build (v := .agg #[.int .i64 0, .int .i64 0, .int .i64 0, .int .i64 0, .int .i64 0, .int .i64 0, .int .i64 0]) rfl (fun _ => by kernel_rfl)) fun ac73 hf84 => ?_)
              refine seq_one (op_storeW (cells := #[.int .i64 0, .int .i64 0, .int .i64 0, .int .i64 0, .int .i64 0, .int .i64 0, .int .i64 0]) 1 hf84 rfl rfl rfl rfl rfl sz_29 rfl rfl hI5 rfl rfl fun wd8 hI11 => ?_)
              refine seq_one (op_val (v := .bool false) hf84 rfl rfl rfl rfl rfl rfl (r_assign rfl) fun ac74 hf85 => ?_)
              refine seq_end ?_
              clear hf82 ac72 hf83 wd2 hI5 ac73 hf84
              refine then_normal ?_
              refine wp_ret ?_
              refine block_ret ?_
              refine then_ret ?_
              refine then_ret ?_
              refine block_ret ?_
              refine then_ret ?_
              refine postC1 rfl hf85 rfl ag_29 sz_29 (hI11.at 1 rfl) rfl rfl ⟨?_, hI11.done (fresh_keys (ks := [b1, b2]) rfl (fk_cons hb1 (fk_cons hb2 fk_nil)))⟩
              rfl
            · have hf86 := hf82.know 18 (u := .bool false) rfl (congrArg Value.bool c18_6)
              refine wp_skip ?_
              refine block_normal ?_
              refine then_normal ?_
              refine seq_start (l := [0, 1, 2]) rfl ?_
              refine seq_one (op_val (v := .int .i64 2) hf86 rfl rfl rfl rfl rfl rfl (r_move rfl) fun ac75 hf87 => ?_)
              refine seq_one (op_val (v := .int .i64 3) hf87 rfl rfl rfl rfl rfl rfl (r_add (c := 3) rfl rfl (by rfl)) fun ac76 hf88 => ?_)
              refine seq_one (op_val (v := .int .i64 3) hf88 rfl rfl rfl rfl rfl rfl (r_assign rfl) fun ac77 hf89 => ?_)
              refine seq_end ?_
              clear hf82 ac72 hf86 ac75 hf87 ac76 hf88
              refine then_normal ?_
              refine rounds_go ?_
              refine code_seq ?_
              refine code_seq ?_
              refine seq_start (l := [0, 1]) rfl ?_
              refine seq_one (op_val (v := .int .i64 3) hf89 rfl rfl rfl rfl rfl rfl (r_move rfl) fun ac78 hf90 => ?_)
              refine seq_one (op_val (v := .bool false) hf90 rfl rfl rfl rfl rfl rfl (r_lssC rfl rfl (by decide)) fun ac79 hf91 => ?_)
              refine seq_end ?_
              clear ac77 hf89 ac78 hf90
              refine then_normal ?_
              refine code_if_false hf91 rfl ?_
              refine wp_exit ?_
              refine then_exit ?_
              refine then_exit ?_
              refine block_here ?_
              refine then_normal ?_
              refine code_seq ?_
              refine seq_start (l := [0, 1, 2, 3, 4]) rfl ?_
              refine seq_one (op_val (v := .agg #[.int .i64 w0, .int .i64 w1, .int .i64 w2]) hf91 rfl rfl rfl rfl rfl rfl (r_loadW ag_22 sz_22 rfl (hI5.at 0 rfl) rfl) fun ac80 hf92 => ?_)
              refine seq_one (op_val (v := .agg #[.int .i64 w0, .int .i64 w1, .int .i64 w2]) hf92 rfl rfl rfl rfl rfl rfl (r_loadW ag_22 sz_22 rfl (hI5.at 0 rfl) rfl) fun ac81 hf93 => ?_)
              refine seq_one (op_val (v := .agg #[.int .i64 w0, .int .i64 w1, .int .i64 w2, .int .i64 w0, .int .i64 w1, .int .i64 w2, .int .i64 0]) hf93 rfl rfl rfl rfl rfl rfl (r_build (v := .agg #[.int .i64 w0, .int .i64 w1, .int .i64 w2, .int .i64 w0, .int .i64 w1, .int .i64 w2, .int .i64 0]) rfl (fun _ => by kernel_rfl)) fun ac82 hf94 => ?_)
              refine seq_one (op_storeW (cells := #[.int .i64 w0, .int .i64 w1, .int .i64 w2, .int .i64 w0, .int .i64 w1, .int .i64 w2, .int .i64 0]) 1 hf94 rfl rfl rfl rfl rfl sz_29 rfl rfl hI5 rfl rfl fun wd9 hI12 => ?_)
              have hI13 : Inv w [(b1, #[.int .i64 w0, .int .i64 w1, .int .i64 w2], 22), (b2, #[.int .i64 w0, .int .i64 w1, .int .i64 w2, .int .i64 w0, .int .i64 w1, .int .i64 w2, .int .i64 0], 29)] wd9 := hI12
              refine seq_one (op_val (v := .bool true) hf94 rfl rfl rfl rfl rfl rfl (r_assign rfl) fun ac83 hf95 => ?_)
              refine seq_end ?_
              clear ac79 hf91 ac80 hf92 ac81 hf93 wd2 hI5 hI12 ac82 hf94
              refine then_normal ?_
              refine wp_ret ?_
              refine postC1 rfl hf95 rfl ag_29 sz_29 (hI13.at 1 rfl) rfl rfl ⟨?_, hI13.done (fresh_keys (ks := [b1, b2]) rfl (fk_cons hb1 (fk_cons hb2 fk_nil)))⟩
              exact absurd (show WOK w0 w1 w2 from by simp only [decide_eq_true_eq, decide_eq_false_iff_not] at g13_1 c18_2 g13_3 c18_4 g13_5 c18_6; exact ⟨by omega, by omega, by omega, by omega, by omega, by omega⟩) hv
set_option maxHeartbeats 8000000 in
theorem weighed_pur (x0 x1 x2 w0 w1 w2 : Int) (hd : Wd x0 x1 x2 w0 w1 w2) : Pur Try.prog 19 [.agg #[.int .u32 x0, .int .u32 x1, .int .u32 x2]] (.agg #[.int .i64 w0, .int .i64 w1, .int .i64 w2]) := by
  intro w
  have hI1 := Inv.start w
  refine enter (n := 19) Try.func19 rfl rfl rfl ?_
  intro ac1 hf1
  refine code_seq ?_
  refine seq_start (l := [0, 1]) rfl ?_
  refine seq_one (op_box hf1 rfl rfl rfl rfl hI1 fun ac2 b1 wd1 hb1 hI2 hf2 => ?_)
  have hI3 : Inv w [(b1, #[.int .u32 x0, .int .u32 x1, .int .u32 x2], 47)] wd1 := hI2
  refine seq_one (op_alloc hf2 rfl rfl rfl ze_22 hI3 fun ac3 b2 wd2 hb2 hI4 hf3 => ?_)
  have hI5 : Inv w [(b1, #[.int .u32 x0, .int .u32 x1, .int .u32 x2], 47), (b2, #[.int .i64 0, .int .i64 0, .int .i64 0], 22)] wd2 := hI4
  refine seq_end ?_
  clear ac1 hI1 hf1 hI2 ac2 wd1 hI3 hf2 hI4
  refine then_normal ?_
  refine code_seq ?_
  refine seq_start (l := [0]) rfl ?_
  refine seq_one (op_alloc hf3 rfl rfl rfl ze_22 hI5 fun ac4 b3 wd3 hb3 hI6 hf4 => ?_)
  have hI7 : Inv w [(b1, #[.int .u32 x0, .int .u32 x1, .int .u32 x2], 47), (b2, #[.int .i64 0, .int .i64 0, .int .i64 0], 22), (b3, #[.int .i64 0, .int .i64 0, .int .i64 0], 22)] wd3 := hI6
  refine seq_end ?_
  clear ac3 wd2 hI5 hf3 hI6
  refine then_normal ?_
  refine code_seq ?_
  refine code_seq ?_
  refine seq_start (l := [0, 1]) rfl ?_
  refine seq_one (op_val (v := .agg #[.int .u32 x0, .int .u32 x1, .int .u32 x2]) hf4 rfl rfl rfl rfl rfl rfl (r_loadW ag_47 sz_47 rfl (hI7.at 0 rfl) rfl) fun ac5 hf5 => ?_)
  refine seq_one (op_val (v := .int .i64 0) hf5 rfl rfl rfl rfl rfl rfl (r_move rfl) fun ac6 hf6 => ?_)
  refine seq_end ?_
  clear ac4 hf4 ac5 hf5
  refine then_normal ?_
  refine wp_block ?_
  refine wp_loop_rounds 4 ?_
  refine rounds_go ?_
  refine code_seq ?_
  refine seq_start (l := [0]) rfl ?_
  refine seq_one (op_val (v := .bool true) hf6 rfl rfl rfl rfl rfl rfl (r_lssC rfl rfl (by decide)) fun ac7 hf7 => ?_)
  refine seq_end ?_
  clear ac6 hf6
  refine then_normal ?_
  refine code_seq ?_
  refine code_if_true hf7 rfl ?_
  refine wp_skip ?_
  refine then_normal ?_
  refine code_seq ?_
  refine wp_block ?_
  refine code_seq ?_
  refine seq_start (l := [0, 1, 2, 3]) rfl ?_
  refine seq_one (op_val (v := .int .i64 0) hf7 rfl rfl rfl rfl rfl rfl (r_move rfl) fun ac8 hf8 => ?_)
  refine seq_one (op_val (v := .int .u32 x0) hf8 rfl rfl rfl rfl rfl rfl (r_index (i := 0) ar_47 ag_46 rfl rfl rfl (by decide) rfl) fun ac9 hf9 => ?_)
  refine seq_one (op_val (v := .int .i64 0) hf9 rfl rfl rfl rfl rfl rfl (r_assign rfl) fun ac10 hf10 => ?_)
  refine seq_one (op_val (v := .int .u32 x0) hf10 rfl rfl rfl rfl rfl rfl (r_assign rfl) fun ac11 hf11 => ?_)
  refine seq_end ?_
  clear ac7 hf7 ac8 hf8 ac9 hf9 ac10 hf10
  refine then_normal ?_
  refine seq_start (l := [0, 1, 2, 3, 4, 5, 6]) rfl ?_
  refine seq_one (op_val (v := .int .i64 0) hf11 rfl rfl rfl rfl rfl rfl (r_move rfl) fun ac12 hf12 => ?_)
  refine seq_one (op_val (v := .int .u32 x0) hf12 rfl rfl rfl rfl rfl rfl (r_move rfl) fun ac13 hf13 => ?_)
  refine seq_one (op_val (v := .int .u32 (x0.tmod 1047553)) hf13 rfl rfl rfl rfl rfl rfl (r_rem (c := (x0.tmod 1047553)) rfl rfl (by omega) rfl) fun ac14 hf14 => ?_)
  refine seq_one (op_val (v := .int .i64 (x0.tmod 1047553)) hf14 rfl rfl rfl rfl rfl rfl (r_conv (c := (x0.tmod 1047553)) ui_46 ui_3 rfl (by have h1 := hd.e0; have h2 := hd.v.l0; have h3 := hd.v.r0; exact wrap_i64 (by omega) (by omega))) fun ac15 hf15 => ?_)
  refine seq_one (op_val (v := .int .i64 w0) hf15 rfl rfl rfl rfl rfl rfl (r_add (c := w0) rfl rfl (by have h1 := hd.e0; have h2 := hd.v.l0; have h3 := hd.v.r0; rw [← h1]; exact wrap_i64 (by omega) (by omega))) fun ac16 hf16 => ?_)
  refine seq_one (op_val (v := .pointer (some ⟨b3, 0, none⟩)) hf16 rfl rfl rfl rfl rfl rfl (r_indexAddr (i := 0) ar_22 rfl rfl rfl (by decide) rfl) fun ac17 hf17 => ?_)
  refine seq_one (op_store (cs' := #[.int .i64 w0, .int .i64 0, .int .i64 0]) 2 hf17 rfl rfl rfl rfl rfl sz_3 hI7 rfl (ltb rfl) (by kernel_rfl) fun wd4 hI8 => ?_)
  have hI9 : Inv w [(b1, #[.int .u32 x0, .int .u32 x1, .int .u32 x2], 47), (b2, #[.int .i64 0, .int .i64 0, .int .i64 0], 22), (b3, #[.int .i64 w0, .int .i64 0, .int .i64 0], 22)] wd4 := hI8
  refine seq_end ?_
  clear ac11 hf11 ac12 hf12 ac13 hf13 ac14 hf14 ac15 hf15 ac16 hf16 wd3 hI7 hI8
  refine block_normal ?_
  refine then_normal ?_
  refine seq_start (l := [0, 1]) rfl ?_
  refine seq_one (op_val (v := .int .i64 1) hf17 rfl rfl rfl rfl rfl rfl (r_add (c := 1) rfl rfl (by rfl)) fun ac18 hf18 => ?_)
  refine seq_one (op_val (v := .int .i64 1) hf18 rfl rfl rfl rfl rfl rfl (r_move rfl) fun ac19 hf19 => ?_)
  refine seq_end ?_
  clear ac17 hf17 ac18 hf18
  refine then_normal ?_
  refine rounds_go ?_
  refine code_seq ?_
  refine seq_start (l := [0]) rfl ?_
  refine seq_one (op_val (v := .bool true) hf19 rfl rfl rfl rfl rfl rfl (r_lssC rfl rfl (by decide)) fun ac20 hf20 => ?_)
  refine seq_end ?_
  clear ac19 hf19
  refine then_normal ?_
  refine code_seq ?_
  refine code_if_true hf20 rfl ?_
  refine wp_skip ?_
  refine then_normal ?_
  refine code_seq ?_
  refine wp_block ?_
  refine code_seq ?_
  refine seq_start (l := [0, 1, 2, 3]) rfl ?_
  refine seq_one (op_val (v := .int .i64 1) hf20 rfl rfl rfl rfl rfl rfl (r_move rfl) fun ac21 hf21 => ?_)
  refine seq_one (op_val (v := .int .u32 x1) hf21 rfl rfl rfl rfl rfl rfl (r_index (i := 1) ar_47 ag_46 rfl rfl rfl (by decide) rfl) fun ac22 hf22 => ?_)
  refine seq_one (op_val (v := .int .i64 1) hf22 rfl rfl rfl rfl rfl rfl (r_assign rfl) fun ac23 hf23 => ?_)
  refine seq_one (op_val (v := .int .u32 x1) hf23 rfl rfl rfl rfl rfl rfl (r_assign rfl) fun ac24 hf24 => ?_)
  refine seq_end ?_
  clear ac20 hf20 ac21 hf21 ac22 hf22 ac23 hf23
  refine then_normal ?_
  refine seq_start (l := [0, 1, 2, 3, 4, 5, 6]) rfl ?_
  refine seq_one (op_val (v := .int .i64 1) hf24 rfl rfl rfl rfl rfl rfl (r_move rfl) fun ac25 hf25 => ?_)
  refine seq_one (op_val (v := .int .u32 x1) hf25 rfl rfl rfl rfl rfl rfl (r_move rfl) fun ac26 hf26 => ?_)
  refine seq_one (op_val (v := .int .u32 (x1.tmod 1047553)) hf26 rfl rfl rfl rfl rfl rfl (r_rem (c := (x1.tmod 1047553)) rfl rfl (by omega) rfl) fun ac27 hf27 => ?_)
  refine seq_one (op_val (v := .int .i64 (x1.tmod 1047553)) hf27 rfl rfl rfl rfl rfl rfl (r_conv (c := (x1.tmod 1047553)) ui_46 ui_3 rfl (by have h1 := hd.e1; have h2 := hd.v.l1; have h3 := hd.v.r1; exact wrap_i64 (by omega) (by omega))) fun ac28 hf28 => ?_)
  refine seq_one (op_val (v := .int .i64 w1) hf28 rfl rfl rfl rfl rfl rfl (r_add (c := w1) rfl rfl (by have h1 := hd.e1; have h2 := hd.v.l1; have h3 := hd.v.r1; rw [← h1]; exact wrap_i64 (by omega) (by omega))) fun ac29 hf29 => ?_)
  refine seq_one (op_val (v := .pointer (some ⟨b3, 1, none⟩)) hf29 rfl rfl rfl rfl rfl rfl (r_indexAddr (i := 1) ar_22 rfl rfl rfl (by decide) rfl) fun ac30 hf30 => ?_)
  refine seq_one (op_store (cs' := #[.int .i64 w0, .int .i64 w1, .int .i64 0]) 2 hf30 rfl rfl rfl rfl rfl sz_3 hI9 rfl (ltb rfl) (by kernel_rfl) fun wd5 hI10 => ?_)
  have hI11 : Inv w [(b1, #[.int .u32 x0, .int .u32 x1, .int .u32 x2], 47), (b2, #[.int .i64 0, .int .i64 0, .int .i64 0], 22), (b3, #[.int .i64 w0, .int .i64 w1, .int .i64 0], 22)] wd5 := hI10
  refine seq_end ?_
  clear ac24 hf24 ac25 hf25 ac26 hf26 ac27 hf27 ac28 hf28 ac29 hf29 wd4 hI9 hI10
  refine block_normal ?_
  refine then_normal ?_
  refine seq_start (l := [0, 1]) rfl ?_
  refine seq_one (op_val (v := .int .i64 2) hf30 rfl rfl rfl rfl rfl rfl (r_add (c := 2) rfl rfl (by rfl)) fun ac31 hf31 => ?_)
  refine seq_one (op_val (v := .int .i64 2) hf31 rfl rfl rfl rfl rfl rfl (r_move rfl) fun ac32 hf32 => ?_)
  refine seq_end ?_
  clear ac30 hf30 ac31 hf31
  refine then_normal ?_
  refine rounds_go ?_
  refine code_seq ?_
  refine seq_start (l := [0]) rfl ?_
  refine seq_one (op_val (v := .bool true) hf32 rfl rfl rfl rfl rfl rfl (r_lssC rfl rfl (by decide)) fun ac33 hf33 => ?_)
  refine seq_end ?_
  clear ac32 hf32
  refine then_normal ?_
  refine code_seq ?_
  refine code_if_true hf33 rfl ?_
  refine wp_skip ?_
  refine then_normal ?_
  refine code_seq ?_
  refine wp_block ?_
  refine code_seq ?_
  refine seq_start (l := [0, 1, 2, 3]) rfl ?_
  refine seq_one (op_val (v := .int .i64 2) hf33 rfl rfl rfl rfl rfl rfl (r_move rfl) fun ac34 hf34 => ?_)
  refine seq_one (op_val (v := .int .u32 x2) hf34 rfl rfl rfl rfl rfl rfl (r_index (i := 2) ar_47 ag_46 rfl rfl rfl (by decide) rfl) fun ac35 hf35 => ?_)
  refine seq_one (op_val (v := .int .i64 2) hf35 rfl rfl rfl rfl rfl rfl (r_assign rfl) fun ac36 hf36 => ?_)
  refine seq_one (op_val (v := .int .u32 x2) hf36 rfl rfl rfl rfl rfl rfl (r_assign rfl) fun ac37 hf37 => ?_)
  refine seq_end ?_
  clear ac33 hf33 ac34 hf34 ac35 hf35 ac36 hf36
  refine then_normal ?_
  refine seq_start (l := [0, 1, 2, 3, 4, 5, 6]) rfl ?_
  refine seq_one (op_val (v := .int .i64 2) hf37 rfl rfl rfl rfl rfl rfl (r_move rfl) fun ac38 hf38 => ?_)
  refine seq_one (op_val (v := .int .u32 x2) hf38 rfl rfl rfl rfl rfl rfl (r_move rfl) fun ac39 hf39 => ?_)
  refine seq_one (op_val (v := .int .u32 (x2.tmod 1047553)) hf39 rfl rfl rfl rfl rfl rfl (r_rem (c := (x2.tmod 1047553)) rfl rfl (by omega) rfl) fun ac40 hf40 => ?_)
  refine seq_one (op_val (v := .int .i64 (x2.tmod 1047553)) hf40 rfl rfl rfl rfl rfl rfl (r_conv (c := (x2.tmod 1047553)) ui_46 ui_3 rfl (by have h1 := hd.e2; have h2 := hd.v.l2; have h3 := hd.v.r2; exact wrap_i64 (by omega) (by omega))) fun ac41 hf41 => ?_)
  refine seq_one (op_val (v := .int .i64 w2) hf41 rfl rfl rfl rfl rfl rfl (r_add (c := w2) rfl rfl (by have h1 := hd.e2; have h2 := hd.v.l2; have h3 := hd.v.r2; rw [← h1]; exact wrap_i64 (by omega) (by omega))) fun ac42 hf42 => ?_)
  refine seq_one (op_val (v := .pointer (some ⟨b3, 2, none⟩)) hf42 rfl rfl rfl rfl rfl rfl (r_indexAddr (i := 2) ar_22 rfl rfl rfl (by decide) rfl) fun ac43 hf43 => ?_)
  refine seq_one (op_store (cs' := #[.int .i64 w0, .int .i64 w1, .int .i64 w2]) 2 hf43 rfl rfl rfl rfl rfl sz_3 hI11 rfl (ltb rfl) (by kernel_rfl) fun wd6 hI12 => ?_)
  have hI13 : Inv w [(b1, #[.int .u32 x0, .int .u32 x1, .int .u32 x2], 47), (b2, #[.int .i64 0, .int .i64 0, .int .i64 0], 22), (b3, #[.int .i64 w0, .int .i64 w1, .int .i64 w2], 22)] wd6 := hI12
  refine seq_end ?_
  clear ac37 hf37 ac38 hf38 ac39 hf39 ac40 hf40 ac41 hf41 ac42 hf42 wd5 hI11 hI12
  refine block_normal ?_
  refine then_normal ?_
  refine seq_start (l := [0, 1]) rfl ?_
  refine seq_one (op_val (v := .int .i64 3) hf43 rfl rfl rfl rfl rfl rfl (r_add (c := 3) rfl rfl (by rfl)) fun ac44 hf44 => ?_)
  refine seq_one (op_val (v := .int .i64 3) hf44 rfl rfl rfl rfl rfl rfl (r_move rfl) fun ac45 hf45 => ?_)
  refine seq_end ?_
  clear ac43 hf43 ac44 hf44
  refine then_normal ?_
  refine rounds_go ?_
  refine code_seq ?_
  refine seq_start (l := [0]) rfl ?_
  refine seq_one (op_val (v := .bool false) hf45 rfl rfl rfl rfl rfl rfl (r_lssC rfl rfl (by decide)) fun ac46 hf46 => ?_)
  refine seq_end ?_
  clear ac45 hf45
  refine then_normal ?_
  refine code_seq ?_
  refine code_if_false hf46 rfl ?_
  refine wp_exit ?_
  refine then_exit ?_
  refine then_exit ?_
  refine block_here ?_
  refine then_normal ?_
  refine code_seq ?_
  refine seq_start (l := [0, 1]) rfl ?_
  refine seq_one (op_val (v := .agg #[.int .i64 w0, .int .i64 w1, .int .i64 w2]) hf46 rfl rfl rfl rfl rfl rfl (r_loadW ag_22 sz_22 rfl (hI13.at 2 rfl) rfl) fun ac47 hf47 => ?_)
  refine seq_one (op_storeW (cells := #[.int .i64 w0, .int .i64 w1, .int .i64 w2]) 1 hf47 rfl rfl rfl rfl rfl sz_22 rfl rfl hI13 rfl rfl fun wd7 hI14 => ?_)
  have hI15 : Inv w [(b1, #[.int .u32 x0, .int .u32 x1, .int .u32 x2], 47), (b2, #[.int .i64 w0, .int .i64 w1, .int .i64 w2], 22), (b3, #[.int .i64 w0, .int .i64 w1, .int .i64 w2], 22)] wd7 := hI14
  refine seq_end ?_
  clear ac46 hf46 wd6 hI13 hI14
  refine then_normal ?_
  refine wp_ret ?_
  refine postC rfl hf47 rfl ag_22 sz_22 (hI15.at 1 rfl) rfl ⟨?_, hI15.done (fresh_keys (ks := [b1, b2, b3]) rfl (fk_cons hb1 (fk_cons hb2 (fk_cons hb3 fk_nil))))⟩
  rfl
set_option maxHeartbeats 8000000 in
theorem awake_pur : Pur Try.prog 11 [] (.bool true) := by
  intro w
  have hI1 := Inv.start w
  refine enter (n := 114) Try.func11 rfl rfl rfl ?_
  intro ac1 hf1
  refine code_seq ?_
  refine seq_start (l := [0]) rfl ?_
  refine seq_one (op_val (v := .bool false) hf1 rfl rfl rfl rfl rfl rfl (r_assign rfl) fun ac2 hf2 => ?_)
  refine seq_end ?_
  clear ac1 hf1
  refine then_normal ?_
  refine code_seq ?_
  refine seq_start (l := [0, 1, 2, 3, 4, 5, 6]) rfl ?_
  refine seq_one (op_val (v := .agg #[.int .i64 4000, .int .i64 2000, .int .i64 2000]) hf2 rfl rfl rfl rfl rfl rfl (r_build (v := .agg #[.int .i64 4000, .int .i64 2000, .int .i64 2000]) rfl (fun _ => by kernel_rfl)) fun ac3 hf3 => ?_)
  refine seq_one (op_call (R := fun v w' => ∃ b, w.heap.size ≤ b ∧ v = .tuple #[.pointer (some ⟨b, 0, none⟩), .int .i64 0] ∧ Inv w [(b, #[.int .i64 4000, .int .i64 2000, .int .i64 2000, .int .i64 4000, .int .i64 2000, .int .i64 2000, .int .i64 0], 58)] w') hf3 rfl rfl rfl rfl ca_9 ((new_walk 4000 2000 2000 _).mono fun e w' h => by rcases h with ⟨_, b, h1, h2, h3⟩ | ⟨h, _⟩; exact ⟨_, h2, b, h1, rfl, h3⟩; exact absurd (⟨by decide, by decide, by decide, by decide, by decide, by decide⟩ : WOK 4000 2000 2000) h) fun ac4 v wd1 hR hf4 => ?_)
  obtain ⟨b1, hqb1, rfl, hwb1⟩ := hR
  have hb1 := Nat.le_trans hI1.size hqb1
  have hI2 : Inv w [(b1, #[.int .i64 4000, .int .i64 2000, .int .i64 2000, .int .i64 4000, .int .i64 2000, .int .i64 2000, .int .i64 0], 58)] _ := hI1.callN hwb1 (fun x hx => by simp only [List.mem_singleton] at hx; subst hx; exact hqb1)
  refine seq_one (op_val (v := .tuple #[.pointer (some ⟨b1, 0, none⟩), .int .i64 0]) hf4 rfl rfl rfl rfl rfl rfl (r_move rfl) fun ac5 hf5 => ?_)
  refine seq_one (op_val (v := .pointer (some ⟨b1, 0, none⟩)) hf5 rfl rfl rfl rfl rfl rfl (r_extract rfl rfl) fun ac6 hf6 => ?_)
  refine seq_one (op_val (v := .int .i64 0) hf6 rfl rfl rfl rfl rfl rfl (r_extract rfl rfl) fun ac7 hf7 => ?_)
  refine seq_one (op_val (v := .pointer (some ⟨b1, 0, none⟩)) hf7 rfl rfl rfl rfl rfl rfl (r_assign rfl) fun ac8 hf8 => ?_)
  refine seq_one (op_val (v := .int .i64 0) hf8 rfl rfl rfl rfl rfl rfl (r_assign rfl) fun ac9 hf9 => ?_)
  refine seq_end ?_
  clear ac2 hf2 ac3 hf3 hI1 hwb1 hqb1 ac4 hf4 ac5 hf5 ac6 hf6 ac7 hf7 ac8 hf8
  refine then_normal ?_
  refine code_seq ?_
  refine seq_start (l := [0, 1, 2]) rfl ?_
  refine seq_one (op_val (v := .agg #[.bool true, .bool true, .bool true]) hf9 rfl rfl rfl rfl rfl rfl (r_build (v := .agg #[.bool true, .bool true, .bool true]) rfl (fun _ => by kernel_rfl)) fun ac10 hf10 => ?_)
  refine seq_one (op_alloc hf10 rfl rfl rfl ze_33 hI2 fun ac11 b2 wd2 hb2 hI3 hf11 => ?_)
  have hI4 : Inv w [(b1, #[.int .i64 4000, .int .i64 2000, .int .i64 2000, .int .i64 4000, .int .i64 2000, .int .i64 2000, .int .i64 0], 58), (b2, #[.bool false, .bool false, .bool false], 33)] wd2 := hI3
  refine seq_one (op_storeW (cells := #[.bool true, .bool true, .bool true]) 1 hf11 rfl rfl rfl rfl rfl sz_33 rfl rfl hI4 rfl rfl fun wd3 hI5 => ?_)
  have hI6 : Inv w [(b1, #[.int .i64 4000, .int .i64 2000, .int .i64 2000, .int .i64 4000, .int .i64 2000, .int .i64 2000, .int .i64 0], 58), (b2, #[.bool true, .bool true, .bool true], 33)] wd3 := hI5
  refine seq_end ?_
  clear ac9 hf9 ac10 wd1 hI2 hf10 hI3 wd2 hI4 hI5
  refine then_normal ?_
  refine code_seq ?_
  refine seq_start (l := [0, 1, 2, 3, 4, 5, 6, 7]) rfl ?_
  refine seq_one (op_val (v := .pointer (some ⟨b1, 0, none⟩)) hf11 rfl rfl rfl rfl rfl rfl (r_move rfl) fun ac12 hf12 => ?_)
  refine seq_one (op_val (v := .agg #[.bool true, .bool true, .bool true]) hf12 rfl rfl rfl rfl rfl rfl (r_loadW ag_33 sz_33 rfl (hI6.at 1 rfl) rfl) fun ac13 hf13 => ?_)
  refine seq_one (op_call (R := fun v w' => v = (.tuple #[.int .i64 (pickN true true true 4000 2000 2000 ⟨4000, 2000, 2000, 0⟩), .bool (true || true || true)]) ∧ Inv wd3 [(b1, #[.int .i64 4000, .int .i64 2000, .int .i64 2000, .int .i64 (((pickS true true true 4000 2000 2000 ⟨4000, 2000, 2000, 0⟩ : St)).c0), .int .i64 (((pickS true true true 4000 2000 2000 ⟨4000, 2000, 2000, 0⟩ : St)).c1), .int .i64 (((pickS true true true 4000 2000 2000 ⟨4000, 2000, 2000, 0⟩ : St)).c2), .int .i64 (((pickS true true true 4000 2000 2000 ⟨4000, 2000, 2000, 0⟩ : St)).now)], 58)] w') hf13 rfl rfl rfl rfl ca_12 ((pick_walk 4000 2000 2000 4000 2000 2000 0 true true true (⟨by decide, by decide, by decide, by decide, by decide, by decide⟩ : WOK 4000 2000 2000).ne (⟨by decide, by decide, by decide, by decide, by decide, by decide⟩ : WOK 4000 2000 2000) (init_ok (⟨by decide, by decide, by decide, by decide, by decide, by decide⟩ : WOK 4000 2000 2000)) b1 _ (Has.cons (hI6.at 0 rfl) Has.nil)).mono fun _ _ h => ⟨_, h.1, rfl, h.2⟩) fun ac14 v wd4 hR hf14 => ?_)
  obtain ⟨rfl, hR⟩ := hR
  have he3 : (pickS true true true 4000 2000 2000 ⟨4000, 2000, 2000, 0⟩ : St) = ⟨4000, 2000, 2000, 0⟩ := rfl
  rw [he3] at hR
  dsimp only at hR
  have ho3 : Ok 4000 2000 2000 ⟨4000, 2000, 2000, 0⟩ := by rw [← he3]; exact (pickS_ok (⟨by decide, by decide, by decide, by decide, by decide, by decide⟩ : WOK 4000 2000 2000) (init_ok (⟨by decide, by decide, by decide, by decide, by decide, by decide⟩ : WOK 4000 2000 2000)))
  have hI7 : Inv w [(b1, #[.int .i64 4000, .int .i64 2000, .int .i64 2000, .int .i64 4000, .int .i64 2000, .int .i64 2000, .int .i64 0], 58), (b2, #[.bool true, .bool true, .bool true], 33)] _ := Inv.callS (A := []) (S := [(b1, #[.int .i64 4000, .int .i64 2000, .int .i64 2000, .int .i64 4000, .int .i64 2000, .int .i64 2000, .int .i64 0], 58)]) (S' := [(b1, #[.int .i64 4000, .int .i64 2000, .int .i64 2000, .int .i64 4000, .int .i64 2000, .int .i64 2000, .int .i64 0], 58)]) (L := [(b2, #[.bool true, .bool true, .bool true], 33)]) (N := []) hI6 hR rfl (fun _ h => by cases h)
  refine seq_one (op_val (v := .tuple #[.int .i64 (pickN true true true 4000 2000 2000 ⟨4000, 2000, 2000, 0⟩), .bool (true || true || true)]) hf14 rfl rfl rfl rfl rfl rfl (r_move rfl) fun ac15 hf15 => ?_)
  refine seq_one (op_val (v := .int .i64 (pickN true true true 4000 2000 2000 ⟨4000, 2000, 2000, 0⟩)) hf15 rfl rfl rfl rfl rfl rfl (r_extract rfl rfl) fun ac16 hf16 => ?_)
  refine seq_one (op_val (v := .bool (true || true || true)) hf16 rfl rfl rfl rfl rfl rfl (r_extract rfl rfl) fun ac17 hf17 => ?_)
  refine seq_one (op_val (v := .int .i64 (pickN true true true 4000 2000 2000 ⟨4000, 2000, 2000, 0⟩)) hf17 rfl rfl rfl rfl rfl rfl (r_assign rfl) fun ac18 hf18 => ?_)
  refine seq_one (op_val (v := .bool (true || true || true)) hf18 rfl rfl rfl rfl rfl rfl (r_assign rfl) fun ac19 hf19 => ?_)
  refine seq_end ?_
  clear ac11 hf11 ac12 hf12 ac13 wd3 hf13 hI6 hR ac14 hf14 ac15 hf15 ac16 hf16 ac17 hf17 ac18 hf18
  refine then_normal ?_
  refine code_seq ?_
  refine seq_start (l := [0, 1]) rfl ?_
  refine seq_one (op_val (v := .pointer (some ⟨b1, 0, none⟩)) hf19 rfl rfl rfl rfl rfl rfl (r_move rfl) fun ac20 hf20 => ?_)
  refine seq_one (op_call (R := fun v w' => v = (.int .i64 (spE 3000 ⟨4000, 2000, 2000, 0⟩)) ∧ Inv wd4 [(b1, #[.int .i64 4000, .int .i64 2000, .int .i64 2000, .int .i64 (((spS 3000 ⟨4000, 2000, 2000, 0⟩ : St)).c0), .int .i64 (((spS 3000 ⟨4000, 2000, 2000, 0⟩ : St)).c1), .int .i64 (((spS 3000 ⟨4000, 2000, 2000, 0⟩ : St)).c2), .int .i64 (((spS 3000 ⟨4000, 2000, 2000, 0⟩ : St)).now)], 58)] w') hf20 rfl rfl rfl rfl ca_14 ((spend_walk 4000 2000 2000 4000 2000 2000 0 3000 (⟨by decide, by decide, by decide, by decide, by decide, by decide⟩ : WOK 4000 2000 2000).ne (⟨by decide, by decide, by decide, by decide, by decide, by decide⟩ : WOK 4000 2000 2000) ho3 b1 _ (Has.cons (hI7.at 0 rfl) Has.nil)).mono fun _ _ h => ⟨_, h.1, rfl, h.2⟩) fun ac21 v wd5 hR hf21 => ?_)
  obtain ⟨rfl, hR⟩ := hR
  have he4 : (spS 3000 ⟨4000, 2000, 2000, 0⟩ : St) = ⟨1000, 2000, 2000, 0⟩ := rfl
  rw [he4] at hR
  dsimp only at hR
  have ho4 : Ok 4000 2000 2000 ⟨1000, 2000, 2000, 0⟩ := by rw [← he4]; exact (spS_ok ho3)
  have hI8 : Inv w [(b1, #[.int .i64 4000, .int .i64 2000, .int .i64 2000, .int .i64 1000, .int .i64 2000, .int .i64 2000, .int .i64 0], 58), (b2, #[.bool true, .bool true, .bool true], 33)] _ := Inv.callS (A := []) (S := [(b1, #[.int .i64 4000, .int .i64 2000, .int .i64 2000, .int .i64 4000, .int .i64 2000, .int .i64 2000, .int .i64 0], 58)]) (S' := [(b1, #[.int .i64 4000, .int .i64 2000, .int .i64 2000, .int .i64 1000, .int .i64 2000, .int .i64 2000, .int .i64 0], 58)]) (L := [(b2, #[.bool true, .bool true, .bool true], 33)]) (N := []) hI7 hR rfl (fun _ h => by cases h)
  refine seq_end ?_
  clear ac19 hf19 ac20 wd4 hf20 hI7 hR
  refine then_normal ?_
  refine code_seq ?_
  refine seq_start (l := [0, 1, 2, 3, 4, 5, 6, 7]) rfl ?_
  refine seq_one (op_val (v := .pointer (some ⟨b1, 0, none⟩)) hf21 rfl rfl rfl rfl rfl rfl (r_move rfl) fun ac22 hf22 => ?_)
  refine seq_one (op_val (v := .agg #[.bool true, .bool true, .bool true]) hf22 rfl rfl rfl rfl rfl rfl (r_loadW ag_33 sz_33 rfl (hI8.at 1 rfl) rfl) fun ac23 hf23 => ?_)
  refine seq_one (op_call (R := fun v w' => v = (.tuple #[.int .i64 (pickN true true true 4000 2000 2000 ⟨1000, 2000, 2000, 0⟩), .bool (true || true || true)]) ∧ Inv wd5 [(b1, #[.int .i64 4000, .int .i64 2000, .int .i64 2000, .int .i64 (((pickS true true true 4000 2000 2000 ⟨1000, 2000, 2000, 0⟩ : St)).c0), .int .i64 (((pickS true true true 4000 2000 2000 ⟨1000, 2000, 2000, 0⟩ : St)).c1), .int .i64 (((pickS true true true 4000 2000 2000 ⟨1000, 2000, 2000, 0⟩ : St)).c2), .int .i64 (((pickS true true true 4000 2000 2000 ⟨1000, 2000, 2000, 0⟩ : St)).now)], 58)] w') hf23 rfl rfl rfl rfl ca_12 ((pick_walk 4000 2000 2000 1000 2000 2000 0 true true true (⟨by decide, by decide, by decide, by decide, by decide, by decide⟩ : WOK 4000 2000 2000).ne (⟨by decide, by decide, by decide, by decide, by decide, by decide⟩ : WOK 4000 2000 2000) ho4 b1 _ (Has.cons (hI8.at 0 rfl) Has.nil)).mono fun _ _ h => ⟨_, h.1, rfl, h.2⟩) fun ac24 v wd6 hR hf24 => ?_)
  obtain ⟨rfl, hR⟩ := hR
  have he5 : (pickS true true true 4000 2000 2000 ⟨1000, 2000, 2000, 0⟩ : St) = ⟨1000, 2000, 2000, 0⟩ := rfl
  rw [he5] at hR
  dsimp only at hR
  have ho5 : Ok 4000 2000 2000 ⟨1000, 2000, 2000, 0⟩ := by rw [← he5]; exact (pickS_ok (⟨by decide, by decide, by decide, by decide, by decide, by decide⟩ : WOK 4000 2000 2000) ho4)
  have hI9 : Inv w [(b1, #[.int .i64 4000, .int .i64 2000, .int .i64 2000, .int .i64 1000, .int .i64 2000, .int .i64 2000, .int .i64 0], 58), (b2, #[.bool true, .bool true, .bool true], 33)] _ := Inv.callS (A := []) (S := [(b1, #[.int .i64 4000, .int .i64 2000, .int .i64 2000, .int .i64 1000, .int .i64 2000, .int .i64 2000, .int .i64 0], 58)]) (S' := [(b1, #[.int .i64 4000, .int .i64 2000, .int .i64 2000, .int .i64 1000, .int .i64 2000, .int .i64 2000, .int .i64 0], 58)]) (L := [(b2, #[.bool true, .bool true, .bool true], 33)]) (N := []) hI8 hR rfl (fun _ h => by cases h)
  refine seq_one (op_val (v := .tuple #[.int .i64 (pickN true true true 4000 2000 2000 ⟨1000, 2000, 2000, 0⟩), .bool (true || true || true)]) hf24 rfl rfl rfl rfl rfl rfl (r_move rfl) fun ac25 hf25 => ?_)
  refine seq_one (op_val (v := .int .i64 (pickN true true true 4000 2000 2000 ⟨1000, 2000, 2000, 0⟩)) hf25 rfl rfl rfl rfl rfl rfl (r_extract rfl rfl) fun ac26 hf26 => ?_)
  refine seq_one (op_val (v := .bool (true || true || true)) hf26 rfl rfl rfl rfl rfl rfl (r_extract rfl rfl) fun ac27 hf27 => ?_)
  refine seq_one (op_val (v := .int .i64 (pickN true true true 4000 2000 2000 ⟨1000, 2000, 2000, 0⟩)) hf27 rfl rfl rfl rfl rfl rfl (r_assign rfl) fun ac28 hf28 => ?_)
  refine seq_one (op_val (v := .bool (true || true || true)) hf28 rfl rfl rfl rfl rfl rfl (r_assign rfl) fun ac29 hf29 => ?_)
  refine seq_end ?_
  clear ac21 hf21 ac22 hf22 ac23 wd5 hf23 hI8 hR ac24 hf24 ac25 hf25 ac26 hf26 ac27 hf27 ac28 hf28
  refine then_normal ?_
  refine code_seq ?_
  refine seq_start (l := [0, 1]) rfl ?_
  refine seq_one (op_val (v := .pointer (some ⟨b1, 0, none⟩)) hf29 rfl rfl rfl rfl rfl rfl (r_move rfl) fun ac30 hf30 => ?_)
  refine seq_one (op_call (R := fun v w' => v = (.int .i64 (spE 1200 ⟨1000, 2000, 2000, 0⟩)) ∧ Inv wd6 [(b1, #[.int .i64 4000, .int .i64 2000, .int .i64 2000, .int .i64 (((spS 1200 ⟨1000, 2000, 2000, 0⟩ : St)).c0), .int .i64 (((spS 1200 ⟨1000, 2000, 2000, 0⟩ : St)).c1), .int .i64 (((spS 1200 ⟨1000, 2000, 2000, 0⟩ : St)).c2), .int .i64 (((spS 1200 ⟨1000, 2000, 2000, 0⟩ : St)).now)], 58)] w') hf30 rfl rfl rfl rfl ca_14 ((spend_walk 4000 2000 2000 1000 2000 2000 0 1200 (⟨by decide, by decide, by decide, by decide, by decide, by decide⟩ : WOK 4000 2000 2000).ne (⟨by decide, by decide, by decide, by decide, by decide, by decide⟩ : WOK 4000 2000 2000) ho5 b1 _ (Has.cons (hI9.at 0 rfl) Has.nil)).mono fun _ _ h => ⟨_, h.1, rfl, h.2⟩) fun ac31 v wd7 hR hf31 => ?_)
  obtain ⟨rfl, hR⟩ := hR
  have he6 : (spS 1200 ⟨1000, 2000, 2000, 0⟩ : St) = ⟨(-200), 2000, 2000, 0⟩ := rfl
  rw [he6] at hR
  dsimp only at hR
  have ho6 : Ok 4000 2000 2000 ⟨(-200), 2000, 2000, 0⟩ := by rw [← he6]; exact (spS_ok ho5)
  have hI10 : Inv w [(b1, #[.int .i64 4000, .int .i64 2000, .int .i64 2000, .int .i64 (-200), .int .i64 2000, .int .i64 2000, .int .i64 0], 58), (b2, #[.bool true, .bool true, .bool true], 33)] _ := Inv.callS (A := []) (S := [(b1, #[.int .i64 4000, .int .i64 2000, .int .i64 2000, .int .i64 1000, .int .i64 2000, .int .i64 2000, .int .i64 0], 58)]) (S' := [(b1, #[.int .i64 4000, .int .i64 2000, .int .i64 2000, .int .i64 (-200), .int .i64 2000, .int .i64 2000, .int .i64 0], 58)]) (L := [(b2, #[.bool true, .bool true, .bool true], 33)]) (N := []) hI9 hR rfl (fun _ h => by cases h)
  refine seq_end ?_
  clear ac29 hf29 ac30 wd6 hf30 hI9 hR
  refine then_normal ?_
  refine code_seq ?_
  refine seq_start (l := [0, 1, 2, 3, 4, 5, 6, 7]) rfl ?_
  refine seq_one (op_val (v := .pointer (some ⟨b1, 0, none⟩)) hf31 rfl rfl rfl rfl rfl rfl (r_move rfl) fun ac32 hf32 => ?_)
  refine seq_one (op_val (v := .agg #[.bool true, .bool true, .bool true]) hf32 rfl rfl rfl rfl rfl rfl (r_loadW ag_33 sz_33 rfl (hI10.at 1 rfl) rfl) fun ac33 hf33 => ?_)
  refine seq_one (op_call (R := fun v w' => v = (.tuple #[.int .i64 (pickN true true true 4000 2000 2000 ⟨(-200), 2000, 2000, 0⟩), .bool (true || true || true)]) ∧ Inv wd7 [(b1, #[.int .i64 4000, .int .i64 2000, .int .i64 2000, .int .i64 (((pickS true true true 4000 2000 2000 ⟨(-200), 2000, 2000, 0⟩ : St)).c0), .int .i64 (((pickS true true true 4000 2000 2000 ⟨(-200), 2000, 2000, 0⟩ : St)).c1), .int .i64 (((pickS true true true 4000 2000 2000 ⟨(-200), 2000, 2000, 0⟩ : St)).c2), .int .i64 (((pickS true true true 4000 2000 2000 ⟨(-200), 2000, 2000, 0⟩ : St)).now)], 58)] w') hf33 rfl rfl rfl rfl ca_12 ((pick_walk 4000 2000 2000 (-200) 2000 2000 0 true true true (⟨by decide, by decide, by decide, by decide, by decide, by decide⟩ : WOK 4000 2000 2000).ne (⟨by decide, by decide, by decide, by decide, by decide, by decide⟩ : WOK 4000 2000 2000) ho6 b1 _ (Has.cons (hI10.at 0 rfl) Has.nil)).mono fun _ _ h => ⟨_, h.1, rfl, h.2⟩) fun ac34 v wd8 hR hf34 => ?_)
  obtain ⟨rfl, hR⟩ := hR
  have he7 : (pickS true true true 4000 2000 2000 ⟨(-200), 2000, 2000, 0⟩ : St) = ⟨(-200), 2000, 2000, 1⟩ := rfl
  rw [he7] at hR
  dsimp only at hR
  have ho7 : Ok 4000 2000 2000 ⟨(-200), 2000, 2000, 1⟩ := by rw [← he7]; exact (pickS_ok (⟨by decide, by decide, by decide, by decide, by decide, by decide⟩ : WOK 4000 2000 2000) ho6)
  have hI11 : Inv w [(b1, #[.int .i64 4000, .int .i64 2000, .int .i64 2000, .int .i64 (-200), .int .i64 2000, .int .i64 2000, .int .i64 1], 58), (b2, #[.bool true, .bool true, .bool true], 33)] _ := Inv.callS (A := []) (S := [(b1, #[.int .i64 4000, .int .i64 2000, .int .i64 2000, .int .i64 (-200), .int .i64 2000, .int .i64 2000, .int .i64 0], 58)]) (S' := [(b1, #[.int .i64 4000, .int .i64 2000, .int .i64 2000, .int .i64 (-200), .int .i64 2000, .int .i64 2000, .int .i64 1], 58)]) (L := [(b2, #[.bool true, .bool true, .bool true], 33)]) (N := []) hI10 hR rfl (fun _ h => by cases h)
  refine seq_one (op_val (v := .tuple #[.int .i64 (pickN true true true 4000 2000 2000 ⟨(-200), 2000, 2000, 0⟩), .bool (true || true || true)]) hf34 rfl rfl rfl rfl rfl rfl (r_move rfl) fun ac35 hf35 => ?_)
  refine seq_one (op_val (v := .int .i64 (pickN true true true 4000 2000 2000 ⟨(-200), 2000, 2000, 0⟩)) hf35 rfl rfl rfl rfl rfl rfl (r_extract rfl rfl) fun ac36 hf36 => ?_)
  refine seq_one (op_val (v := .bool (true || true || true)) hf36 rfl rfl rfl rfl rfl rfl (r_extract rfl rfl) fun ac37 hf37 => ?_)
  refine seq_one (op_val (v := .int .i64 (pickN true true true 4000 2000 2000 ⟨(-200), 2000, 2000, 0⟩)) hf37 rfl rfl rfl rfl rfl rfl (r_assign rfl) fun ac38 hf38 => ?_)
  refine seq_one (op_val (v := .bool (true || true || true)) hf38 rfl rfl rfl rfl rfl rfl (r_assign rfl) fun ac39 hf39 => ?_)
  refine seq_end ?_
  clear ac31 hf31 ac32 hf32 ac33 wd7 hf33 hI10 hR ac34 hf34 ac35 hf35 ac36 hf36 ac37 hf37 ac38 hf38
  refine then_normal ?_
  refine code_seq ?_
  refine seq_start (l := [0, 1]) rfl ?_
  refine seq_one (op_val (v := .pointer (some ⟨b1, 0, none⟩)) hf39 rfl rfl rfl rfl rfl rfl (r_move rfl) fun ac40 hf40 => ?_)
  refine seq_one (op_call (R := fun v w' => v = (.int .i64 (spE 2000 ⟨(-200), 2000, 2000, 1⟩)) ∧ Inv wd8 [(b1, #[.int .i64 4000, .int .i64 2000, .int .i64 2000, .int .i64 (((spS 2000 ⟨(-200), 2000, 2000, 1⟩ : St)).c0), .int .i64 (((spS 2000 ⟨(-200), 2000, 2000, 1⟩ : St)).c1), .int .i64 (((spS 2000 ⟨(-200), 2000, 2000, 1⟩ : St)).c2), .int .i64 (((spS 2000 ⟨(-200), 2000, 2000, 1⟩ : St)).now)], 58)] w') hf40 rfl rfl rfl rfl ca_14 ((spend_walk 4000 2000 2000 (-200) 2000 2000 1 2000 (⟨by decide, by decide, by decide, by decide, by decide, by decide⟩ : WOK 4000 2000 2000).ne (⟨by decide, by decide, by decide, by decide, by decide, by decide⟩ : WOK 4000 2000 2000) ho7 b1 _ (Has.cons (hI11.at 0 rfl) Has.nil)).mono fun _ _ h => ⟨_, h.1, rfl, h.2⟩) fun ac41 v wd9 hR hf41 => ?_)
  obtain ⟨rfl, hR⟩ := hR
  have he8 : (spS 2000 ⟨(-200), 2000, 2000, 1⟩ : St) = ⟨(-200), 0, 2000, 1⟩ := rfl
  rw [he8] at hR
  dsimp only at hR
  have ho8 : Ok 4000 2000 2000 ⟨(-200), 0, 2000, 1⟩ := by rw [← he8]; exact (spS_ok ho7)
  have hI12 : Inv w [(b1, #[.int .i64 4000, .int .i64 2000, .int .i64 2000, .int .i64 (-200), .int .i64 0, .int .i64 2000, .int .i64 1], 58), (b2, #[.bool true, .bool true, .bool true], 33)] _ := Inv.callS (A := []) (S := [(b1, #[.int .i64 4000, .int .i64 2000, .int .i64 2000, .int .i64 (-200), .int .i64 2000, .int .i64 2000, .int .i64 1], 58)]) (S' := [(b1, #[.int .i64 4000, .int .i64 2000, .int .i64 2000, .int .i64 (-200), .int .i64 0, .int .i64 2000, .int .i64 1], 58)]) (L := [(b2, #[.bool true, .bool true, .bool true], 33)]) (N := []) hI11 hR rfl (fun _ h => by cases h)
  refine seq_end ?_
  clear ac39 hf39 ac40 wd8 hf40 hI11 hR
  refine then_normal ?_
  refine code_seq ?_
  refine seq_start (l := [0, 1, 2, 3, 4, 5, 6, 7]) rfl ?_
  refine seq_one (op_val (v := .pointer (some ⟨b1, 0, none⟩)) hf41 rfl rfl rfl rfl rfl rfl (r_move rfl) fun ac42 hf42 => ?_)
  refine seq_one (op_val (v := .agg #[.bool true, .bool true, .bool true]) hf42 rfl rfl rfl rfl rfl rfl (r_loadW ag_33 sz_33 rfl (hI12.at 1 rfl) rfl) fun ac43 hf43 => ?_)
  refine seq_one (op_call (R := fun v w' => v = (.tuple #[.int .i64 (pickN true true true 4000 2000 2000 ⟨(-200), 0, 2000, 1⟩), .bool (true || true || true)]) ∧ Inv wd9 [(b1, #[.int .i64 4000, .int .i64 2000, .int .i64 2000, .int .i64 (((pickS true true true 4000 2000 2000 ⟨(-200), 0, 2000, 1⟩ : St)).c0), .int .i64 (((pickS true true true 4000 2000 2000 ⟨(-200), 0, 2000, 1⟩ : St)).c1), .int .i64 (((pickS true true true 4000 2000 2000 ⟨(-200), 0, 2000, 1⟩ : St)).c2), .int .i64 (((pickS true true true 4000 2000 2000 ⟨(-200), 0, 2000, 1⟩ : St)).now)], 58)] w') hf43 rfl rfl rfl rfl ca_12 ((pick_walk 4000 2000 2000 (-200) 0 2000 1 true true true (⟨by decide, by decide, by decide, by decide, by decide, by decide⟩ : WOK 4000 2000 2000).ne (⟨by decide, by decide, by decide, by decide, by decide, by decide⟩ : WOK 4000 2000 2000) ho8 b1 _ (Has.cons (hI12.at 0 rfl) Has.nil)).mono fun _ _ h => ⟨_, h.1, rfl, h.2⟩) fun ac44 v wd10 hR hf44 => ?_)
  obtain ⟨rfl, hR⟩ := hR
  have he9 : (pickS true true true 4000 2000 2000 ⟨(-200), 0, 2000, 1⟩ : St) = ⟨(-200), 0, 2000, 2⟩ := rfl
  rw [he9] at hR
  dsimp only at hR
  have ho9 : Ok 4000 2000 2000 ⟨(-200), 0, 2000, 2⟩ := by rw [← he9]; exact (pickS_ok (⟨by decide, by decide, by decide, by decide, by decide, by decide⟩ : WOK 4000 2000 2000) ho8)
  have hI13 : Inv w [(b1, #[.int .i64 4000, .int .i64 2000, .int .i64 2000, .int .i64 (-200), .int .i64 0, .int .i64 2000, .int .i64 2], 58), (b2, #[.bool true, .bool true, .bool true], 33)] _ := Inv.callS (A := []) (S := [(b1, #[.int .i64 4000, .int .i64 2000, .int .i64 2000, .int .i64 (-200), .int .i64 0, .int .i64 2000, .int .i64 1], 58)]) (S' := [(b1, #[.int .i64 4000, .int .i64 2000, .int .i64 2000, .int .i64 (-200), .int .i64 0, .int .i64 2000, .int .i64 2], 58)]) (L := [(b2, #[.bool true, .bool true, .bool true], 33)]) (N := []) hI12 hR rfl (fun _ h => by cases h)
  refine seq_one (op_val (v := .tuple #[.int .i64 (pickN true true true 4000 2000 2000 ⟨(-200), 0, 2000, 1⟩), .bool (true || true || true)]) hf44 rfl rfl rfl rfl rfl rfl (r_move rfl) fun ac45 hf45 => ?_)
  refine seq_one (op_val (v := .int .i64 (pickN true true true 4000 2000 2000 ⟨(-200), 0, 2000, 1⟩)) hf45 rfl rfl rfl rfl rfl rfl (r_extract rfl rfl) fun ac46 hf46 => ?_)
  refine seq_one (op_val (v := .bool (true || true || true)) hf46 rfl rfl rfl rfl rfl rfl (r_extract rfl rfl) fun ac47 hf47 => ?_)
  refine seq_one (op_val (v := .int .i64 (pickN true true true 4000 2000 2000 ⟨(-200), 0, 2000, 1⟩)) hf47 rfl rfl rfl rfl rfl rfl (r_assign rfl) fun ac48 hf48 => ?_)
  refine seq_one (op_val (v := .bool (true || true || true)) hf48 rfl rfl rfl rfl rfl rfl (r_assign rfl) fun ac49 hf49 => ?_)
  refine seq_end ?_
  clear ac41 hf41 ac42 hf42 ac43 wd9 hf43 hI12 hR ac44 hf44 ac45 hf45 ac46 hf46 ac47 hf47 ac48 hf48
  refine then_normal ?_
  refine code_seq ?_
  refine seq_start (l := [0, 1]) rfl ?_
  refine seq_one (op_val (v := .pointer (some ⟨b1, 0, none⟩)) hf49 rfl rfl rfl rfl rfl rfl (r_move rfl) fun ac50 hf50 => ?_)
  refine seq_one (op_call (R := fun v w' => v = (.int .i64 (spE 2000 ⟨(-200), 0, 2000, 2⟩)) ∧ Inv wd10 [(b1, #[.int .i64 4000, .int .i64 2000, .int .i64 2000, .int .i64 (((spS 2000 ⟨(-200), 0, 2000, 2⟩ : St)).c0), .int .i64 (((spS 2000 ⟨(-200), 0, 2000, 2⟩ : St)).c1), .int .i64 (((spS 2000 ⟨(-200), 0, 2000, 2⟩ : St)).c2), .int .i64 (((spS 2000 ⟨(-200), 0, 2000, 2⟩ : St)).now)], 58)] w') hf50 rfl rfl rfl rfl ca_14 ((spend_walk 4000 2000 2000 (-200) 0 2000 2 2000 (⟨by decide, by decide, by decide, by decide, by decide, by decide⟩ : WOK 4000 2000 2000).ne (⟨by decide, by decide, by decide, by decide, by decide, by decide⟩ : WOK 4000 2000 2000) ho9 b1 _ (Has.cons (hI13.at 0 rfl) Has.nil)).mono fun _ _ h => ⟨_, h.1, rfl, h.2⟩) fun ac51 v wd11 hR hf51 => ?_)
  obtain ⟨rfl, hR⟩ := hR
  have he10 : (spS 2000 ⟨(-200), 0, 2000, 2⟩ : St) = ⟨(-200), 0, 0, 2⟩ := rfl
  rw [he10] at hR
  dsimp only at hR
  have ho10 : Ok 4000 2000 2000 ⟨(-200), 0, 0, 2⟩ := by rw [← he10]; exact (spS_ok ho9)
  have hI14 : Inv w [(b1, #[.int .i64 4000, .int .i64 2000, .int .i64 2000, .int .i64 (-200), .int .i64 0, .int .i64 0, .int .i64 2], 58), (b2, #[.bool true, .bool true, .bool true], 33)] _ := Inv.callS (A := []) (S := [(b1, #[.int .i64 4000, .int .i64 2000, .int .i64 2000, .int .i64 (-200), .int .i64 0, .int .i64 2000, .int .i64 2], 58)]) (S' := [(b1, #[.int .i64 4000, .int .i64 2000, .int .i64 2000, .int .i64 (-200), .int .i64 0, .int .i64 0, .int .i64 2], 58)]) (L := [(b2, #[.bool true, .bool true, .bool true], 33)]) (N := []) hI13 hR rfl (fun _ h => by cases h)
  refine seq_end ?_
  clear ac49 hf49 ac50 wd10 hf50 hI13 hR
  refine then_normal ?_
  refine code_seq ?_
  refine seq_start (l := [0, 1, 2, 3, 4, 5, 6, 7]) rfl ?_
  refine seq_one (op_val (v := .pointer (some ⟨b1, 0, none⟩)) hf51 rfl rfl rfl rfl rfl rfl (r_move rfl) fun ac52 hf52 => ?_)
  refine seq_one (op_val (v := .agg #[.bool true, .bool true, .bool true]) hf52 rfl rfl rfl rfl rfl rfl (r_loadW ag_33 sz_33 rfl (hI14.at 1 rfl) rfl) fun ac53 hf53 => ?_)
  refine seq_one (op_call (R := fun v w' => v = (.tuple #[.int .i64 (pickN true true true 4000 2000 2000 ⟨(-200), 0, 0, 2⟩), .bool (true || true || true)]) ∧ Inv wd11 [(b1, #[.int .i64 4000, .int .i64 2000, .int .i64 2000, .int .i64 (((pickS true true true 4000 2000 2000 ⟨(-200), 0, 0, 2⟩ : St)).c0), .int .i64 (((pickS true true true 4000 2000 2000 ⟨(-200), 0, 0, 2⟩ : St)).c1), .int .i64 (((pickS true true true 4000 2000 2000 ⟨(-200), 0, 0, 2⟩ : St)).c2), .int .i64 (((pickS true true true 4000 2000 2000 ⟨(-200), 0, 0, 2⟩ : St)).now)], 58)] w') hf53 rfl rfl rfl rfl ca_12 ((pick_walk 4000 2000 2000 (-200) 0 0 2 true true true (⟨by decide, by decide, by decide, by decide, by decide, by decide⟩ : WOK 4000 2000 2000).ne (⟨by decide, by decide, by decide, by decide, by decide, by decide⟩ : WOK 4000 2000 2000) ho10 b1 _ (Has.cons (hI14.at 0 rfl) Has.nil)).mono fun _ _ h => ⟨_, h.1, rfl, h.2⟩) fun ac54 v wd12 hR hf54 => ?_)
  obtain ⟨rfl, hR⟩ := hR
  have he11 : (pickS true true true 4000 2000 2000 ⟨(-200), 0, 0, 2⟩ : St) = ⟨3800, 0, 0, 0⟩ := rfl
  rw [he11] at hR
  dsimp only at hR
  have ho11 : Ok 4000 2000 2000 ⟨3800, 0, 0, 0⟩ := by rw [← he11]; exact (pickS_ok (⟨by decide, by decide, by decide, by decide, by decide, by decide⟩ : WOK 4000 2000 2000) ho10)
  have hI15 : Inv w [(b1, #[.int .i64 4000, .int .i64 2000, .int .i64 2000, .int .i64 3800, .int .i64 0, .int .i64 0, .int .i64 0], 58), (b2, #[.bool true, .bool true, .bool true], 33)] _ := Inv.callS (A := []) (S := [(b1, #[.int .i64 4000, .int .i64 2000, .int .i64 2000, .int .i64 (-200), .int .i64 0, .int .i64 0, .int .i64 2], 58)]) (S' := [(b1, #[.int .i64 4000, .int .i64 2000, .int .i64 2000, .int .i64 3800, .int .i64 0, .int .i64 0, .int .i64 0], 58)]) (L := [(b2, #[.bool true, .bool true, .bool true], 33)]) (N := []) hI14 hR rfl (fun _ h => by cases h)
  refine seq_one (op_val (v := .tuple #[.int .i64 (pickN true true true 4000 2000 2000 ⟨(-200), 0, 0, 2⟩), .bool (true || true || true)]) hf54 rfl rfl rfl rfl rfl rfl (r_move rfl) fun ac55 hf55 => ?_)
  refine seq_one (op_val (v := .int .i64 (pickN true true true 4000 2000 2000 ⟨(-200), 0, 0, 2⟩)) hf55 rfl rfl rfl rfl rfl rfl (r_extract rfl rfl) fun ac56 hf56 => ?_)
  refine seq_one (op_val (v := .bool (true || true || true)) hf56 rfl rfl rfl rfl rfl rfl (r_extract rfl rfl) fun ac57 hf57 => ?_)
  refine seq_one (op_val (v := .int .i64 (pickN true true true 4000 2000 2000 ⟨(-200), 0, 0, 2⟩)) hf57 rfl rfl rfl rfl rfl rfl (r_assign rfl) fun ac58 hf58 => ?_)
  refine seq_one (op_val (v := .bool (true || true || true)) hf58 rfl rfl rfl rfl rfl rfl (r_assign rfl) fun ac59 hf59 => ?_)
  refine seq_end ?_
  clear ac51 hf51 ac52 hf52 ac53 wd11 hf53 hI14 hR ac54 hf54 ac55 hf55 ac56 hf56 ac57 hf57 ac58 hf58
  refine then_normal ?_
  refine code_seq ?_
  refine seq_start (l := [0, 1, 2, 3, 4, 5, 6, 7]) rfl ?_
  refine seq_one (op_val (v := .pointer (some ⟨b1, 0, none⟩)) hf59 rfl rfl rfl rfl rfl rfl (r_move rfl) fun ac60 hf60 => ?_)
  refine seq_one (op_val (v := .agg #[.bool false, .bool false, .bool false]) hf60 rfl rfl rfl rfl rfl rfl (r_build (v := .agg #[.bool false, .bool false, .bool false]) rfl (fun _ => by kernel_rfl)) fun ac61 hf61 => ?_)
  refine seq_one (op_call (R := fun v w' => v = (.tuple #[.int .i64 (pickN false false false 4000 2000 2000 ⟨3800, 0, 0, 0⟩), .bool (false || false || false)]) ∧ Inv wd12 [(b1, #[.int .i64 4000, .int .i64 2000, .int .i64 2000, .int .i64 (((pickS false false false 4000 2000 2000 ⟨3800, 0, 0, 0⟩ : St)).c0), .int .i64 (((pickS false false false 4000 2000 2000 ⟨3800, 0, 0, 0⟩ : St)).c1), .int .i64 (((pickS false false false 4000 2000 2000 ⟨3800, 0, 0, 0⟩ : St)).c2), .int .i64 (((pickS false false false 4000 2000 2000 ⟨3800, 0, 0, 0⟩ : St)).now)], 58)] w') hf61 rfl rfl rfl rfl ca_12 ((pick_walk 4000 2000 2000 3800 0 0 0 false false false (⟨by decide, by decide, by decide, by decide, by decide, by decide⟩ : WOK 4000 2000 2000).ne (⟨by decide, by decide, by decide, by decide, by decide, by decide⟩ : WOK 4000 2000 2000) ho11 b1 _ (Has.cons (hI15.at 0 rfl) Has.nil)).mono fun _ _ h => ⟨_, h.1, rfl, h.2⟩) fun ac62 v wd13 hR hf62 => ?_)
  obtain ⟨rfl, hR⟩ := hR
  rw [(pickS_none rfl)] at hR
  dsimp only at hR
  have hI16 : Inv w [(b1, #[.int .i64 4000, .int .i64 2000, .int .i64 2000, .int .i64 3800, .int .i64 0, .int .i64 0, .int .i64 0], 58), (b2, #[.bool true, .bool true, .bool true], 33)] _ := Inv.callS (A := []) (S := [(b1, #[.int .i64 4000, .int .i64 2000, .int .i64 2000, .int .i64 3800, .int .i64 0, .int .i64 0, .int .i64 0], 58)]) (S' := [(b1, #[.int .i64 4000, .int .i64 2000, .int .i64 2000, .int .i64 3800, .int .i64 0, .int .i64 0, .int .i64 0], 58)]) (L := [(b2, #[.bool true, .bool true, .bool true], 33)]) (N := []) hI15 hR rfl (fun _ h => by cases h)
  refine seq_one (op_val (v := .tuple #[.int .i64 (pickN false false false 4000 2000 2000 ⟨3800, 0, 0, 0⟩), .bool (false || false || false)]) hf62 rfl rfl rfl rfl rfl rfl (r_move rfl) fun ac63 hf63 => ?_)
  refine seq_one (op_val (v := .int .i64 (pickN false false false 4000 2000 2000 ⟨3800, 0, 0, 0⟩)) hf63 rfl rfl rfl rfl rfl rfl (r_extract rfl rfl) fun ac64 hf64 => ?_)
  refine seq_one (op_val (v := .bool (false || false || false)) hf64 rfl rfl rfl rfl rfl rfl (r_extract rfl rfl) fun ac65 hf65 => ?_)
  refine seq_one (op_val (v := .int .i64 (pickN false false false 4000 2000 2000 ⟨3800, 0, 0, 0⟩)) hf65 rfl rfl rfl rfl rfl rfl (r_assign rfl) fun ac66 hf66 => ?_)
  refine seq_one (op_val (v := .bool (false || false || false)) hf66 rfl rfl rfl rfl rfl rfl (r_assign rfl) fun ac67 hf67 => ?_)
  refine seq_end ?_
  clear ac59 hf59 ac60 hf60 ac61 wd12 hf61 hI15 hR ac62 hf62 ac63 hf63 ac64 hf64 ac65 hf65 ac66 hf66
  refine then_normal ?_
  refine code_seq ?_
  refine seq_start (l := [0, 1, 2, 3, 4, 5, 6, 7, 8, 9, 10, 11, 12, 13, 14, 15, 16, 17, 18, 19, 20, 21, 22, 23, 24, 25, 26, 27, 28, 29, 30, 31, 32, 33, 34, 35, 36, 37, 38, 39, 40, 41, 42, 43, 44, 45, 46, 47, 48]) rfl ?_
  refine seq_one (op_val (v := .int .i64 0) hf67 rfl rfl rfl rfl rfl rfl (r_move rfl) fun ac68 hf68 => ?_)
  refine seq_one (op_val (v := .bool true) hf68 rfl rfl rfl rfl rfl rfl (r_eqlC rfl rfl (by decide)) fun ac69 hf69 => ?_)
  refine seq_one (op_val (v := .bool true) hf69 rfl rfl rfl rfl rfl rfl (r_move rfl) fun ac70 hf70 => ?_)
  refine seq_one (op_val (v := .int .i64 (pickN true true true 4000 2000 2000 ⟨4000, 2000, 2000, 0⟩)) hf70 rfl rfl rfl rfl rfl rfl (r_move rfl) fun ac71 hf71 => ?_)
  refine seq_one (op_val (v := .bool ((pickN true true true 4000 2000 2000 ⟨4000, 2000, 2000, 0⟩) == 0)) hf71 rfl rfl rfl rfl rfl rfl (r_eql rfl rfl) fun ac72 hf72 => ?_)
  refine seq_one (op_val (v := .bool ((pickN true true true 4000 2000 2000 ⟨4000, 2000, 2000, 0⟩) == 0)) hf72 rfl rfl rfl rfl rfl rfl (r_pickT rfl rfl) fun ac73 hf73 => ?_)
  refine seq_one (op_val (v := .bool ((pickN true true true 4000 2000 2000 ⟨4000, 2000, 2000, 0⟩) == 0)) hf73 rfl rfl rfl rfl rfl rfl (r_move rfl) fun ac74 hf74 => ?_)
  have hf75 := hf74.know 72 (u := .bool true) rfl (congrArg Value.bool (by decide))
  refine seq_one (op_val (v := .bool (true || true || true)) hf75 rfl rfl rfl rfl rfl rfl (r_move rfl) fun ac75 hf76 => ?_)
  refine seq_one (op_val (v := .bool (true || true || true)) hf76 rfl rfl rfl rfl rfl rfl (r_pickT rfl rfl) fun ac76 hf77 => ?_)
  refine seq_one (op_val (v := .bool (true || true || true)) hf77 rfl rfl rfl rfl rfl rfl (r_move rfl) fun ac77 hf78 => ?_)
  have hf79 := hf78.know 75 (u := .bool true) rfl (congrArg Value.bool (by decide))
  refine seq_one (op_val (v := .int .i64 (pickN true true true 4000 2000 2000 ⟨1000, 2000, 2000, 0⟩)) hf79 rfl rfl rfl rfl rfl rfl (r_move rfl) fun ac78 hf80 => ?_)
  refine seq_one (op_val (v := .bool ((pickN true true true 4000 2000 2000 ⟨1000, 2000, 2000, 0⟩) == 0)) hf80 rfl rfl rfl rfl rfl rfl (r_eql rfl rfl) fun ac79 hf81 => ?_)
  refine seq_one (op_val (v := .bool ((pickN true true true 4000 2000 2000 ⟨1000, 2000, 2000, 0⟩) == 0)) hf81 rfl rfl rfl rfl rfl rfl (r_pickT rfl rfl) fun ac80 hf82 => ?_)
  refine seq_one (op_val (v := .bool ((pickN true true true 4000 2000 2000 ⟨1000, 2000, 2000, 0⟩) == 0)) hf82 rfl rfl rfl rfl rfl rfl (r_move rfl) fun ac81 hf83 => ?_)
  have hf84 := hf83.know 79 (u := .bool true) rfl (congrArg Value.bool (by decide))
  refine seq_one (op_val (v := .int .i64 (pickN true true true 4000 2000 2000 ⟨(-200), 2000, 2000, 0⟩)) hf84 rfl rfl rfl rfl rfl rfl (r_move rfl) fun ac82 hf85 => ?_)
  refine seq_one (op_val (v := .bool ((pickN true true true 4000 2000 2000 ⟨(-200), 2000, 2000, 0⟩) == 1)) hf85 rfl rfl rfl rfl rfl rfl (r_eql rfl rfl) fun ac83 hf86 => ?_)
  refine seq_one (op_val (v := .bool ((pickN true true true 4000 2000 2000 ⟨(-200), 2000, 2000, 0⟩) == 1)) hf86 rfl rfl rfl rfl rfl rfl (r_pickT rfl rfl) fun ac84 hf87 => ?_)
  refine seq_one (op_val (v := .bool ((pickN true true true 4000 2000 2000 ⟨(-200), 2000, 2000, 0⟩) == 1)) hf87 rfl rfl rfl rfl rfl rfl (r_move rfl) fun ac85 hf88 => ?_)
  have hf89 := hf88.know 83 (u := .bool true) rfl (congrArg Value.bool (by decide))
  refine seq_one (op_val (v := .int .i64 (pickN true true true 4000 2000 2000 ⟨(-200), 0, 2000, 1⟩)) hf89 rfl rfl rfl rfl rfl rfl (r_move rfl) fun ac86 hf90 => ?_)
  refine seq_one (op_val (v := .bool ((pickN true true true 4000 2000 2000 ⟨(-200), 0, 2000, 1⟩) == 2)) hf90 rfl rfl rfl rfl rfl rfl (r_eql rfl rfl) fun ac87 hf91 => ?_)
  refine seq_one (op_val (v := .bool ((pickN true true true 4000 2000 2000 ⟨(-200), 0, 2000, 1⟩) == 2)) hf91 rfl rfl rfl rfl rfl rfl (r_pickT rfl rfl) fun ac88 hf92 => ?_)
  refine seq_one (op_val (v := .bool ((pickN true true true 4000 2000 2000 ⟨(-200), 0, 2000, 1⟩) == 2)) hf92 rfl rfl rfl rfl rfl rfl (r_move rfl) fun ac89 hf93 => ?_)
  have hf94 := hf93.know 87 (u := .bool true) rfl (congrArg Value.bool (by decide))
  refine seq_one (op_val (v := .int .i64 (pickN true true true 4000 2000 2000 ⟨(-200), 0, 0, 2⟩)) hf94 rfl rfl rfl rfl rfl rfl (r_move rfl) fun ac90 hf95 => ?_)
  refine seq_one (op_val (v := .bool ((pickN true true true 4000 2000 2000 ⟨(-200), 0, 0, 2⟩) == 0)) hf95 rfl rfl rfl rfl rfl rfl (r_eql rfl rfl) fun ac91 hf96 => ?_)
  refine seq_one (op_val (v := .bool ((pickN true true true 4000 2000 2000 ⟨(-200), 0, 0, 2⟩) == 0)) hf96 rfl rfl rfl rfl rfl rfl (r_pickT rfl rfl) fun ac92 hf97 => ?_)
  refine seq_one (op_val (v := .bool ((pickN true true true 4000 2000 2000 ⟨(-200), 0, 0, 2⟩) == 0)) hf97 rfl rfl rfl rfl rfl rfl (r_move rfl) fun ac93 hf98 => ?_)
  have hf99 := hf98.know 91 (u := .bool true) rfl (congrArg Value.bool (by decide))
  refine seq_one (op_val (v := .bool (true || true || true)) hf99 rfl rfl rfl rfl rfl rfl (r_move rfl) fun ac94 hf100 => ?_)
  refine seq_one (op_val (v := .bool (true || true || true)) hf100 rfl rfl rfl rfl rfl rfl (r_pickT rfl rfl) fun ac95 hf101 => ?_)
  refine seq_one (op_val (v := .bool (true || true || true)) hf101 rfl rfl rfl rfl rfl rfl (r_move rfl) fun ac96 hf102 => ?_)
  have hf103 := hf102.know 94 (u := .bool true) rfl (congrArg Value.bool (by decide))
  refine seq_one (op_val (v := .bool (false || false || false)) hf103 rfl rfl rfl rfl rfl rfl (r_move rfl) fun ac97 hf104 => ?_)
  refine seq_one (op_val (v := .bool (!(false || false || false))) hf104 rfl rfl rfl rfl rfl rfl (r_not rfl) fun ac98 hf105 => ?_)
  refine seq_one (op_val (v := .bool (!(false || false || false))) hf105 rfl rfl rfl rfl rfl rfl (r_pickT rfl rfl) fun ac99 hf106 => ?_)
  refine seq_one (op_val (v := .bool (!(false || false || false))) hf106 rfl rfl rfl rfl rfl rfl (r_move rfl) fun ac100 hf107 => ?_)
  have hf108 := hf107.know 98 (u := .bool true) rfl (congrArg Value.bool (by decide))
  refine seq_one (op_val (v := .pointer (some ⟨b1, 0, none⟩)) hf108 rfl rfl rfl rfl rfl rfl (r_move rfl) fun ac101 hf109 => ?_)
  refine seq_one (op_pureW hf109 rfl rfl rfl rfl ca_16 (now_walk 4000 2000 2000 3800 0 0 0 (⟨by decide, by decide, by decide, by decide, by decide, by decide⟩ : WOK 4000 2000 2000).ne b1 _ (Has.cons (hI16.at 0 rfl) Has.nil)) hI16 fun ac102 wd14 hI17 hf110 => ?_)
  refine seq_one (op_val (v := .bool true) hf110 rfl rfl rfl rfl rfl rfl (r_eqlC rfl rfl (by decide)) fun ac103 hf111 => ?_)
  refine seq_one (op_val (v := .bool true) hf111 rfl rfl rfl rfl rfl rfl (r_pickT rfl rfl) fun ac104 hf112 => ?_)
  refine seq_one (op_val (v := .bool true) hf112 rfl rfl rfl rfl rfl rfl (r_move rfl) fun ac105 hf113 => ?_)
  refine seq_one (op_val (v := .pointer (some ⟨b1, 0, none⟩)) hf113 rfl rfl rfl rfl rfl rfl (r_move rfl) fun ac106 hf114 => ?_)
  refine seq_one (op_pureW hf114 rfl rfl rfl rfl ca_17 (credits_walk 4000 2000 2000 3800 0 0 0 (⟨by decide, by decide, by decide, by decide, by decide, by decide⟩ : WOK 4000 2000 2000).ne b1 _ (Has.cons (hI17.at 0 rfl) Has.nil)) hI17 fun ac107 wd15 hI18 hf115 => ?_)
  refine seq_one (op_val (v := .agg #[.int .i64 3800, .int .i64 0, .int .i64 0]) hf115 rfl rfl rfl rfl rfl rfl (r_build (v := .agg #[.int .i64 3800, .int .i64 0, .int .i64 0]) rfl (fun _ => by kernel_rfl)) fun ac108 hf116 => ?_)
  refine seq_one (op_val (v := .bool (eqA (#[.int .i64 3800, .int .i64 0, .int .i64 0]) (#[.int .i64 3800, .int .i64 0, .int .i64 0]))) hf116 rfl rfl rfl rfl rfl rfl (r_eqA sh_22 kt_22 rw_22 rfl zk_22 eg_22 rfl rfl ⟨⟨_, rfl, by decide⟩, ⟨_, rfl, by decide⟩, ⟨_, rfl, by decide⟩, trivial⟩ ⟨⟨_, rfl, by decide⟩, ⟨_, rfl, by decide⟩, ⟨_, rfl, by decide⟩, trivial⟩) fun ac109 hf117 => ?_)
  refine seq_one (op_val (v := .bool (eqA (#[.int .i64 3800, .int .i64 0, .int .i64 0]) (#[.int .i64 3800, .int .i64 0, .int .i64 0]))) hf117 rfl rfl rfl rfl rfl rfl (r_pickT rfl rfl) fun ac110 hf118 => ?_)
  refine seq_one (op_val (v := .bool (eqA (#[.int .i64 3800, .int .i64 0, .int .i64 0]) (#[.int .i64 3800, .int .i64 0, .int .i64 0]))) hf118 rfl rfl rfl rfl rfl rfl (r_move rfl) fun ac111 hf119 => ?_)
  have hf120 := hf119.know 109 (u := .bool true) rfl (congrArg Value.bool (eqA_true rfl))
  refine seq_one (op_val (v := .pointer (some ⟨b1, 0, none⟩)) hf120 rfl rfl rfl rfl rfl rfl (r_move rfl) fun ac112 hf121 => ?_)
  refine seq_one (op_call (R := fun v w' => v = (.int .i64 (spE 0 ⟨3800, 0, 0, 0⟩)) ∧ Inv wd15 [(b1, #[.int .i64 4000, .int .i64 2000, .int .i64 2000, .int .i64 (((spS 0 ⟨3800, 0, 0, 0⟩ : St)).c0), .int .i64 (((spS 0 ⟨3800, 0, 0, 0⟩ : St)).c1), .int .i64 (((spS 0 ⟨3800, 0, 0, 0⟩ : St)).c2), .int .i64 (((spS 0 ⟨3800, 0, 0, 0⟩ : St)).now)], 58)] w') hf121 rfl rfl rfl rfl ca_14 ((spend_walk 4000 2000 2000 3800 0 0 0 0 (⟨by decide, by decide, by decide, by decide, by decide, by decide⟩ : WOK 4000 2000 2000).ne (⟨by decide, by decide, by decide, by decide, by decide, by decide⟩ : WOK 4000 2000 2000) ho11 b1 _ (Has.cons (hI18.at 0 rfl) Has.nil)).mono fun _ _ h => ⟨_, h.1, rfl, h.2⟩) fun ac113 v wd16 hR hf122 => ?_)
  obtain ⟨rfl, hR⟩ := hR
  have he13 : (spS 0 ⟨3800, 0, 0, 0⟩ : St) = ⟨3800, 0, 0, 0⟩ := rfl
  rw [he13] at hR
  dsimp only at hR
  have ho13 : Ok 4000 2000 2000 ⟨3800, 0, 0, 0⟩ := by rw [← he13]; exact (spS_ok ho11)
  have hI19 : Inv w [(b1, #[.int .i64 4000, .int .i64 2000, .int .i64 2000, .int .i64 3800, .int .i64 0, .int .i64 0, .int .i64 0], 58), (b2, #[.bool true, .bool true, .bool true], 33)] _ := Inv.callS (A := []) (S := [(b1, #[.int .i64 4000, .int .i64 2000, .int .i64 2000, .int .i64 3800, .int .i64 0, .int .i64 0, .int .i64 0], 58)]) (S' := [(b1, #[.int .i64 4000, .int .i64 2000, .int .i64 2000, .int .i64 3800, .int .i64 0, .int .i64 0, .int .i64 0], 58)]) (L := [(b2, #[.bool true, .bool true, .bool true], 33)]) (N := []) hI18 hR rfl (fun _ h => by cases h)
  refine seq_one (op_val (v := .bool ((spE 0 ⟨3800, 0, 0, 0⟩) == 2)) hf122 rfl rfl rfl rfl rfl rfl (r_eql rfl rfl) fun ac114 hf123 => ?_)
  refine seq_one (op_val (v := .bool ((spE 0 ⟨3800, 0, 0, 0⟩) == 2)) hf123 rfl rfl rfl rfl rfl rfl (r_pickT rfl rfl) fun ac115 hf124 => ?_)
  refine seq_one (op_val (v := .bool ((spE 0 ⟨3800, 0, 0, 0⟩) == 2)) hf124 rfl rfl rfl rfl rfl rfl (r_assign rfl) fun ac116 hf125 => ?_)
  refine seq_end ?_
  clear ac67 hf67 ac68 hf68 ac69 hf69 ac70 hf70 ac71 hf71 ac72 hf72 ac73 hf73 hf74 ac74 hf75 ac75 hf76 ac76 hf77 hf78 ac77 hf79 ac78 hf80 ac79 hf81 ac80 hf82 hf83 ac81 hf84 ac82 hf85 ac83 hf86 ac84 hf87 hf88 ac85 hf89 ac86 hf90 ac87 hf91 ac88 hf92 hf93 ac89 hf94 ac90 hf95 ac91 hf96 ac92 hf97 hf98 ac93 hf99 ac94 hf100 ac95 hf101 hf102 ac96 hf103 ac97 hf104 ac98 hf105 ac99 hf106 hf107 ac100 hf108 ac101 wd13 hI16 hf109 ac102 hf110 ac103 hf111 ac104 hf112 ac105 hf113 ac106 wd14 hI17 hf114 ac107 hf115 ac108 hf116 ac109 hf117 ac110 hf118 hf119 ac111 hf120 ac112 wd15 hf121 hI18 hR ac113 hf122 ac114 hf123 ac115 hf124
  refine then_normal ?_
  refine wp_ret ?_
  refine post1 rfl hf125 rfl ⟨?_, hI19.done (fresh_keys (ks := [b1, b2]) rfl (fk_cons hb1 (fk_cons hb2 fk_nil)))⟩
  rfl
end Go.Proofs.Ytkfilmdnpocinaa
