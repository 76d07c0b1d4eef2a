/-
  The walk of LimitsWith: it comes to true.
-/
import Derived.Test.YtnajiccihfdggaaLaws
import Derived.Test.YtnajiccihfdggaaPlain
namespace Go.Proofs.Ytnajiccihfdggaa
set_option linter.unusedVariables false
set_option linter.unusedSimpArgs false
set_option maxRecDepth 100000
open Go.RowKit
set_option maxHeartbeats 8000000 in
theorem fits_walk (n0 n1 n2 x y : Int) (b : Nat) (w : World) : Has [(b, #[.int .i64 n0, .int .i64 n1, .int .i64 n2, .int .i64 x, .int .i64 y], 3)] w → Calls Try.prog 18 [.slice (some ⟨b, 0, none⟩) 5 5].toArray w fun e w' => e = .returned (.bool (fits5 n0 n1 n2 x y)) ∧ Inv w [] w' := by
  intro h0
  have hI1 := Inv.startS h0 (List.pairwise_singleton _ _)
  refine enter (n := 18) Try.func18 rfl rfl rfl ?_
  intro ac1 hf1
  refine code_seq ?_
  refine seq_start (l := [0]) rfl ?_
  refine seq_one (op_val (v := .bool false) hf1 rfl rfl rfl rfl rfl rfl (r_assign rfl) fun ac2 hf2 => ?_)
  refine seq_end ?_
  clear ac1 hf1
  refine then_normal ?_
  refine code_seq ?_
  refine code_seq ?_
  refine seq_start (l := [0, 1, 2]) rfl ?_
  refine seq_one (op_val (v := .slice (some ⟨b, 0, none⟩) 5 5) hf2 rfl rfl rfl rfl rfl rfl (r_move rfl) fun ac3 hf3 => ?_)
  refine seq_one (op_val (v := .int .i64 5) hf3 rfl rfl rfl rfl rfl rfl (r_len sl_43 rfl) fun ac4 hf4 => ?_)
  refine seq_one (op_val (v := .int .i64 0) hf4 rfl rfl rfl rfl rfl rfl (r_move rfl) fun ac5 hf5 => ?_)
  refine seq_end ?_
  clear ac2 hf2 ac3 hf3 ac4 hf4
  refine then_normal ?_
  refine wp_block ?_
  refine wp_loop_rounds 6 ?_
  refine rounds_go ?_
  refine code_seq ?_
  refine seq_start (l := [0]) rfl ?_
  refine seq_one (op_val (v := .bool true) hf5 rfl rfl rfl rfl rfl rfl (r_lssC rfl rfl (by decide)) fun ac6 hf6 => ?_)
  refine seq_end ?_
  clear ac5 hf5
  refine then_normal ?_
  refine code_seq ?_
  refine code_if_true hf6 rfl ?_
  refine wp_skip ?_
  refine then_normal ?_
  refine code_seq ?_
  refine wp_block ?_
  refine code_seq ?_
  refine seq_start (l := [0, 1, 2]) rfl ?_
  refine seq_one (op_val (v := .pointer (some ⟨b, 0, none⟩)) hf6 rfl rfl rfl rfl rfl rfl (r_indexAddrS (i := 0) sl_43 rfl rfl rfl (by decide) rfl) fun ac7 hf7 => ?_)
  refine seq_one (op_val (v := .int .i64 n0) hf7 rfl rfl rfl rfl rfl rfl (r_load ag_3 rfl (hI1.at 0 rfl) rfl) fun ac8 hf8 => ?_)
  refine seq_one (op_val (v := .int .i64 n0) hf8 rfl rfl rfl rfl rfl rfl (r_assign rfl) fun ac9 hf9 => ?_)
  refine seq_end ?_
  clear ac6 hf6 ac7 hf7 ac8 hf8
  refine then_normal ?_
  refine code_seq ?_
  refine seq_start (l := [0, 1, 2, 3, 4, 5]) rfl ?_
  refine seq_one (op_val (v := .int .i64 n0) hf9 rfl rfl rfl rfl rfl rfl (r_move rfl) fun ac10 hf10 => ?_)
  refine seq_one (op_val (v := .bool (decide (n0 > 2305843009213693952))) hf10 rfl rfl rfl rfl rfl rfl (r_gtr rfl rfl) fun ac11 hf11 => ?_)
  refine seq_one (op_val (v := .bool (decide (n0 > 2305843009213693952))) hf11 rfl rfl rfl rfl rfl rfl (r_move rfl) fun ac12 hf12 => ?_)
  rcases Bool.eq_false_or_eq_true (decide (n0 > 2305843009213693952) : Bool) with g13_1 | g13_1
  · have hf13 := hf12.know 13 (u := .bool true) rfl (congrArg Value.bool g13_1)
    refine seq_one (op_skip hf13 rfl rfl rfl rfl fun ac13 hf14 => ?_)
    refine seq_one (op_skip hf14 rfl rfl rfl rfl fun ac14 hf15 => ?_)
    refine seq_one (op_val (v := .bool true) hf15 rfl rfl rfl rfl rfl rfl (r_pickT rfl rfl) fun ac15 hf16 => ?_)
    refine seq_end ?_
    clear ac9 hf9 ac10 hf10 ac11 hf11 hf12 ac12 hf13 ac13 hf14 ac14 hf15
    refine then_normal ?_
    refine code_if_true hf16 rfl ?_
    refine code_seq ?_
    refine seq_start (l := [0]) rfl ?_
    refine seq_one (op_val (v := .bool false) hf16 rfl rfl rfl rfl rfl rfl (r_assign rfl) fun ac16 hf17 => ?_)
    refine seq_end ?_
    clear ac15 hf16
    refine then_normal ?_
    refine wp_ret ?_
    refine block_ret ?_
    refine then_ret ?_
    refine then_ret ?_
    refine block_ret ?_
    refine then_ret ?_
    refine post1 rfl hf17 rfl ⟨?_, hI1.unread h0⟩
    refine congrArg (fun z => Ending.returned (.bool z)) ?_
    simp only [decide_eq_true_eq, decide_eq_false_iff_not] at g13_1
    unfold fits5; first | (exact (decide_eq_true (by omega)).symm) | (exact (decide_eq_false (by omega)).symm)
  · have hf18 := hf12.know 13 (u := .bool false) rfl (congrArg Value.bool g13_1)
    refine seq_one (op_val (v := .int .i64 n0) hf18 rfl rfl rfl rfl rfl rfl (r_move rfl) fun ac17 hf19 => ?_)
    refine seq_one (op_val (v := .bool (decide (n0 < (-2305843009213693952)))) hf19 rfl rfl rfl rfl rfl rfl (r_lss rfl rfl) fun ac18 hf20 => ?_)
    refine seq_one (op_val (v := .bool (decide (n0 < (-2305843009213693952)))) hf20 rfl rfl rfl rfl rfl rfl (r_pickF rfl rfl) fun ac19 hf21 => ?_)
    refine seq_end ?_
    clear ac9 hf9 ac10 hf10 ac11 hf11 hf12 ac12 hf18 ac17 hf19 ac18 hf20
    refine then_normal ?_
    refine code_if hf21 rfl (fun c16_2 => ?_) (fun c16_2 => ?_)
    · have hf22 := hf21.know 16 (u := .bool true) rfl (congrArg Value.bool c16_2)
      refine code_seq ?_
      refine seq_start (l := [0]) rfl ?_
      refine seq_one (op_val (v := .bool false) hf22 rfl rfl rfl rfl rfl rfl (r_assign rfl) fun ac20 hf23 => ?_)
      refine seq_end ?_
      clear hf21 ac19 hf22
      refine then_normal ?_
      refine wp_ret ?_
      refine block_ret ?_
      refine then_ret ?_
      refine then_ret ?_
      refine block_ret ?_
      refine then_ret ?_
      refine post1 rfl hf23 rfl ⟨?_, hI1.unread h0⟩
      refine congrArg (fun z => Ending.returned (.bool z)) ?_
      simp only [decide_eq_true_eq, decide_eq_false_iff_not] at g13_1 c16_2
      unfold fits5; first | (exact (decide_eq_true (by omega)).symm) | (exact (decide_eq_false (by omega)).symm)
    · have hf24 := hf21.know 16 (u := .bool false) rfl (congrArg Value.bool c16_2)
      refine wp_skip ?_
      refine block_normal ?_
      refine then_normal ?_
      refine seq_start (l := [0, 1]) rfl ?_
      refine seq_one (op_val (v := .int .i64 1) hf24 rfl rfl rfl rfl rfl rfl (r_add (c := 1) rfl rfl (by rfl)) fun ac21 hf25 => ?_)
      refine seq_one (op_val (v := .int .i64 1) hf25 rfl rfl rfl rfl rfl rfl (r_move rfl) fun ac22 hf26 => ?_)
      refine seq_end ?_
      clear hf21 ac19 hf24 ac21 hf25
      refine then_normal ?_
      refine rounds_go ?_
      refine code_seq ?_
      refine seq_start (l := [0]) rfl ?_
      refine seq_one (op_val (v := .bool true) hf26 rfl rfl rfl rfl rfl rfl (r_lssC rfl rfl (by decide)) fun ac23 hf27 => ?_)
      refine seq_end ?_
      clear ac22 hf26
      refine then_normal ?_
      refine code_seq ?_
      refine code_if_true hf27 rfl ?_
      refine wp_skip ?_
      refine then_normal ?_
      refine code_seq ?_
      refine wp_block ?_
      refine code_seq ?_
      refine seq_start (l := [0, 1, 2]) rfl ?_
      refine seq_one (op_val (v := .pointer (some ⟨b, 1, none⟩)) hf27 rfl rfl rfl rfl rfl rfl (r_indexAddrS (i := 1) sl_43 rfl rfl rfl (by decide) rfl) fun ac24 hf28 => ?_)
      refine seq_one (op_val (v := .int .i64 n1) hf28 rfl rfl rfl rfl rfl rfl (r_load ag_3 rfl (hI1.at 0 rfl) rfl) fun ac25 hf29 => ?_)
      refine seq_one (op_val (v := .int .i64 n1) hf29 rfl rfl rfl rfl rfl rfl (r_assign rfl) fun ac26 hf30 => ?_)
      refine seq_end ?_
      clear ac23 hf27 ac24 hf28 ac25 hf29
      refine then_normal ?_
      refine code_seq ?_
      refine seq_start (l := [0, 1, 2, 3, 4, 5]) rfl ?_
      refine seq_one (op_val (v := .int .i64 n1) hf30 rfl rfl rfl rfl rfl rfl (r_move rfl) fun ac27 hf31 => ?_)
      refine seq_one (op_val (v := .bool (decide (n1 > 2305843009213693952))) hf31 rfl rfl rfl rfl rfl rfl (r_gtr rfl rfl) fun ac28 hf32 => ?_)
      refine seq_one (op_val (v := .bool (decide (n1 > 2305843009213693952))) hf32 rfl rfl rfl rfl rfl rfl (r_move rfl) fun ac29 hf33 => ?_)
      rcases Bool.eq_false_or_eq_true (decide (n1 > 2305843009213693952) : Bool) with g13_3 | g13_3
      · have hf34 := hf33.know 13 (u := .bool true) rfl (congrArg Value.bool g13_3)
        refine seq_one (op_skip hf34 rfl rfl rfl rfl fun ac30 hf35 => ?_)
        refine seq_one (op_skip hf35 rfl rfl rfl rfl fun ac31 hf36 => ?_)
        refine seq_one (op_val (v := .bool true) hf36 rfl rfl rfl rfl rfl rfl (r_pickT rfl rfl) fun ac32 hf37 => ?_)
        refine seq_end ?_
        clear ac26 hf30 ac27 hf31 ac28 hf32 hf33 ac29 hf34 ac30 hf35 ac31 hf36
        refine then_normal ?_
        refine code_if_true hf37 rfl ?_
        refine code_seq ?_
        refine seq_start (l := [0]) rfl ?_
        refine seq_one (op_val (v := .bool false) hf37 rfl rfl rfl rfl rfl rfl (r_assign rfl) fun ac33 hf38 => ?_)
        refine seq_end ?_
        clear ac32 hf37
        refine then_normal ?_
        refine wp_ret ?_
        refine block_ret ?_
        refine then_ret ?_
        refine then_ret ?_
        refine block_ret ?_
        refine then_ret ?_
        refine post1 rfl hf38 rfl ⟨?_, hI1.unread h0⟩
        refine congrArg (fun z => Ending.returned (.bool z)) ?_
        simp only [decide_eq_true_eq, decide_eq_false_iff_not] at g13_1 c16_2 g13_3
        unfold fits5; first | (exact (decide_eq_true (by omega)).symm) | (exact (decide_eq_false (by omega)).symm)
      · have hf39 := hf33.know 13 (u := .bool false) rfl (congrArg Value.bool g13_3)
        refine seq_one (op_val (v := .int .i64 n1) hf39 rfl rfl rfl rfl rfl rfl (r_move rfl) fun ac34 hf40 => ?_)
        refine seq_one (op_val (v := .bool (decide (n1 < (-2305843009213693952)))) hf40 rfl rfl rfl rfl rfl rfl (r_lss rfl rfl) fun ac35 hf41 => ?_)
        refine seq_one (op_val (v := .bool (decide (n1 < (-2305843009213693952)))) hf41 rfl rfl rfl rfl rfl rfl (r_pickF rfl rfl) fun ac36 hf42 => ?_)
        refine seq_end ?_
        clear ac26 hf30 ac27 hf31 ac28 hf32 hf33 ac29 hf39 ac34 hf40 ac35 hf41
        refine then_normal ?_
        refine code_if hf42 rfl (fun c16_4 => ?_) (fun c16_4 => ?_)
        · have hf43 := hf42.know 16 (u := .bool true) rfl (congrArg Value.bool c16_4)
          refine code_seq ?_
          refine seq_start (l := [0]) rfl ?_
          refine seq_one (op_val (v := .bool false) hf43 rfl rfl rfl rfl rfl rfl (r_assign rfl) fun ac37 hf44 => ?_)
          refine seq_end ?_
          clear hf42 ac36 hf43
          refine then_normal ?_
          refine wp_ret ?_
          refine block_ret ?_
          refine then_ret ?_
          refine then_ret ?_
          refine block_ret ?_
          refine then_ret ?_
          refine post1 rfl hf44 rfl ⟨?_, hI1.unread h0⟩
          refine congrArg (fun z => Ending.returned (.bool z)) ?_
          simp only [decide_eq_true_eq, decide_eq_false_iff_not] at g13_1 c16_2 g13_3 c16_4
          unfold fits5; first | (exact (decide_eq_true (by omega)).symm) | (exact (decide_eq_false (by omega)).symm)
        · have hf45 := hf42.know 16 (u := .bool false) rfl (congrArg Value.bool c16_4)
          refine wp_skip ?_
          refine block_normal ?_
          refine then_normal ?_
          refine seq_start (l := [0, 1]) rfl ?_
          refine seq_one (op_val (v := .int .i64 2) hf45 rfl rfl rfl rfl rfl rfl (r_add (c := 2) rfl rfl (by rfl)) fun ac38 hf46 => ?_)
          refine seq_one (op_val (v := .int .i64 2) hf46 rfl rfl rfl rfl rfl rfl (r_move rfl) fun ac39 hf47 => ?_)
          refine seq_end ?_
          clear hf42 ac36 hf45 ac38 hf46
          refine then_normal ?_
          refine rounds_go ?_
          refine code_seq ?_
          refine seq_start (l := [0]) rfl ?_
          refine seq_one (op_val (v := .bool true) hf47 rfl rfl rfl rfl rfl rfl (r_lssC rfl rfl (by decide)) fun ac40 hf48 => ?_)
          refine seq_end ?_
          clear ac39 hf47
          refine then_normal ?_
          refine code_seq ?_
          refine code_if_true hf48 rfl ?_
          refine wp_skip ?_
          refine then_normal ?_
          refine code_seq ?_
          refine wp_block ?_
          refine code_seq ?_
          refine seq_start (l := [0, 1, 2]) rfl ?_
          refine seq_one (op_val (v := .pointer (some ⟨b, 2, none⟩)) hf48 rfl rfl rfl rfl rfl rfl (r_indexAddrS (i := 2) sl_43 rfl rfl rfl (by decide) rfl) fun ac41 hf49 => ?_)
          refine seq_one (op_val (v := .int .i64 n2) hf49 rfl rfl rfl rfl rfl rfl (r_load ag_3 rfl (hI1.at 0 rfl) rfl) fun ac42 hf50 => ?_)
          refine seq_one (op_val (v := .int .i64 n2) hf50 rfl rfl rfl rfl rfl rfl (r_assign rfl) fun ac43 hf51 => ?_)
          refine seq_end ?_
          clear ac40 hf48 ac41 hf49 ac42 hf50
          refine then_normal ?_
          refine code_seq ?_
          refine seq_start (l := [0, 1, 2, 3, 4, 5]) rfl ?_
          refine seq_one (op_val (v := .int .i64 n2) hf51 rfl rfl rfl rfl rfl rfl (r_move rfl) fun ac44 hf52 => ?_)
          refine seq_one (op_val (v := .bool (decide (n2 > 2305843009213693952))) hf52 rfl rfl rfl rfl rfl rfl (r_gtr rfl rfl) fun ac45 hf53 => ?_)
          refine seq_one (op_val (v := .bool (decide (n2 > 2305843009213693952))) hf53 rfl rfl rfl rfl rfl rfl (r_move rfl) fun ac46 hf54 => ?_)
          rcases Bool.eq_false_or_eq_true (decide (n2 > 2305843009213693952) : Bool) with g13_5 | g13_5
          · have hf55 := hf54.know 13 (u := .bool true) rfl (congrArg Value.bool g13_5)
            refine seq_one (op_skip hf55 rfl rfl rfl rfl fun ac47 hf56 => ?_)
            refine seq_one (op_skip hf56 rfl rfl rfl rfl fun ac48 hf57 => ?_)
            refine seq_one (op_val (v := .bool true) hf57 rfl rfl rfl rfl rfl rfl (r_pickT rfl rfl) fun ac49 hf58 => ?_)
            refine seq_end ?_
            clear ac43 hf51 ac44 hf52 ac45 hf53 hf54 ac46 hf55 ac47 hf56 ac48 hf57
            refine then_normal ?_
            refine code_if_true hf58 rfl ?_
            refine code_seq ?_
            refine seq_start (l := [0]) rfl ?_
            refine seq_one (op_val (v := .bool false) hf58 rfl rfl rfl rfl rfl rfl (r_assign rfl) fun ac50 hf59 => ?_)
            refine seq_end ?_
            clear ac49 hf58
            refine then_normal ?_
            refine wp_ret ?_
            refine block_ret ?_
            refine then_ret ?_
            refine then_ret ?_
            refine block_ret ?_
            refine then_ret ?_
            refine post1 rfl hf59 rfl ⟨?_, hI1.unread h0⟩
            refine congrArg (fun z => Ending.returned (.bool z)) ?_
            simp only [decide_eq_true_eq, decide_eq_false_iff_not] at g13_1 c16_2 g13_3 c16_4 g13_5
            unfold fits5; first | (exact (decide_eq_true (by omega)).symm) | (exact (decide_eq_false (by omega)).symm)
          · have hf60 := hf54.know 13 (u := .bool false) rfl (congrArg Value.bool g13_5)
            refine seq_one (op_val (v := .int .i64 n2) hf60 rfl rfl rfl rfl rfl rfl (r_move rfl) fun ac51 hf61 => ?_)
            refine seq_one (op_val (v := .bool (decide (n2 < (-2305843009213693952)))) hf61 rfl rfl rfl rfl rfl rfl (r_lss rfl rfl) fun ac52 hf62 => ?_)
            refine seq_one (op_val (v := .bool (decide (n2 < (-2305843009213693952)))) hf62 rfl rfl rfl rfl rfl rfl (r_pickF rfl rfl) fun ac53 hf63 => ?_)
            refine seq_end ?_
            clear ac43 hf51 ac44 hf52 ac45 hf53 hf54 ac46 hf60 ac51 hf61 ac52 hf62
            refine then_normal ?_
            refine code_if hf63 rfl (fun c16_6 => ?_) (fun c16_6 => ?_)
            · have hf64 := hf63.know 16 (u := .bool true) rfl (congrArg Value.bool c16_6)
              refine code_seq ?_
              refine seq_start (l := [0]) rfl ?_
              refine seq_one (op_val (v := .bool false) hf64 rfl rfl rfl rfl rfl rfl (r_assign rfl) fun ac54 hf65 => ?_)
              refine seq_end ?_
              clear hf63 ac53 hf64
              refine then_normal ?_
              refine wp_ret ?_
              refine block_ret ?_
              refine then_ret ?_
              refine then_ret ?_
              refine block_ret ?_
              refine then_ret ?_
              refine post1 rfl hf65 rfl ⟨?_, hI1.unread h0⟩
              refine congrArg (fun z => Ending.returned (.bool z)) ?_
              simp only [decide_eq_true_eq, decide_eq_false_iff_not] at g13_1 c16_2 g13_3 c16_4 g13_5 c16_6
              unfold fits5; first | (exact (decide_eq_true (by omega)).symm) | (exact (decide_eq_false (by omega)).symm)
            · have hf66 := hf63.know 16 (u := .bool false) rfl (congrArg Value.bool c16_6)
              refine wp_skip ?_
              refine block_normal ?_
              refine then_normal ?_
              refine seq_start (l := [0, 1]) rfl ?_
              refine seq_one (op_val (v := .int .i64 3) hf66 rfl rfl rfl rfl rfl rfl (r_add (c := 3) rfl rfl (by rfl)) fun ac55 hf67 => ?_)
              refine seq_one (op_val (v := .int .i64 3) hf67 rfl rfl rfl rfl rfl rfl (r_move rfl) fun ac56 hf68 => ?_)
              refine seq_end ?_
              clear hf63 ac53 hf66 ac55 hf67
              refine then_normal ?_
              refine rounds_go ?_
              refine code_seq ?_
              refine seq_start (l := [0]) rfl ?_
              refine seq_one (op_val (v := .bool true) hf68 rfl rfl rfl rfl rfl rfl (r_lssC rfl rfl (by decide)) fun ac57 hf69 => ?_)
              refine seq_end ?_
              clear ac56 hf68
              refine then_normal ?_
              refine code_seq ?_
              refine code_if_true hf69 rfl ?_
              refine wp_skip ?_
              refine then_normal ?_
              refine code_seq ?_
              refine wp_block ?_
              refine code_seq ?_
              refine seq_start (l := [0, 1, 2]) rfl ?_
              refine seq_one (op_val (v := .pointer (some ⟨b, 3, none⟩)) hf69 rfl rfl rfl rfl rfl rfl (r_indexAddrS (i := 3) sl_43 rfl rfl rfl (by decide) rfl) fun ac58 hf70 => ?_)
              refine seq_one (op_val (v := .int .i64 x) hf70 rfl rfl rfl rfl rfl rfl (r_load ag_3 rfl (hI1.at 0 rfl) rfl) fun ac59 hf71 => ?_)
              refine seq_one (op_val (v := .int .i64 x) hf71 rfl rfl rfl rfl rfl rfl (r_assign rfl) fun ac60 hf72 => ?_)
              refine seq_end ?_
              clear ac57 hf69 ac58 hf70 ac59 hf71
              refine then_normal ?_
              refine code_seq ?_
              refine seq_start (l := [0, 1, 2, 3, 4, 5]) rfl ?_
              refine seq_one (op_val (v := .int .i64 x) hf72 rfl rfl rfl rfl rfl rfl (r_move rfl) fun ac61 hf73 => ?_)
              refine seq_one (op_val (v := .bool (decide (x > 2305843009213693952))) hf73 rfl rfl rfl rfl rfl rfl (r_gtr rfl rfl) fun ac62 hf74 => ?_)
              refine seq_one (op_val (v := .bool (decide (x > 2305843009213693952))) hf74 rfl rfl rfl rfl rfl rfl (r_move rfl) fun ac63 hf75 => ?_)
              rcases Bool.eq_false_or_eq_true (decide (x > 2305843009213693952) : Bool) with g13_7 | g13_7
              · have hf76 := hf75.know 13 (u := .bool true) rfl (congrArg Value.bool g13_7)
                refine seq_one (op_skip hf76 rfl rfl rfl rfl fun ac64 hf77 => ?_)
                refine seq_one (op_skip hf77 rfl rfl rfl rfl fun ac65 hf78 => ?_)
                refine seq_one (op_val (v := .bool true) hf78 rfl rfl rfl rfl rfl rfl (r_pickT rfl rfl) fun ac66 hf79 => ?_)
                refine seq_end ?_
                clear ac60 hf72 ac61 hf73 ac62 hf74 hf75 ac63 hf76 ac64 hf77 ac65 hf78
                refine then_normal ?_
                refine code_if_true hf79 rfl ?_
                refine code_seq ?_
                refine seq_start (l := [0]) rfl ?_
                refine seq_one (op_val (v := .bool false) hf79 rfl rfl rfl rfl rfl rfl (r_assign rfl) fun ac67 hf80 => ?_)
                refine seq_end ?_
                clear ac66 hf79
                refine then_normal ?_
                refine wp_ret ?_
                refine block_ret ?_
                refine then_ret ?_
                refine then_ret ?_
                refine block_ret ?_
                refine then_ret ?_
                refine post1 rfl hf80 rfl ⟨?_, hI1.unread h0⟩
                refine congrArg (fun z => Ending.returned (.bool z)) ?_
                simp only [decide_eq_true_eq, decide_eq_false_iff_not] at g13_1 c16_2 g13_3 c16_4 g13_5 c16_6 g13_7
                unfold fits5; first | (exact (decide_eq_true (by omega)).symm) | (exact (decide_eq_false (by omega)).symm)
              · have hf81 := hf75.know 13 (u := .bool false) rfl (congrArg Value.bool g13_7)
                refine seq_one (op_val (v := .int .i64 x) hf81 rfl rfl rfl rfl rfl rfl (r_move rfl) fun ac68 hf82 => ?_)
                refine seq_one (op_val (v := .bool (decide (x < (-2305843009213693952)))) hf82 rfl rfl rfl rfl rfl rfl (r_lss rfl rfl) fun ac69 hf83 => ?_)
                refine seq_one (op_val (v := .bool (decide (x < (-2305843009213693952)))) hf83 rfl rfl rfl rfl rfl rfl (r_pickF rfl rfl) fun ac70 hf84 => ?_)
                refine seq_end ?_
                clear ac60 hf72 ac61 hf73 ac62 hf74 hf75 ac63 hf81 ac68 hf82 ac69 hf83
                refine then_normal ?_
                refine code_if hf84 rfl (fun c16_8 => ?_) (fun c16_8 => ?_)
                · have hf85 := hf84.know 16 (u := .bool true) rfl (congrArg Value.bool c16_8)
                  refine code_seq ?_
                  refine seq_start (l := [0]) rfl ?_
                  refine seq_one (op_val (v := .bool false) hf85 rfl rfl rfl rfl rfl rfl (r_assign rfl) fun ac71 hf86 => ?_)
                  refine seq_end ?_
                  clear hf84 ac70 hf85
                  refine then_normal ?_
                  refine wp_ret ?_
                  refine block_ret ?_
                  refine then_ret ?_
                  refine then_ret ?_
                  refine block_ret ?_
                  refine then_ret ?_
                  refine post1 rfl hf86 rfl ⟨?_, hI1.unread h0⟩
                  refine congrArg (fun z => Ending.returned (.bool z)) ?_
                  simp only [decide_eq_true_eq, decide_eq_false_iff_not] at g13_1 c16_2 g13_3 c16_4 g13_5 c16_6 g13_7 c16_8
                  unfold fits5; first | (exact (decide_eq_true (by omega)).symm) | (exact (decide_eq_false (by omega)).symm)
                · have hf87 := hf84.know 16 (u := .bool false) rfl (congrArg Value.bool c16_8)
                  refine wp_skip ?_
                  refine block_normal ?_
                  refine then_normal ?_
                  refine seq_start (l := [0, 1]) rfl ?_
                  refine seq_one (op_val (v := .int .i64 4) hf87 rfl rfl rfl rfl rfl rfl (r_add (c := 4) rfl rfl (by rfl)) fun ac72 hf88 => ?_)
                  refine seq_one (op_val (v := .int .i64 4) hf88 rfl rfl rfl rfl rfl rfl (r_move rfl) fun ac73 hf89 => ?_)
                  refine seq_end ?_
                  clear hf84 ac70 hf87 ac72 hf88
                  refine then_normal ?_
                  refine rounds_go ?_
                  refine code_seq ?_
                  refine seq_start (l := [0]) rfl ?_
                  refine seq_one (op_val (v := .bool true) hf89 rfl rfl rfl rfl rfl rfl (r_lssC rfl rfl (by decide)) fun ac74 hf90 => ?_)
                  refine seq_end ?_
                  clear ac73 hf89
                  refine then_normal ?_
                  refine code_seq ?_
                  refine code_if_true hf90 rfl ?_
                  refine wp_skip ?_
                  refine then_normal ?_
                  refine code_seq ?_
                  refine wp_block ?_
                  refine code_seq ?_
                  refine seq_start (l := [0, 1, 2]) rfl ?_
                  refine seq_one (op_val (v := .pointer (some ⟨b, 4, none⟩)) hf90 rfl rfl rfl rfl rfl rfl (r_indexAddrS (i := 4) sl_43 rfl rfl rfl (by decide) rfl) fun ac75 hf91 => ?_)
                  refine seq_one (op_val (v := .int .i64 y) hf91 rfl rfl rfl rfl rfl rfl (r_load ag_3 rfl (hI1.at 0 rfl) rfl) fun ac76 hf92 => ?_)
                  refine seq_one (op_val (v := .int .i64 y) hf92 rfl rfl rfl rfl rfl rfl (r_assign rfl) fun ac77 hf93 => ?_)
                  refine seq_end ?_
                  clear ac74 hf90 ac75 hf91 ac76 hf92
                  refine then_normal ?_
                  refine code_seq ?_
                  refine seq_start (l := [0, 1, 2, 3, 4, 5]) rfl ?_
                  refine seq_one (op_val (v := .int .i64 y) hf93 rfl rfl rfl rfl rfl rfl (r_move rfl) fun ac78 hf94 => ?_)
                  refine seq_one (op_val (v := .bool (decide (y > 2305843009213693952))) hf94 rfl rfl rfl rfl rfl rfl (r_gtr rfl rfl) fun ac79 hf95 => ?_)
                  refine seq_one (op_val (v := .bool (decide (y > 2305843009213693952))) hf95 rfl rfl rfl rfl rfl rfl (r_move rfl) fun ac80 hf96 => ?_)
                  rcases Bool.eq_false_or_eq_true (decide (y > 2305843009213693952) : Bool) with g13_9 | g13_9
                  · have hf97 := hf96.know 13 (u := .bool true) rfl (congrArg Value.bool g13_9)
                    refine seq_one (op_skip hf97 rfl rfl rfl rfl fun ac81 hf98 => ?_)
                    refine seq_one (op_skip hf98 rfl rfl rfl rfl fun ac82 hf99 => ?_)
                    refine seq_one (op_val (v := .bool true) hf99 rfl rfl rfl rfl rfl rfl (r_pickT rfl rfl) fun ac83 hf100 => ?_)
                    refine seq_end ?_
                    clear ac77 hf93 ac78 hf94 ac79 hf95 hf96 ac80 hf97 ac81 hf98 ac82 hf99
                    refine then_normal ?_
                    refine code_if_true hf100 rfl ?_
                    refine code_seq ?_
                    refine seq_start (l := [0]) rfl ?_
                    refine seq_one (op_val (v := .bool false) hf100 rfl rfl rfl rfl rfl rfl (r_assign rfl) fun ac84 hf101 => ?_)
                    refine seq_end ?_
                    clear ac83 hf100
                    refine then_normal ?_
                    refine wp_ret ?_
                    refine block_ret ?_
                    refine then_ret ?_
                    refine then_ret ?_
                    refine block_ret ?_
                    refine then_ret ?_
                    refine post1 rfl hf101 rfl ⟨?_, hI1.unread h0⟩
                    refine congrArg (fun z => Ending.returned (.bool z)) ?_
                    simp only [decide_eq_true_eq, decide_eq_false_iff_not] at g13_1 c16_2 g13_3 c16_4 g13_5 c16_6 g13_7 c16_8 g13_9
                    unfold fits5; first | (exact (decide_eq_true (by omega)).symm) | (exact (decide_eq_false (by omega)).symm)
                  · have hf102 := hf96.know 13 (u := .bool false) rfl (congrArg Value.bool g13_9)
                    refine seq_one (op_val (v := .int .i64 y) hf102 rfl rfl rfl rfl rfl rfl (r_move rfl) fun ac85 hf103 => ?_)
                    refine seq_one (op_val (v := .bool (decide (y < (-2305843009213693952)))) hf103 rfl rfl rfl rfl rfl rfl (r_lss rfl rfl) fun ac86 hf104 => ?_)
                    refine seq_one (op_val (v := .bool (decide (y < (-2305843009213693952)))) hf104 rfl rfl rfl rfl rfl rfl (r_pickF rfl rfl) fun ac87 hf105 => ?_)
                    refine seq_end ?_
                    clear ac77 hf93 ac78 hf94 ac79 hf95 hf96 ac80 hf102 ac85 hf103 ac86 hf104
                    refine then_normal ?_
                    refine code_if hf105 rfl (fun c16_10 => ?_) (fun c16_10 => ?_)
                    · have hf106 := hf105.know 16 (u := .bool true) rfl (congrArg Value.bool c16_10)
                      refine code_seq ?_
                      refine seq_start (l := [0]) rfl ?_
                      refine seq_one (op_val (v := .bool false) hf106 rfl rfl rfl rfl rfl rfl (r_assign rfl) fun ac88 hf107 => ?_)
                      refine seq_end ?_
                      clear hf105 ac87 hf106
                      refine then_normal ?_
                      refine wp_ret ?_
                      refine block_ret ?_
                      refine then_ret ?_
                      refine then_ret ?_
                      refine block_ret ?_
                      refine then_ret ?_
                      refine post1 rfl hf107 rfl ⟨?_, hI1.unread h0⟩
                      refine congrArg (fun z => Ending.returned (.bool z)) ?_
                      simp only [decide_eq_true_eq, decide_eq_false_iff_not] at g13_1 c16_2 g13_3 c16_4 g13_5 c16_6 g13_7 c16_8 g13_9 c16_10
                      unfold fits5; first | (exact (decide_eq_true (by omega)).symm) | (exact (decide_eq_false (by omega)).symm)
                    · have hf108 := hf105.know 16 (u := .bool false) rfl (congrArg Value.bool c16_10)
                      refine wp_skip ?_
                      refine block_normal ?_
                      refine then_normal ?_
                      refine seq_start (l := [0, 1]) rfl ?_
                      refine seq_one (op_val (v := .int .i64 5) hf108 rfl rfl rfl rfl rfl rfl (r_add (c := 5) rfl rfl (by rfl)) fun ac89 hf109 => ?_)
                      refine seq_one (op_val (v := .int .i64 5) hf109 rfl rfl rfl rfl rfl rfl (r_move rfl) fun ac90 hf110 => ?_)
                      refine seq_end ?_
                      clear hf105 ac87 hf108 ac89 hf109
                      refine then_normal ?_
                      refine rounds_go ?_
                      refine code_seq ?_
                      refine seq_start (l := [0]) rfl ?_
                      refine seq_one (op_val (v := .bool false) hf110 rfl rfl rfl rfl rfl rfl (r_lssC rfl rfl (by decide)) fun ac91 hf111 => ?_)
                      refine seq_end ?_
                      clear ac90 hf110
                      refine then_normal ?_
                      refine code_seq ?_
                      refine code_if_false hf111 rfl ?_
                      refine wp_exit ?_
                      refine then_exit ?_
                      refine then_exit ?_
                      refine block_here ?_
                      refine then_normal ?_
                      refine code_seq ?_
                      refine seq_start (l := [0]) rfl ?_
                      refine seq_one (op_val (v := .bool true) hf111 rfl rfl rfl rfl rfl rfl (r_assign rfl) fun ac92 hf112 => ?_)
                      refine seq_end ?_
                      clear ac91 hf111
                      refine then_normal ?_
                      refine wp_ret ?_
                      refine post1 rfl hf112 rfl ⟨?_, hI1.unread h0⟩
                      refine congrArg (fun z => Ending.returned (.bool z)) ?_
                      simp only [decide_eq_true_eq, decide_eq_false_iff_not] at g13_1 c16_2 g13_3 c16_4 g13_5 c16_6 g13_7 c16_8 g13_9 c16_10
                      unfold fits5; first | (exact (decide_eq_true (by omega)).symm) | (exact (decide_eq_false (by omega)).symm)
set_option maxHeartbeats 8000000 in
theorem limitsWith_pur (n0 n1 n2 x y : Int) (n0l : -9223372036854775808 ≤ n0) (n0r : n0 ≤ 9223372036854775807) (n1l : -9223372036854775808 ≤ n1) (n1r : n1 ≤ 9223372036854775807) (n2l : -9223372036854775808 ≤ n2) (n2r : n2 ≤ 9223372036854775807) (xl : -9223372036854775808 ≤ x) (xr : x ≤ 9223372036854775807) (yl : -9223372036854775808 ≤ y) (yr : y ≤ 9223372036854775807) : Pur Try.prog 7 [.agg #[.int .i64 n0, .int .i64 n1, .int .i64 n2], .int .i64 x, .int .i64 y] (.bool true) := by
  intro w
  have hI1 := Inv.start w
  refine enter (n := 75) Try.func7 rfl rfl rfl ?_
  intro ac1 hf1
  refine code_seq ?_
  refine seq_start (l := [0, 1]) rfl ?_
  refine seq_one (op_box hf1 rfl rfl rfl rfl hI1 fun ac2 b1 wd1 hb1 hI2 hf2 => ?_)
  have hI3 : Inv w [(b1, #[.int .i64 n0, .int .i64 n1, .int .i64 n2], 30)] wd1 := hI2
  refine seq_one (op_val (v := .bool false) hf2 rfl rfl rfl rfl rfl rfl (r_assign rfl) fun ac3 hf3 => ?_)
  refine seq_end ?_
  clear ac1 hI1 hf1 hI2 ac2 hf2
  refine then_normal ?_
  refine code_seq ?_
  refine seq_start (l := [0]) rfl ?_
  refine seq_one (op_val (v := .func (.func 18) #[] #[]) hf3 rfl rfl rfl rfl rfl rfl (r_assign rfl) fun ac4 hf4 => ?_)
  refine seq_end ?_
  clear ac3 hf3
  refine then_normal ?_
  refine code_seq ?_
  refine code_seq ?_
  refine seq_start (l := [0, 1, 2, 3, 4, 5, 6, 7, 8, 9, 10, 11]) rfl ?_
  refine seq_one (op_val (v := .func (.func 18) #[] #[]) hf4 rfl rfl rfl rfl rfl rfl (r_move rfl) fun ac5 hf5 => ?_)
  refine seq_one (op_val (v := .pointer (some ⟨b1, 0, none⟩)) hf5 rfl rfl rfl rfl rfl rfl (r_fieldAddr fi_30_0 rfl rfl) fun ac6 hf6 => ?_)
  refine seq_one (op_val (v := .int .i64 n0) hf6 rfl rfl rfl rfl rfl rfl (r_load ag_3 rfl (hI3.at 0 rfl) rfl) fun ac7 hf7 => ?_)
  refine seq_one (op_val (v := .pointer (some ⟨b1, 1, none⟩)) hf7 rfl rfl rfl rfl rfl rfl (r_fieldAddr fi_30_1 rfl rfl) fun ac8 hf8 => ?_)
  refine seq_one (op_val (v := .int .i64 n1) hf8 rfl rfl rfl rfl rfl rfl (r_load ag_3 rfl (hI3.at 0 rfl) rfl) fun ac9 hf9 => ?_)
  refine seq_one (op_val (v := .pointer (some ⟨b1, 2, none⟩)) hf9 rfl rfl rfl rfl rfl rfl (r_fieldAddr fi_30_2 rfl rfl) fun ac10 hf10 => ?_)
  refine seq_one (op_val (v := .int .i64 n2) hf10 rfl rfl rfl rfl rfl rfl (r_load ag_3 rfl (hI3.at 0 rfl) rfl) fun ac11 hf11 => ?_)
  refine seq_one (op_val (v := .int .i64 x) hf11 rfl rfl rfl rfl rfl rfl (r_move rfl) fun ac12 hf12 => ?_)
  refine seq_one (op_val (v := .int .i64 y) hf12 rfl rfl rfl rfl rfl rfl (r_move rfl) fun ac13 hf13 => ?_)
  refine seq_one (op_bslice (s := 3) (cells := #[.int .i64 n0, .int .i64 n1, .int .i64 n2, .int .i64 x, .int .i64 y]) hf13 rfl rfl rfl rfl rfl (fun _ => by kernel_rfl) hI3 fun ac14 b2 wd2 hb2 hI4 hf14 => ?_)
  have hI5 : Inv w [(b1, #[.int .i64 n0, .int .i64 n1, .int .i64 n2], 30), (b2, #[.int .i64 n0, .int .i64 n1, .int .i64 n2, .int .i64 x, .int .i64 y], 3)] wd2 := hI4
  refine seq_one (op_callv (first := []) (cap := []) (R := fun v w' => v = .bool (fits5 n0 n1 n2 x y) ∧ Inv wd2 [] w') hf14 rfl rfl rfl rfl rfl ca_18 ((fits_walk n0 n1 n2 x y b2 _ (Has.cons (hI5.at 1 rfl) Has.nil)).mono fun _ _ h => ⟨_, h.1, rfl, h.2⟩) fun ac15 v wd3 hR hf15 => ?_)
  obtain ⟨rfl, hR⟩ := hR
  have hI6 := hI5.call0 hR
  refine seq_one (op_val (v := .bool (!(fits5 n0 n1 n2 x y))) hf15 rfl rfl rfl rfl rfl rfl (r_not rfl) fun ac16 hf16 => ?_)
  refine seq_end ?_
  clear ac4 hf4 ac5 hf5 ac6 hf6 ac7 hf7 ac8 hf8 ac9 hf9 ac10 hf10 ac11 hf11 ac12 hf12 ac13 wd1 hI3 hf13 hI4 ac14 wd2 hf14 hI5 hR ac15 hf15
  refine then_normal ?_
  refine code_if hf16 rfl (fun c20_1 => ?_) (fun c20_1 => ?_)
  · have hf17 := hf16.know 20 (u := .bool true) rfl (congrArg Value.bool c20_1)
    refine code_seq ?_
    refine seq_start (l := [0, 1, 2, 3]) rfl ?_
    refine seq_one (op_val (v := .agg #[.int .i64 n0, .int .i64 n1, .int .i64 n2]) hf17 rfl rfl rfl rfl rfl rfl (r_loadW ag_30 sz_30 rfl (hI6.at 0 rfl) rfl) fun ac17 hf18 => ?_)
    refine seq_one (op_pure hf18 rfl rfl rfl rfl ca_12 (with_pur n0 n1 n2 9223372036854775807 n0l n0r n1l n1r n2l n2r (by decide) (by decide)) hI6 fun ac18 wd4 hI7 hf19 => ?_)
    refine seq_one (op_alloc hf19 rfl rfl rfl ze_30 hI7 fun ac19 b3 wd5 hb3 hI8 hf20 => ?_)
    have hI9 : Inv w [(b1, #[.int .i64 n0, .int .i64 n1, .int .i64 n2], 30), (b2, #[.int .i64 n0, .int .i64 n1, .int .i64 n2, .int .i64 x, .int .i64 y], 3), (b3, #[.int .i64 0, .int .i64 0, .int .i64 0], 30)] wd5 := hI8
    refine seq_one (op_storeW (cells := #[.int .i64 (moreF n0 9223372036854775807), .int .i64 (moreF n1 9223372036854775807), .int .i64 (moreF n2 9223372036854775807)]) 2 hf20 rfl rfl rfl rfl rfl sz_30 rfl rfl hI9 rfl rfl fun wd6 hI10 => ?_)
    have hI11 : Inv w [(b1, #[.int .i64 n0, .int .i64 n1, .int .i64 n2], 30), (b2, #[.int .i64 n0, .int .i64 n1, .int .i64 n2, .int .i64 x, .int .i64 y], 3), (b3, #[.int .i64 (moreF n0 9223372036854775807), .int .i64 (moreF n1 9223372036854775807), .int .i64 (moreF n2 9223372036854775807)], 30)] wd6 := hI10
    refine seq_end ?_
    clear hf16 ac16 hf17 ac17 wd3 hI6 hf18 ac18 wd4 hI7 hf19 hI8 wd5 hI9 hI10
    refine then_normal ?_
    refine code_seq ?_
    refine seq_start (l := [0, 1, 2, 3, 4, 5, 6, 7, 8, 9, 10, 11, 12, 13, 14, 15, 16, 17, 18, 19, 20, 21, 22]) rfl ?_
    refine seq_one (op_val (v := .pointer (some ⟨b3, 0, none⟩)) hf20 rfl rfl rfl rfl rfl rfl (r_fieldAddr fi_30_0 rfl rfl) fun ac20 hf21 => ?_)
    refine seq_one (op_val (v := .int .i64 (moreF n0 9223372036854775807)) hf21 rfl rfl rfl rfl rfl rfl (r_load ag_3 rfl (hI11.at 2 rfl) rfl) fun ac21 hf22 => ?_)
    refine seq_one (op_val (v := .pointer (some ⟨b1, 0, none⟩)) hf22 rfl rfl rfl rfl rfl rfl (r_fieldAddr fi_30_0 rfl rfl) fun ac22 hf23 => ?_)
    refine seq_one (op_val (v := .int .i64 n0) hf23 rfl rfl rfl rfl rfl rfl (r_load ag_3 rfl (hI11.at 0 rfl) rfl) fun ac23 hf24 => ?_)
    refine seq_one (op_val (v := .bool (decide ((moreF n0 9223372036854775807) ≥ n0))) hf24 rfl rfl rfl rfl rfl rfl (r_geq rfl rfl) fun ac24 hf25 => ?_)
    refine seq_one (op_val (v := .bool (decide ((moreF n0 9223372036854775807) ≥ n0))) hf25 rfl rfl rfl rfl rfl rfl (r_move rfl) fun ac25 hf26 => ?_)
    have hf27 := hf26.know 28 (u := .bool true) rfl (congrArg Value.bool (decide_eq_true (law7_ge n0 n0r)))
    refine seq_one (op_val (v := .pointer (some ⟨b3, 1, none⟩)) hf27 rfl rfl rfl rfl rfl rfl (r_fieldAddr fi_30_1 rfl rfl) fun ac26 hf28 => ?_)
    refine seq_one (op_val (v := .int .i64 (moreF n1 9223372036854775807)) hf28 rfl rfl rfl rfl rfl rfl (r_load ag_3 rfl (hI11.at 2 rfl) rfl) fun ac27 hf29 => ?_)
    refine seq_one (op_val (v := .pointer (some ⟨b1, 1, none⟩)) hf29 rfl rfl rfl rfl rfl rfl (r_fieldAddr fi_30_1 rfl rfl) fun ac28 hf30 => ?_)
    refine seq_one (op_val (v := .int .i64 n1) hf30 rfl rfl rfl rfl rfl rfl (r_load ag_3 rfl (hI11.at 0 rfl) rfl) fun ac29 hf31 => ?_)
    refine seq_one (op_val (v := .bool (decide ((moreF n1 9223372036854775807) ≥ n1))) hf31 rfl rfl rfl rfl rfl rfl (r_geq rfl rfl) fun ac30 hf32 => ?_)
    refine seq_one (op_val (v := .bool (decide ((moreF n1 9223372036854775807) ≥ n1))) hf32 rfl rfl rfl rfl rfl rfl (r_pickT rfl rfl) fun ac31 hf33 => ?_)
    refine seq_one (op_val (v := .bool (decide ((moreF n1 9223372036854775807) ≥ n1))) hf33 rfl rfl rfl rfl rfl rfl (r_move rfl) fun ac32 hf34 => ?_)
    have hf35 := hf34.know 35 (u := .bool true) rfl (congrArg Value.bool (decide_eq_true (law7_ge n1 n1r)))
    refine seq_one (op_val (v := .pointer (some ⟨b3, 2, none⟩)) hf35 rfl rfl rfl rfl rfl rfl (r_fieldAddr fi_30_2 rfl rfl) fun ac33 hf36 => ?_)
    refine seq_one (op_val (v := .int .i64 (moreF n2 9223372036854775807)) hf36 rfl rfl rfl rfl rfl rfl (r_load ag_3 rfl (hI11.at 2 rfl) rfl) fun ac34 hf37 => ?_)
    refine seq_one (op_val (v := .pointer (some ⟨b1, 2, none⟩)) hf37 rfl rfl rfl rfl rfl rfl (r_fieldAddr fi_30_2 rfl rfl) fun ac35 hf38 => ?_)
    refine seq_one (op_val (v := .int .i64 n2) hf38 rfl rfl rfl rfl rfl rfl (r_load ag_3 rfl (hI11.at 0 rfl) rfl) fun ac36 hf39 => ?_)
    refine seq_one (op_val (v := .bool (decide ((moreF n2 9223372036854775807) ≥ n2))) hf39 rfl rfl rfl rfl rfl rfl (r_geq rfl rfl) fun ac37 hf40 => ?_)
    refine seq_one (op_val (v := .bool (decide ((moreF n2 9223372036854775807) ≥ n2))) hf40 rfl rfl rfl rfl rfl rfl (r_pickT rfl rfl) fun ac38 hf41 => ?_)
    refine seq_one (op_val (v := .bool (decide ((moreF n2 9223372036854775807) ≥ n2))) hf41 rfl rfl rfl rfl rfl rfl (r_move rfl) fun ac39 hf42 => ?_)
    have hf43 := hf42.know 42 (u := .bool true) rfl (congrArg Value.bool (decide_eq_true (law7_ge n2 n2r)))
    refine seq_one (op_pure hf43 rfl rfl rfl rfl ca_16 awake_pur hI11 fun ac40 wd7 hI12 hf44 => ?_)
    refine seq_one (op_val (v := .bool true) hf44 rfl rfl rfl rfl rfl rfl (r_pickT rfl rfl) fun ac41 hf45 => ?_)
    refine seq_one (op_val (v := .bool true) hf45 rfl rfl rfl rfl rfl rfl (r_assign rfl) fun ac42 hf46 => ?_)
    refine seq_end ?_
    clear ac19 hf20 ac20 hf21 ac21 hf22 ac22 hf23 ac23 hf24 ac24 hf25 hf26 ac25 hf27 ac26 hf28 ac27 hf29 ac28 hf30 ac29 hf31 ac30 hf32 ac31 hf33 hf34 ac32 hf35 ac33 hf36 ac34 hf37 ac35 hf38 ac36 hf39 ac37 hf40 ac38 hf41 hf42 ac39 wd6 hI11 hf43 ac40 hf44 ac41 hf45
    refine then_normal ?_
    refine wp_ret ?_
    refine then_ret ?_
    refine post1 rfl hf46 rfl ⟨?_, hI12.done (fresh_keys (ks := [b1, b2, b3]) rfl (fk_cons hb1 (fk_cons hb2 (fk_cons hb3 fk_nil))))⟩
    rfl
  · have hf47 := hf16.know 20 (u := .bool false) rfl (congrArg Value.bool c20_1)
    refine wp_skip ?_
    refine then_normal ?_
    refine code_seq ?_
    refine any_start (fun w => Has [(b1, #[.int .i64 n0, .int .i64 n1, .int .i64 n2], 30)] w) follows (Has.drew (Has.cons (hI6.at 0 rfl) Has.nil)) ?_
    have hS1 : Has [(b1, #[.int .i64 n0, .int .i64 n1, .int .i64 n2], 30)] _ := Has.drew (Has.cons (hI6.at 0 rfl) Has.nil)
    have hI13 := hI6.drew
    refine any_val (i := 0) (v := .agg #[.int .i64 n0, .int .i64 n1, .int .i64 n2]) hf47 rfl rfl rfl rfl rfl rfl (fun _ _ _ h => h) (by kernel_rfl) (by kernel_rfl) (by kernel_rfl) (fun wd3 hS1 => (r_loadW ag_30 sz_30 rfl (hS1.at 0 rfl) rfl)) hS1 fun ac43 hf48 => ?_
    refine any_val (i := 1) (v := .int .i64 x) hf48 rfl rfl rfl rfl rfl rfl (fun _ _ _ h => h) (by kernel_rfl) (by kernel_rfl) (by kernel_rfl) (fun wd3 hS1 => (r_move rfl)) hS1 fun ac44 hf49 => ?_
    refine any_val (i := 3) (v := .int .i64 x) hf49 rfl rfl rfl rfl rfl rfl (fun _ _ _ h => h) (by kernel_rfl) (by kernel_rfl) (by kernel_rfl) (fun wd3 hS1 => (r_move rfl)) hS1 fun ac45 hf50 => ?_
    refine any_val (i := 4) (v := .int .i64 (-x)) hf50 rfl rfl rfl rfl rfl rfl (fun _ _ _ h => h) (by kernel_rfl) (by kernel_rfl) (by kernel_rfl) (fun wd3 hS1 => (r_neg (c := (-x)) rfl (by rw [show (0 : Int) - x = -x from Int.zero_sub x]; exact wrap_i64 (law7_neg (by simpa using c20_1 : fits5 n0 n1 n2 x y = true)).1 (law7_neg (by simpa using c20_1 : fits5 n0 n1 n2 x y = true)).2))) hS1 fun ac46 hf51 => ?_
    refine any_val (i := 6) (v := .agg #[.int .i64 n0, .int .i64 n1, .int .i64 n2]) hf51 rfl rfl rfl rfl rfl rfl (fun _ _ _ h => h) (by kernel_rfl) (by kernel_rfl) (by kernel_rfl) (fun wd3 hS1 => (r_loadW ag_30 sz_30 rfl (hS1.at 0 rfl) rfl)) hS1 fun ac47 hf52 => ?_
    refine any_one (i := 2) (by kernel_rfl) ?_
    refine (op_pure hf52 rfl rfl rfl rfl ca_12 (with_pur n0 n1 n2 x n0l n0r n1l n1r n2l n2r xl xr) hI13 fun ac48 wd8 hI14 hf53 => ⟨?_, ?_⟩)
    · exact (Has.cons (hI14.at 0 rfl) Has.nil)
    have hS2 : Has [(b1, #[.int .i64 n0, .int .i64 n1, .int .i64 n2], 30)] _ := (Has.cons (hI14.at 0 rfl) Has.nil)
    refine any_one (i := 5) (by kernel_rfl) ?_
    refine (op_pure hf53 rfl rfl rfl rfl ca_12 (with_pur (moreF n0 x) (moreF n1 x) (moreF n2 x) (-x) (moreF_range n0l n0r xl xr).1 (moreF_range n0l n0r xl xr).2 (moreF_range n1l n1r xl xr).1 (moreF_range n1l n1r xl xr).2 (moreF_range n2l n2r xl xr).1 (moreF_range n2l n2r xl xr).2 (law7_neg (by simpa using c20_1 : fits5 n0 n1 n2 x y = true)).1 (law7_neg (by simpa using c20_1 : fits5 n0 n1 n2 x y = true)).2) hI14 fun ac49 wd9 hI15 hf54 => ⟨?_, ?_⟩)
    · exact (Has.cons (hI15.at 0 rfl) Has.nil)
    have hS3 : Has [(b1, #[.int .i64 n0, .int .i64 n1, .int .i64 n2], 30)] _ := (Has.cons (hI15.at 0 rfl) Has.nil)
    refine any_val (i := 7) (v := .bool (eqA (#[.int .i64 (moreF (moreF n0 x) (-x)), .int .i64 (moreF (moreF n1 x) (-x)), .int .i64 (moreF (moreF n2 x) (-x))]) (#[.int .i64 n0, .int .i64 n1, .int .i64 n2]))) hf54 rfl rfl rfl rfl rfl rfl (fun _ _ _ h => h) (by kernel_rfl) (by kernel_rfl) (by kernel_rfl) (fun wd9 hS3 => (r_eqA sh_30 kt_30 rw_30 rfl zk_30 eg_30 rfl rfl ⟨⟨_, rfl, (wf_i64 (moreF_range (moreF_range n0l n0r xl xr).1 (moreF_range n0l n0r xl xr).2 (law7_neg (by simpa using c20_1 : fits5 n0 n1 n2 x y = true)).1 (law7_neg (by simpa using c20_1 : fits5 n0 n1 n2 x y = true)).2).1 (moreF_range (moreF_range n0l n0r xl xr).1 (moreF_range n0l n0r xl xr).2 (law7_neg (by simpa using c20_1 : fits5 n0 n1 n2 x y = true)).1 (law7_neg (by simpa using c20_1 : fits5 n0 n1 n2 x y = true)).2).2)⟩, ⟨_, rfl, (wf_i64 (moreF_range (moreF_range n1l n1r xl xr).1 (moreF_range n1l n1r xl xr).2 (law7_neg (by simpa using c20_1 : fits5 n0 n1 n2 x y = true)).1 (law7_neg (by simpa using c20_1 : fits5 n0 n1 n2 x y = true)).2).1 (moreF_range (moreF_range n1l n1r xl xr).1 (moreF_range n1l n1r xl xr).2 (law7_neg (by simpa using c20_1 : fits5 n0 n1 n2 x y = true)).1 (law7_neg (by simpa using c20_1 : fits5 n0 n1 n2 x y = true)).2).2)⟩, ⟨_, rfl, (wf_i64 (moreF_range (moreF_range n2l n2r xl xr).1 (moreF_range n2l n2r xl xr).2 (law7_neg (by simpa using c20_1 : fits5 n0 n1 n2 x y = true)).1 (law7_neg (by simpa using c20_1 : fits5 n0 n1 n2 x y = true)).2).1 (moreF_range (moreF_range n2l n2r xl xr).1 (moreF_range n2l n2r xl xr).2 (law7_neg (by simpa using c20_1 : fits5 n0 n1 n2 x y = true)).1 (law7_neg (by simpa using c20_1 : fits5 n0 n1 n2 x y = true)).2).2)⟩, trivial⟩ ⟨⟨_, rfl, (wf_i64 n0l n0r)⟩, ⟨_, rfl, (wf_i64 n1l n1r)⟩, ⟨_, rfl, (wf_i64 n2l n2r)⟩, trivial⟩)) hS3 fun ac50 hf55 => ?_
    refine any_val (i := 8) (v := .bool (eqA (#[.int .i64 (moreF (moreF n0 x) (-x)), .int .i64 (moreF (moreF n1 x) (-x)), .int .i64 (moreF (moreF n2 x) (-x))]) (#[.int .i64 n0, .int .i64 n1, .int .i64 n2]))) hf55 rfl rfl rfl rfl rfl rfl (fun _ _ _ h => h) (by kernel_rfl) (by kernel_rfl) (by kernel_rfl) (fun wd9 hS3 => (r_move rfl)) hS3 fun ac51 hf56 => ?_
    have hf57 := hf56.know 53 (u := .bool true) rfl (congrArg Value.bool (law7_53 (by simpa using c20_1 : fits5 n0 n1 n2 x y = true)))
    refine any_val (i := 9) (v := .agg #[.int .i64 n0, .int .i64 n1, .int .i64 n2]) hf57 rfl rfl rfl rfl rfl rfl (fun _ _ _ h => h) (by kernel_rfl) (by kernel_rfl) (by kernel_rfl) (fun wd9 hS3 => (r_loadW ag_30 sz_30 rfl (hS3.at 0 rfl) rfl)) hS3 fun ac52 hf58 => ?_
    refine any_val (i := 11) (v := .agg #[.int .i64 n0, .int .i64 n1, .int .i64 n2]) hf58 rfl rfl rfl rfl rfl rfl (fun _ _ _ h => h) (by kernel_rfl) (by kernel_rfl) (by kernel_rfl) (fun wd9 hS3 => (r_loadW ag_30 sz_30 rfl (hS3.at 0 rfl) rfl)) hS3 fun ac53 hf59 => ?_
    refine any_one (i := 10) (by kernel_rfl) ?_
    refine (op_pure hf59 rfl rfl rfl rfl ca_12 (with_pur n0 n1 n2 0 n0l n0r n1l n1r n2l n2r (by decide) (by decide)) hI15 fun ac54 wd10 hI16 hf60 => ⟨?_, ?_⟩)
    · exact (Has.cons (hI16.at 0 rfl) Has.nil)
    have hS4 : Has [(b1, #[.int .i64 n0, .int .i64 n1, .int .i64 n2], 30)] _ := (Has.cons (hI16.at 0 rfl) Has.nil)
    refine any_val (i := 12) (v := .bool (eqA (#[.int .i64 (moreF n0 0), .int .i64 (moreF n1 0), .int .i64 (moreF n2 0)]) (#[.int .i64 n0, .int .i64 n1, .int .i64 n2]))) hf60 rfl rfl rfl rfl rfl rfl (fun _ _ _ h => h) (by kernel_rfl) (by kernel_rfl) (by kernel_rfl) (fun wd10 hS4 => (r_eqA sh_30 kt_30 rw_30 rfl zk_30 eg_30 rfl rfl ⟨⟨_, rfl, (wf_i64 (moreF_range n0l n0r (by decide) (by decide)).1 (moreF_range n0l n0r (by decide) (by decide)).2)⟩, ⟨_, rfl, (wf_i64 (moreF_range n1l n1r (by decide) (by decide)).1 (moreF_range n1l n1r (by decide) (by decide)).2)⟩, ⟨_, rfl, (wf_i64 (moreF_range n2l n2r (by decide) (by decide)).1 (moreF_range n2l n2r (by decide) (by decide)).2)⟩, trivial⟩ ⟨⟨_, rfl, (wf_i64 n0l n0r)⟩, ⟨_, rfl, (wf_i64 n1l n1r)⟩, ⟨_, rfl, (wf_i64 n2l n2r)⟩, trivial⟩)) hS4 fun ac55 hf61 => ?_
    refine any_val (i := 13) (v := .bool (eqA (#[.int .i64 (moreF n0 0), .int .i64 (moreF n1 0), .int .i64 (moreF n2 0)]) (#[.int .i64 n0, .int .i64 n1, .int .i64 n2]))) hf61 rfl rfl rfl rfl rfl rfl (fun _ _ _ h => h) (by kernel_rfl) (by kernel_rfl) (by kernel_rfl) (fun wd10 hS4 => (r_pickT rfl rfl)) hS4 fun ac56 hf62 => ?_
    refine any_val (i := 14) (v := .bool (eqA (#[.int .i64 (moreF n0 0), .int .i64 (moreF n1 0), .int .i64 (moreF n2 0)]) (#[.int .i64 n0, .int .i64 n1, .int .i64 n2]))) hf62 rfl rfl rfl rfl rfl rfl (fun _ _ _ h => h) (by kernel_rfl) (by kernel_rfl) (by kernel_rfl) (fun wd10 hS4 => (r_move rfl)) hS4 fun ac57 hf63 => ?_
    have hf64 := hf63.know 59 (u := .bool true) rfl (congrArg Value.bool (law7_57 (by simpa using c20_1 : fits5 n0 n1 n2 x y = true)))
    refine any_val (i := 15) (v := .agg #[.int .i64 n0, .int .i64 n1, .int .i64 n2]) hf64 rfl rfl rfl rfl rfl rfl (fun _ _ _ h => h) (by kernel_rfl) (by kernel_rfl) (by kernel_rfl) (fun wd10 hS4 => (r_loadW ag_30 sz_30 rfl (hS4.at 0 rfl) rfl)) hS4 fun ac58 hf65 => ?_
    refine any_val (i := 16) (v := .int .i64 x) hf65 rfl rfl rfl rfl rfl rfl (fun _ _ _ h => h) (by kernel_rfl) (by kernel_rfl) (by kernel_rfl) (fun wd10 hS4 => (r_move rfl)) hS4 fun ac59 hf66 => ?_
    refine any_val (i := 18) (v := .int .i64 y) hf66 rfl rfl rfl rfl rfl rfl (fun _ _ _ h => h) (by kernel_rfl) (by kernel_rfl) (by kernel_rfl) (fun wd10 hS4 => (r_move rfl)) hS4 fun ac60 hf67 => ?_
    refine any_val (i := 20) (v := .agg #[.int .i64 n0, .int .i64 n1, .int .i64 n2]) hf67 rfl rfl rfl rfl rfl rfl (fun _ _ _ h => h) (by kernel_rfl) (by kernel_rfl) (by kernel_rfl) (fun wd10 hS4 => (r_loadW ag_30 sz_30 rfl (hS4.at 0 rfl) rfl)) hS4 fun ac61 hf68 => ?_
    refine any_val (i := 21) (v := .int .i64 x) hf68 rfl rfl rfl rfl rfl rfl (fun _ _ _ h => h) (by kernel_rfl) (by kernel_rfl) (by kernel_rfl) (fun wd10 hS4 => (r_move rfl)) hS4 fun ac62 hf69 => ?_
    refine any_val (i := 22) (v := .int .i64 y) hf69 rfl rfl rfl rfl rfl rfl (fun _ _ _ h => h) (by kernel_rfl) (by kernel_rfl) (by kernel_rfl) (fun wd10 hS4 => (r_move rfl)) hS4 fun ac63 hf70 => ?_
    refine any_val (i := 23) (v := .int .i64 (x + y)) hf70 rfl rfl rfl rfl rfl rfl (fun _ _ _ h => h) (by kernel_rfl) (by kernel_rfl) (by kernel_rfl) (fun wd10 hS4 => (r_add (c := (x + y)) rfl rfl (wrap_i64 (law7_add (by simpa using c20_1 : fits5 n0 n1 n2 x y = true)).1 (law7_add (by simpa using c20_1 : fits5 n0 n1 n2 x y = true)).2))) hS4 fun ac64 hf71 => ?_
    refine any_one (i := 17) (by kernel_rfl) ?_
    refine (op_pure hf71 rfl rfl rfl rfl ca_12 (with_pur n0 n1 n2 x n0l n0r n1l n1r n2l n2r xl xr) hI16 fun ac65 wd11 hI17 hf72 => ⟨?_, ?_⟩)
    · exact (Has.cons (hI17.at 0 rfl) Has.nil)
    have hS5 : Has [(b1, #[.int .i64 n0, .int .i64 n1, .int .i64 n2], 30)] _ := (Has.cons (hI17.at 0 rfl) Has.nil)
    refine any_one (i := 19) (by kernel_rfl) ?_
    refine (op_pure hf72 rfl rfl rfl rfl ca_12 (with_pur (moreF n0 x) (moreF n1 x) (moreF n2 x) y (moreF_range n0l n0r xl xr).1 (moreF_range n0l n0r xl xr).2 (moreF_range n1l n1r xl xr).1 (moreF_range n1l n1r xl xr).2 (moreF_range n2l n2r xl xr).1 (moreF_range n2l n2r xl xr).2 yl yr) hI17 fun ac66 wd12 hI18 hf73 => ⟨?_, ?_⟩)
    · exact (Has.cons (hI18.at 0 rfl) Has.nil)
    have hS6 : Has [(b1, #[.int .i64 n0, .int .i64 n1, .int .i64 n2], 30)] _ := (Has.cons (hI18.at 0 rfl) Has.nil)
    refine any_one (i := 24) (by kernel_rfl) ?_
    refine (op_pure hf73 rfl rfl rfl rfl ca_12 (with_pur n0 n1 n2 (x + y) n0l n0r n1l n1r n2l n2r (law7_add (by simpa using c20_1 : fits5 n0 n1 n2 x y = true)).1 (law7_add (by simpa using c20_1 : fits5 n0 n1 n2 x y = true)).2) hI18 fun ac67 wd13 hI19 hf74 => ⟨?_, ?_⟩)
    · exact (Has.cons (hI19.at 0 rfl) Has.nil)
    have hS7 : Has [(b1, #[.int .i64 n0, .int .i64 n1, .int .i64 n2], 30)] _ := (Has.cons (hI19.at 0 rfl) Has.nil)
    refine any_val (i := 25) (v := .bool (eqA (#[.int .i64 (moreF (moreF n0 x) y), .int .i64 (moreF (moreF n1 x) y), .int .i64 (moreF (moreF n2 x) y)]) (#[.int .i64 (moreF n0 (x + y)), .int .i64 (moreF n1 (x + y)), .int .i64 (moreF n2 (x + y))]))) hf74 rfl rfl rfl rfl rfl rfl (fun _ _ _ h => h) (by kernel_rfl) (by kernel_rfl) (by kernel_rfl) (fun wd13 hS7 => (r_eqA sh_30 kt_30 rw_30 rfl zk_30 eg_30 rfl rfl ⟨⟨_, rfl, (wf_i64 (moreF_range (moreF_range n0l n0r xl xr).1 (moreF_range n0l n0r xl xr).2 yl yr).1 (moreF_range (moreF_range n0l n0r xl xr).1 (moreF_range n0l n0r xl xr).2 yl yr).2)⟩, ⟨_, rfl, (wf_i64 (moreF_range (moreF_range n1l n1r xl xr).1 (moreF_range n1l n1r xl xr).2 yl yr).1 (moreF_range (moreF_range n1l n1r xl xr).1 (moreF_range n1l n1r xl xr).2 yl yr).2)⟩, ⟨_, rfl, (wf_i64 (moreF_range (moreF_range n2l n2r xl xr).1 (moreF_range n2l n2r xl xr).2 yl yr).1 (moreF_range (moreF_range n2l n2r xl xr).1 (moreF_range n2l n2r xl xr).2 yl yr).2)⟩, trivial⟩ ⟨⟨_, rfl, (wf_i64 (moreF_range n0l n0r (law7_add (by simpa using c20_1 : fits5 n0 n1 n2 x y = true)).1 (law7_add (by simpa using c20_1 : fits5 n0 n1 n2 x y = true)).2).1 (moreF_range n0l n0r (law7_add (by simpa using c20_1 : fits5 n0 n1 n2 x y = true)).1 (law7_add (by simpa using c20_1 : fits5 n0 n1 n2 x y = true)).2).2)⟩, ⟨_, rfl, (wf_i64 (moreF_range n1l n1r (law7_add (by simpa using c20_1 : fits5 n0 n1 n2 x y = true)).1 (law7_add (by simpa using c20_1 : fits5 n0 n1 n2 x y = true)).2).1 (moreF_range n1l n1r (law7_add (by simpa using c20_1 : fits5 n0 n1 n2 x y = true)).1 (law7_add (by simpa using c20_1 : fits5 n0 n1 n2 x y = true)).2).2)⟩, ⟨_, rfl, (wf_i64 (moreF_range n2l n2r (law7_add (by simpa using c20_1 : fits5 n0 n1 n2 x y = true)).1 (law7_add (by simpa using c20_1 : fits5 n0 n1 n2 x y = true)).2).1 (moreF_range n2l n2r (law7_add (by simpa using c20_1 : fits5 n0 n1 n2 x y = true)).1 (law7_add (by simpa using c20_1 : fits5 n0 n1 n2 x y = true)).2).2)⟩, trivial⟩)) hS7 fun ac68 hf75 => ?_
    refine any_val (i := 26) (v := .bool (eqA (#[.int .i64 (moreF (moreF n0 x) y), .int .i64 (moreF (moreF n1 x) y), .int .i64 (moreF (moreF n2 x) y)]) (#[.int .i64 (moreF n0 (x + y)), .int .i64 (moreF n1 (x + y)), .int .i64 (moreF n2 (x + y))]))) hf75 rfl rfl rfl rfl rfl rfl (fun _ _ _ h => h) (by kernel_rfl) (by kernel_rfl) (by kernel_rfl) (fun wd13 hS7 => (r_pickT rfl rfl)) hS7 fun ac69 hf76 => ?_
    refine any_val (i := 27) (v := .bool (eqA (#[.int .i64 (moreF (moreF n0 x) y), .int .i64 (moreF (moreF n1 x) y), .int .i64 (moreF (moreF n2 x) y)]) (#[.int .i64 (moreF n0 (x + y)), .int .i64 (moreF n1 (x + y)), .int .i64 (moreF n2 (x + y))]))) hf76 rfl rfl rfl rfl rfl rfl (fun _ _ _ h => h) (by kernel_rfl) (by kernel_rfl) (by kernel_rfl) (fun wd13 hS7 => (r_move rfl)) hS7 fun ac70 hf77 => ?_
    have hf78 := hf77.know 72 (u := .bool true) rfl (congrArg Value.bool (law7_70 (by simpa using c20_1 : fits5 n0 n1 n2 x y = true)))
    refine any_one (i := 28) (by kernel_rfl) ?_
    refine (op_pure hf78 rfl rfl rfl rfl ca_16 awake_pur hI19 fun ac71 wd14 hI20 hf79 => ⟨?_, ?_⟩)
    · exact (Has.cons (hI20.at 0 rfl) Has.nil)
    have hS8 : Has [(b1, #[.int .i64 n0, .int .i64 n1, .int .i64 n2], 30)] _ := (Has.cons (hI20.at 0 rfl) Has.nil)
    refine any_val (i := 29) (v := .bool true) hf79 rfl rfl rfl rfl rfl rfl (fun _ _ _ h => h) (by kernel_rfl) (by kernel_rfl) (by kernel_rfl) (fun wd14 hS8 => (r_pickT rfl rfl)) hS8 fun ac72 hf80 => ?_
    refine any_val (i := 30) (v := .bool true) hf80 rfl rfl rfl rfl rfl rfl (fun _ _ _ h => h) (by kernel_rfl) (by kernel_rfl) (by kernel_rfl) (fun wd14 hS8 => (r_assign rfl)) hS8 fun ac73 hf81 => ?_
    refine any_end (by kernel_rfl) ?_
    clear hf16 hI6 ac16 hf47 ac43 hf48 ac44 hf49 ac45 hf50 ac46 hf51 ac47 wd3 hI13 hf52 hS1 ac48 wd8 hI14 hf53 hS2 ac49 hf54 ac50 hf55 hf56 ac51 hf57 ac52 hf58 ac53 wd9 hI15 hf59 hS3 ac54 hf60 ac55 hf61 ac56 hf62 hf63 ac57 hf64 ac58 hf65 ac59 hf66 ac60 hf67 ac61 hf68 ac62 hf69 ac63 hf70 ac64 wd10 hI16 hf71 hS4 ac65 wd11 hI17 hf72 hS5 ac66 wd12 hI18 hf73 hS6 ac67 hf74 ac68 hf75 ac69 hf76 hf77 ac70 wd13 hI19 hf78 hS7 ac71 hf79 ac72 hf80 hS8
    refine then_normal ?_
    refine wp_ret ?_
    refine post1 rfl hf81 rfl ⟨?_, hI20.done (fresh_keys (ks := [b1, b2]) rfl (fk_cons hb1 (fk_cons hb2 fk_nil)))⟩
    rfl
end Go.Proofs.Ytnajiccihfdggaa
