/-
  The walk of DrrNone.
-/
import Derived.Test.YtjelaoblpchmmaaPlain4
namespace Go.Proofs.Ytjelaoblpchmmaa
set_option linter.unusedVariables false
set_option linter.unusedSimpArgs false
set_option maxRecDepth 100000
open Go.RowKit
set_option maxHeartbeats 8000000 in
theorem drrNone_walk {f credit : Int} {w : World}  : Calls Try.prog 4 [.int .i64 f, .int .i64 credit].toArray w fun e w' => e = .returned (.bool true) ∧ Inv w [] w' := by
  have hI1 := Inv.start w
  refine enter (n := 142) Try.func4 rfl rfl rfl ?_
  intro ac1 hf1
  refine code_seq ?_
  refine seq_start (l := [0]) rfl ?_
  refine seq_one (op_val (v := .bool false) hf1 rfl rfl rfl rfl rfl rfl (r_assign rfl) fun ac2 hf2 => ?_)
  refine seq_end ?_
  clear ac1 hf1
  refine then_normal ?_
  refine code_seq ?_
  refine code_seq ?_
  refine seq_start (l := [0, 1, 2, 3, 4]) rfl ?_
  refine seq_one (op_val (v := .agg #[.pointer none, .slice none 0 0, .int .i64 0]) hf2 rfl rfl rfl rfl rfl rfl (r_build (v := .agg #[.pointer none, .slice none 0 0, .int .i64 0]) rfl (fun _ => by kernel_rfl)) fun ac3 hf3 => ?_)
  refine seq_one (op_box hf3 rfl rfl rfl rfl hI1 fun ac4 b1 wd1 hb1 hI2 hf4 => ?_)
  have hI3 : Inv w [(b1, #[.pointer none, .slice none 0 0, .int .i64 0], 45)] wd1 := hI2
  refine seq_one (op_bslice (s := 24) (cells := #[.pointer none, .pointer (some ⟨b1, 0, none⟩)]) hf4 rfl rfl rfl rfl rfl (fun _ => by kernel_rfl) hI3 fun ac5 b2 wd2 hb2 hI4 hf5 => ?_)
  have hI5 : Inv w [(b1, #[.pointer none, .slice none 0 0, .int .i64 0], 45), (b2, #[.pointer none, .pointer (some ⟨b1, 0, none⟩)], 24)] wd2 := hI4
  refine seq_one (op_val (v := .int .i64 2) hf5 rfl rfl rfl rfl rfl rfl (r_len sl_46 rfl) fun ac6 hf6 => ?_)
  refine seq_one (op_val (v := .int .i64 0) hf6 rfl rfl rfl rfl rfl rfl (r_move rfl) fun ac7 hf7 => ?_)
  refine seq_end ?_
  clear ac2 hf2 ac3 hI1 hf3 hI2 ac4 wd1 hI3 hf4 hI4 ac5 hf5 ac6 hf6
  refine then_normal ?_
  refine wp_block ?_
  refine wp_loop_rounds 4 ?_
  refine rounds_go ?_
  refine code_seq ?_
  refine seq_start (l := [0]) rfl ?_
  refine seq_one (op_val (v := .bool true) hf7 rfl rfl rfl rfl rfl rfl (r_lssC rfl rfl (by decide)) fun ac8 hf8 => ?_)
  refine seq_end ?_
  clear ac7 hf7
  refine then_normal ?_
  refine code_seq ?_
  refine code_if_true hf8 rfl ?_
  refine wp_skip ?_
  refine then_normal ?_
  refine code_seq ?_
  refine wp_block ?_
  refine code_seq ?_
  refine seq_start (l := [0, 1, 2]) rfl ?_
  refine seq_one (op_val (v := .pointer (some ⟨b2, 0, none⟩)) hf8 rfl rfl rfl rfl rfl rfl (r_indexAddrS (i := 0) sl_46 rfl rfl rfl (by decide) rfl) fun ac9 hf9 => ?_)
  refine seq_one (op_val (v := .pointer none) hf9 rfl rfl rfl rfl rfl rfl (r_load ag_24 rfl (hI5.at 1 rfl) rfl) fun ac10 hf10 => ?_)
  refine seq_one (op_val (v := .pointer none) hf10 rfl rfl rfl rfl rfl rfl (r_assign rfl) fun ac11 hf11 => ?_)
  refine seq_end ?_
  clear ac8 hf8 ac9 hf9 ac10 hf10
  refine then_normal ?_
  refine code_seq ?_
  refine seq_start (l := [0, 1, 2, 3, 4, 5, 6, 7, 8]) rfl ?_
  refine seq_one (op_val (v := .pointer none) hf11 rfl rfl rfl rfl rfl rfl (r_move rfl) fun ac12 hf12 => ?_)
  refine seq_one (op_pure hf12 rfl rfl rfl rfl ca_20 (rhead_nil) hI5 fun ac13 wd3 hI6 hf13 => ?_)
  refine seq_one (op_val (v := .tuple #[.int .i64 0, .int .i64 0, .bool false]) hf13 rfl rfl rfl rfl rfl rfl (r_move rfl) fun ac14 hf14 => ?_)
  refine seq_one (op_val (v := .int .i64 0) hf14 rfl rfl rfl rfl rfl rfl (r_extract rfl rfl) fun ac15 hf15 => ?_)
  refine seq_one (op_val (v := .int .i64 0) hf15 rfl rfl rfl rfl rfl rfl (r_extract rfl rfl) fun ac16 hf16 => ?_)
  refine seq_one (op_val (v := .bool false) hf16 rfl rfl rfl rfl rfl rfl (r_extract rfl rfl) fun ac17 hf17 => ?_)
  refine seq_one (op_val (v := .int .i64 0) hf17 rfl rfl rfl rfl rfl rfl (r_assign rfl) fun ac18 hf18 => ?_)
  refine seq_one (op_val (v := .int .i64 0) hf18 rfl rfl rfl rfl rfl rfl (r_assign rfl) fun ac19 hf19 => ?_)
  refine seq_one (op_val (v := .bool false) hf19 rfl rfl rfl rfl rfl rfl (r_assign rfl) fun ac20 hf20 => ?_)
  refine seq_end ?_
  clear ac11 hf11 ac12 wd2 hI5 hf12 ac13 hf13 ac14 hf14 ac15 hf15 ac16 hf16 ac17 hf17 ac18 hf18 ac19 hf19
  refine then_normal ?_
  refine code_seq ?_
  refine seq_start (l := [0, 1, 2, 3, 4, 5, 6, 7, 8]) rfl ?_
  refine seq_one (op_val (v := .pointer none) hf20 rfl rfl rfl rfl rfl rfl (r_move rfl) fun ac21 hf21 => ?_)
  refine seq_one (op_pure hf21 rfl rfl rfl rfl ca_18 (rleave_nil) hI6 fun ac22 wd4 hI7 hf22 => ?_)
  refine seq_one (op_val (v := .tuple #[.int .i64 0, .int .i64 0, .bool false]) hf22 rfl rfl rfl rfl rfl rfl (r_move rfl) fun ac23 hf23 => ?_)
  refine seq_one (op_val (v := .int .i64 0) hf23 rfl rfl rfl rfl rfl rfl (r_extract rfl rfl) fun ac24 hf24 => ?_)
  refine seq_one (op_val (v := .int .i64 0) hf24 rfl rfl rfl rfl rfl rfl (r_extract rfl rfl) fun ac25 hf25 => ?_)
  refine seq_one (op_val (v := .bool false) hf25 rfl rfl rfl rfl rfl rfl (r_extract rfl rfl) fun ac26 hf26 => ?_)
  refine seq_one (op_val (v := .int .i64 0) hf26 rfl rfl rfl rfl rfl rfl (r_assign rfl) fun ac27 hf27 => ?_)
  refine seq_one (op_val (v := .int .i64 0) hf27 rfl rfl rfl rfl rfl rfl (r_assign rfl) fun ac28 hf28 => ?_)
  refine seq_one (op_val (v := .bool false) hf28 rfl rfl rfl rfl rfl rfl (r_assign rfl) fun ac29 hf29 => ?_)
  refine seq_end ?_
  clear ac20 hf20 ac21 wd3 hI6 hf21 ac22 hf22 ac23 hf23 ac24 hf24 ac25 hf25 ac26 hf26 ac27 hf27 ac28 hf28
  refine then_normal ?_
  refine code_seq ?_
  refine seq_start (l := [0, 1, 2, 3, 4, 5, 6, 7, 8]) rfl ?_
  refine seq_one (op_val (v := .pointer none) hf29 rfl rfl rfl rfl rfl rfl (r_move rfl) fun ac30 hf30 => ?_)
  refine seq_one (op_pure hf30 rfl rfl rfl rfl ca_21 (ridle_nil) hI7 fun ac31 wd5 hI8 hf31 => ?_)
  refine seq_one (op_val (v := .tuple #[.int .i64 0, .bool false, .bool false]) hf31 rfl rfl rfl rfl rfl rfl (r_move rfl) fun ac32 hf32 => ?_)
  refine seq_one (op_val (v := .int .i64 0) hf32 rfl rfl rfl rfl rfl rfl (r_extract rfl rfl) fun ac33 hf33 => ?_)
  refine seq_one (op_val (v := .bool false) hf33 rfl rfl rfl rfl rfl rfl (r_extract rfl rfl) fun ac34 hf34 => ?_)
  refine seq_one (op_val (v := .bool false) hf34 rfl rfl rfl rfl rfl rfl (r_extract rfl rfl) fun ac35 hf35 => ?_)
  refine seq_one (op_val (v := .int .i64 0) hf35 rfl rfl rfl rfl rfl rfl (r_assign rfl) fun ac36 hf36 => ?_)
  refine seq_one (op_val (v := .bool false) hf36 rfl rfl rfl rfl rfl rfl (r_assign rfl) fun ac37 hf37 => ?_)
  refine seq_one (op_val (v := .bool false) hf37 rfl rfl rfl rfl rfl rfl (r_assign rfl) fun ac38 hf38 => ?_)
  refine seq_end ?_
  clear ac29 hf29 ac30 wd4 hI7 hf30 ac31 hf31 ac32 hf32 ac33 hf33 ac34 hf34 ac35 hf35 ac36 hf36 ac37 hf37
  refine then_normal ?_
  refine code_seq ?_
  refine seq_start (l := [0, 1, 2, 3, 4, 5, 6, 7]) rfl ?_
  refine seq_one (op_val (v := .pointer none) hf38 rfl rfl rfl rfl rfl rfl (r_move rfl) fun ac39 hf39 => ?_)
  refine seq_one (op_val (v := .int .i64 f) hf39 rfl rfl rfl rfl rfl rfl (r_move rfl) fun ac40 hf40 => ?_)
  refine seq_one (op_pure hf40 rfl rfl rfl rfl ca_17 (rcredit_nil f) hI8 fun ac41 wd6 hI9 hf41 => ?_)
  refine seq_one (op_val (v := .tuple #[.int .i64 0, .bool false]) hf41 rfl rfl rfl rfl rfl rfl (r_move rfl) fun ac42 hf42 => ?_)
  refine seq_one (op_val (v := .int .i64 0) hf42 rfl rfl rfl rfl rfl rfl (r_extract rfl rfl) fun ac43 hf43 => ?_)
  refine seq_one (op_val (v := .bool false) hf43 rfl rfl rfl rfl rfl rfl (r_extract rfl rfl) fun ac44 hf44 => ?_)
  refine seq_one (op_val (v := .int .i64 0) hf44 rfl rfl rfl rfl rfl rfl (r_assign rfl) fun ac45 hf45 => ?_)
  refine seq_one (op_val (v := .bool false) hf45 rfl rfl rfl rfl rfl rfl (r_assign rfl) fun ac46 hf46 => ?_)
  refine seq_end ?_
  clear ac38 hf38 ac39 hf39 ac40 wd5 hI8 hf40 ac41 hf41 ac42 hf42 ac43 hf43 ac44 hf44 ac45 hf45
  refine then_normal ?_
  refine code_seq ?_
  refine seq_start (l := [0, 1, 2, 3, 4, 5, 6]) rfl ?_
  refine seq_one (op_val (v := .pointer none) hf46 rfl rfl rfl rfl rfl rfl (r_move rfl) fun ac47 hf47 => ?_)
  refine seq_one (op_pure hf47 rfl rfl rfl rfl ca_16 (rlists_nil) hI9 fun ac48 wd7 hI10 hf48 => ?_)
  refine seq_one (op_val (v := .tuple #[.slice none 0 0, .slice none 0 0]) hf48 rfl rfl rfl rfl rfl rfl (r_move rfl) fun ac49 hf49 => ?_)
  refine seq_one (op_val (v := .slice none 0 0) hf49 rfl rfl rfl rfl rfl rfl (r_extract rfl rfl) fun ac50 hf50 => ?_)
  refine seq_one (op_val (v := .slice none 0 0) hf50 rfl rfl rfl rfl rfl rfl (r_extract rfl rfl) fun ac51 hf51 => ?_)
  refine seq_one (op_val (v := .slice none 0 0) hf51 rfl rfl rfl rfl rfl rfl (r_assign rfl) fun ac52 hf52 => ?_)
  refine seq_one (op_val (v := .slice none 0 0) hf52 rfl rfl rfl rfl rfl rfl (r_assign rfl) fun ac53 hf53 => ?_)
  refine seq_end ?_
  clear ac46 hf46 ac47 wd6 hI9 hf47 ac48 hf48 ac49 hf49 ac50 hf50 ac51 hf51 ac52 hf52
  refine then_normal ?_
  refine code_seq ?_
  refine seq_start (l := [0, 1, 2, 3, 4, 5, 6, 7, 8, 9, 10, 11, 12, 13, 14, 15, 16, 17, 18, 19, 20, 21, 22, 23, 24, 25, 26, 27, 28, 29, 30, 31, 32, 33, 34, 35, 36, 37, 38, 39, 40, 41, 42, 43, 44, 45, 46, 47, 48, 49, 50, 51, 52]) rfl ?_
  refine seq_one (op_val (v := .pointer none) hf53 rfl rfl rfl rfl rfl rfl (r_move rfl) fun ac54 hf54 => ?_)
  refine seq_one (op_val (v := .int .i64 f) hf54 rfl rfl rfl rfl rfl rfl (r_move rfl) fun ac55 hf55 => ?_)
  refine seq_one (op_val (v := .int .i64 credit) hf55 rfl rfl rfl rfl rfl rfl (r_move rfl) fun ac56 hf56 => ?_)
  refine seq_one (op_pure hf56 rfl rfl rfl rfl ca_24 (rjoin_nil f credit) hI10 fun ac57 wd8 hI11 hf57 => ?_)
  refine seq_one (op_val (v := .bool false) hf57 rfl rfl rfl rfl rfl rfl (r_neqC rfl rfl (by decide)) fun ac58 hf58 => ?_)
  refine seq_one (op_val (v := .bool false) hf58 rfl rfl rfl rfl rfl rfl (r_move rfl) fun ac59 hf59 => ?_)
  refine seq_one (op_val (v := .pointer none) hf59 rfl rfl rfl rfl rfl rfl (r_move rfl) fun ac60 hf60 => ?_)
  refine seq_one (op_val (v := .int .i64 f) hf60 rfl rfl rfl rfl rfl rfl (r_move rfl) fun ac61 hf61 => ?_)
  refine seq_one (op_val (v := .int .i64 credit) hf61 rfl rfl rfl rfl rfl rfl (r_move rfl) fun ac62 hf62 => ?_)
  refine seq_one (op_pure hf62 rfl rfl rfl rfl ca_25 (rback_nil f credit) hI11 fun ac63 wd9 hI12 hf63 => ?_)
  refine seq_one (op_val (v := .bool false) hf63 rfl rfl rfl rfl rfl rfl (r_neqC rfl rfl (by decide)) fun ac64 hf64 => ?_)
  refine seq_one (op_val (v := .bool false) hf64 rfl rfl rfl rfl rfl rfl (r_pickF rfl rfl) fun ac65 hf65 => ?_)
  refine seq_one (op_val (v := .bool false) hf65 rfl rfl rfl rfl rfl rfl (r_move rfl) fun ac66 hf66 => ?_)
  refine seq_one (op_val (v := .pointer none) hf66 rfl rfl rfl rfl rfl rfl (r_move rfl) fun ac67 hf67 => ?_)
  refine seq_one (op_val (v := .int .i64 credit) hf67 rfl rfl rfl rfl rfl rfl (r_move rfl) fun ac68 hf68 => ?_)
  refine seq_one (op_pure hf68 rfl rfl rfl rfl ca_22 (rset_nil credit) hI12 fun ac69 wd10 hI13 hf69 => ?_)
  refine seq_one (op_val (v := .bool false) hf69 rfl rfl rfl rfl rfl rfl (r_neqC rfl rfl (by decide)) fun ac70 hf70 => ?_)
  refine seq_one (op_val (v := .bool false) hf70 rfl rfl rfl rfl rfl rfl (r_pickF rfl rfl) fun ac71 hf71 => ?_)
  refine seq_one (op_val (v := .bool false) hf71 rfl rfl rfl rfl rfl rfl (r_move rfl) fun ac72 hf72 => ?_)
  refine seq_one (op_val (v := .bool false) hf72 rfl rfl rfl rfl rfl rfl (r_move rfl) fun ac73 hf73 => ?_)
  refine seq_one (op_val (v := .bool false) hf73 rfl rfl rfl rfl rfl rfl (r_pickF rfl rfl) fun ac74 hf74 => ?_)
  refine seq_one (op_val (v := .bool false) hf74 rfl rfl rfl rfl rfl rfl (r_move rfl) fun ac75 hf75 => ?_)
  refine seq_one (op_val (v := .bool false) hf75 rfl rfl rfl rfl rfl rfl (r_move rfl) fun ac76 hf76 => ?_)
  refine seq_one (op_val (v := .bool false) hf76 rfl rfl rfl rfl rfl rfl (r_pickF rfl rfl) fun ac77 hf77 => ?_)
  refine seq_one (op_val (v := .bool false) hf77 rfl rfl rfl rfl rfl rfl (r_move rfl) fun ac78 hf78 => ?_)
  refine seq_one (op_val (v := .bool false) hf78 rfl rfl rfl rfl rfl rfl (r_move rfl) fun ac79 hf79 => ?_)
  refine seq_one (op_val (v := .bool false) hf79 rfl rfl rfl rfl rfl rfl (r_pickF rfl rfl) fun ac80 hf80 => ?_)
  refine seq_one (op_val (v := .bool false) hf80 rfl rfl rfl rfl rfl rfl (r_move rfl) fun ac81 hf81 => ?_)
  refine seq_one (op_val (v := .bool false) hf81 rfl rfl rfl rfl rfl rfl (r_move rfl) fun ac82 hf82 => ?_)
  refine seq_one (op_val (v := .bool false) hf82 rfl rfl rfl rfl rfl rfl (r_pickF rfl rfl) fun ac83 hf83 => ?_)
  refine seq_one (op_val (v := .bool false) hf83 rfl rfl rfl rfl rfl rfl (r_move rfl) fun ac84 hf84 => ?_)
  refine seq_one (op_val (v := .bool false) hf84 rfl rfl rfl rfl rfl rfl (r_move rfl) fun ac85 hf85 => ?_)
  refine seq_one (op_val (v := .bool false) hf85 rfl rfl rfl rfl rfl rfl (r_pickF rfl rfl) fun ac86 hf86 => ?_)
  refine seq_one (op_val (v := .bool false) hf86 rfl rfl rfl rfl rfl rfl (r_move rfl) fun ac87 hf87 => ?_)
  refine seq_one (op_val (v := .int .i64 0) hf87 rfl rfl rfl rfl rfl rfl (r_move rfl) fun ac88 hf88 => ?_)
  refine seq_one (op_val (v := .int .i64 0) hf88 rfl rfl rfl rfl rfl rfl (r_move rfl) fun ac89 hf89 => ?_)
  refine seq_one (op_val (v := .int .i64 0) hf89 rfl rfl rfl rfl rfl rfl (r_add (c := 0) rfl rfl (by rfl)) fun ac90 hf90 => ?_)
  refine seq_one (op_val (v := .int .i64 0) hf90 rfl rfl rfl rfl rfl rfl (r_move rfl) fun ac91 hf91 => ?_)
  refine seq_one (op_val (v := .int .i64 0) hf91 rfl rfl rfl rfl rfl rfl (r_add (c := 0) rfl rfl (by rfl)) fun ac92 hf92 => ?_)
  refine seq_one (op_val (v := .int .i64 0) hf92 rfl rfl rfl rfl rfl rfl (r_move rfl) fun ac93 hf93 => ?_)
  refine seq_one (op_val (v := .int .i64 0) hf93 rfl rfl rfl rfl rfl rfl (r_add (c := 0) rfl rfl (by rfl)) fun ac94 hf94 => ?_)
  refine seq_one (op_val (v := .int .i64 0) hf94 rfl rfl rfl rfl rfl rfl (r_move rfl) fun ac95 hf95 => ?_)
  refine seq_one (op_val (v := .int .i64 0) hf95 rfl rfl rfl rfl rfl rfl (r_add (c := 0) rfl rfl (by rfl)) fun ac96 hf96 => ?_)
  refine seq_one (op_val (v := .int .i64 0) hf96 rfl rfl rfl rfl rfl rfl (r_move rfl) fun ac97 hf97 => ?_)
  refine seq_one (op_val (v := .int .i64 0) hf97 rfl rfl rfl rfl rfl rfl (r_add (c := 0) rfl rfl (by rfl)) fun ac98 hf98 => ?_)
  refine seq_one (op_val (v := .slice none 0 0) hf98 rfl rfl rfl rfl rfl rfl (r_move rfl) fun ac99 hf99 => ?_)
  refine seq_one (op_val (v := .int .i64 0) hf99 rfl rfl rfl rfl rfl rfl (r_len sl_27 rfl) fun ac100 hf100 => ?_)
  refine seq_one (op_val (v := .int .i64 0) hf100 rfl rfl rfl rfl rfl rfl (r_add (c := 0) rfl rfl (by rfl)) fun ac101 hf101 => ?_)
  refine seq_one (op_val (v := .slice none 0 0) hf101 rfl rfl rfl rfl rfl rfl (r_move rfl) fun ac102 hf102 => ?_)
  refine seq_one (op_val (v := .int .i64 0) hf102 rfl rfl rfl rfl rfl rfl (r_len sl_27 rfl) fun ac103 hf103 => ?_)
  refine seq_one (op_val (v := .int .i64 0) hf103 rfl rfl rfl rfl rfl rfl (r_add (c := 0) rfl rfl (by rfl)) fun ac104 hf104 => ?_)
  refine seq_one (op_val (v := .bool false) hf104 rfl rfl rfl rfl rfl rfl (r_neqC rfl rfl (by decide)) fun ac105 hf105 => ?_)
  refine seq_one (op_val (v := .bool false) hf105 rfl rfl rfl rfl rfl rfl (r_pickF rfl rfl) fun ac106 hf106 => ?_)
  refine seq_end ?_
  clear ac53 hf53 ac54 hf54 ac55 hf55 ac56 wd7 hI10 hf56 ac57 hf57 ac58 hf58 ac59 hf59 ac60 hf60 ac61 hf61 ac62 wd8 hI11 hf62 ac63 hf63 ac64 hf64 ac65 hf65 ac66 hf66 ac67 hf67 ac68 wd9 hI12 hf68 ac69 hf69 ac70 hf70 ac71 hf71 ac72 hf72 ac73 hf73 ac74 hf74 ac75 hf75 ac76 hf76 ac77 hf77 ac78 hf78 ac79 hf79 ac80 hf80 ac81 hf81 ac82 hf82 ac83 hf83 ac84 hf84 ac85 hf85 ac86 hf86 ac87 hf87 ac88 hf88 ac89 hf89 ac90 hf90 ac91 hf91 ac92 hf92 ac93 hf93 ac94 hf94 ac95 hf95 ac96 hf96 ac97 hf97 ac98 hf98 ac99 hf99 ac100 hf100 ac101 hf101 ac102 hf102 ac103 hf103 ac104 hf104 ac105 hf105
  refine then_normal ?_
  refine code_if_false hf106 rfl ?_
  refine wp_skip ?_
  refine block_normal ?_
  refine then_normal ?_
  refine seq_start (l := [0, 1]) rfl ?_
  refine seq_one (op_val (v := .int .i64 1) hf106 rfl rfl rfl rfl rfl rfl (r_add (c := 1) rfl rfl (by rfl)) fun ac107 hf107 => ?_)
  refine seq_one (op_val (v := .int .i64 1) hf107 rfl rfl rfl rfl rfl rfl (r_move rfl) fun ac108 hf108 => ?_)
  refine seq_end ?_
  clear ac106 hf106 ac107 hf107
  refine then_normal ?_
  refine rounds_go ?_
  refine code_seq ?_
  refine seq_start (l := [0]) rfl ?_
  refine seq_one (op_val (v := .bool true) hf108 rfl rfl rfl rfl rfl rfl (r_lssC rfl rfl (by decide)) fun ac109 hf109 => ?_)
  refine seq_end ?_
  clear ac108 hf108
  refine then_normal ?_
  refine code_seq ?_
  refine code_if_true hf109 rfl ?_
  refine wp_skip ?_
  refine then_normal ?_
  refine code_seq ?_
  refine wp_block ?_
  refine code_seq ?_
  refine seq_start (l := [0, 1, 2]) rfl ?_
  refine seq_one (op_val (v := .pointer (some ⟨b2, 1, none⟩)) hf109 rfl rfl rfl rfl rfl rfl (r_indexAddrS (i := 1) sl_46 rfl rfl rfl (by decide) rfl) fun ac110 hf110 => ?_)
  refine seq_one (op_val (v := .pointer (some ⟨b1, 0, none⟩)) hf110 rfl rfl rfl rfl rfl rfl (r_load ag_24 rfl (hI13.at 1 rfl) rfl) fun ac111 hf111 => ?_)
  refine seq_one (op_val (v := .pointer (some ⟨b1, 0, none⟩)) hf111 rfl rfl rfl rfl rfl rfl (r_assign rfl) fun ac112 hf112 => ?_)
  refine seq_end ?_
  clear ac109 hf109 ac110 hf110 ac111 hf111
  refine then_normal ?_
  refine code_seq ?_
  refine seq_start (l := [0, 1, 2, 3, 4, 5, 6, 7, 8]) rfl ?_
  refine seq_one (op_val (v := .pointer (some ⟨b1, 0, none⟩)) hf112 rfl rfl rfl rfl rfl rfl (r_move rfl) fun ac113 hf113 => ?_)
  refine seq_one (op_pureW hf113 rfl rfl rfl rfl ca_20 (rhead_zero b1 _ (Has.cons (hI13.at 0 rfl) Has.nil)) hI13 fun ac114 wd11 hI14 hf114 => ?_)
  refine seq_one (op_val (v := .tuple #[.int .i64 0, .int .i64 0, .bool false]) hf114 rfl rfl rfl rfl rfl rfl (r_move rfl) fun ac115 hf115 => ?_)
  refine seq_one (op_val (v := .int .i64 0) hf115 rfl rfl rfl rfl rfl rfl (r_extract rfl rfl) fun ac116 hf116 => ?_)
  refine seq_one (op_val (v := .int .i64 0) hf116 rfl rfl rfl rfl rfl rfl (r_extract rfl rfl) fun ac117 hf117 => ?_)
  refine seq_one (op_val (v := .bool false) hf117 rfl rfl rfl rfl rfl rfl (r_extract rfl rfl) fun ac118 hf118 => ?_)
  refine seq_one (op_val (v := .int .i64 0) hf118 rfl rfl rfl rfl rfl rfl (r_assign rfl) fun ac119 hf119 => ?_)
  refine seq_one (op_val (v := .int .i64 0) hf119 rfl rfl rfl rfl rfl rfl (r_assign rfl) fun ac120 hf120 => ?_)
  refine seq_one (op_val (v := .bool false) hf120 rfl rfl rfl rfl rfl rfl (r_assign rfl) fun ac121 hf121 => ?_)
  refine seq_end ?_
  clear ac112 hf112 ac113 wd10 hI13 hf113 ac114 hf114 ac115 hf115 ac116 hf116 ac117 hf117 ac118 hf118 ac119 hf119 ac120 hf120
  refine then_normal ?_
  refine code_seq ?_
  refine seq_start (l := [0, 1, 2, 3, 4, 5, 6, 7, 8]) rfl ?_
  refine seq_one (op_val (v := .pointer (some ⟨b1, 0, none⟩)) hf121 rfl rfl rfl rfl rfl rfl (r_move rfl) fun ac122 hf122 => ?_)
  refine seq_one (op_pureW hf122 rfl rfl rfl rfl ca_18 (rleave_zero b1 _ (Has.cons (hI14.at 0 rfl) Has.nil)) hI14 fun ac123 wd12 hI15 hf123 => ?_)
  refine seq_one (op_val (v := .tuple #[.int .i64 0, .int .i64 0, .bool false]) hf123 rfl rfl rfl rfl rfl rfl (r_move rfl) fun ac124 hf124 => ?_)
  refine seq_one (op_val (v := .int .i64 0) hf124 rfl rfl rfl rfl rfl rfl (r_extract rfl rfl) fun ac125 hf125 => ?_)
  refine seq_one (op_val (v := .int .i64 0) hf125 rfl rfl rfl rfl rfl rfl (r_extract rfl rfl) fun ac126 hf126 => ?_)
  refine seq_one (op_val (v := .bool false) hf126 rfl rfl rfl rfl rfl rfl (r_extract rfl rfl) fun ac127 hf127 => ?_)
  refine seq_one (op_val (v := .int .i64 0) hf127 rfl rfl rfl rfl rfl rfl (r_assign rfl) fun ac128 hf128 => ?_)
  refine seq_one (op_val (v := .int .i64 0) hf128 rfl rfl rfl rfl rfl rfl (r_assign rfl) fun ac129 hf129 => ?_)
  refine seq_one (op_val (v := .bool false) hf129 rfl rfl rfl rfl rfl rfl (r_assign rfl) fun ac130 hf130 => ?_)
  refine seq_end ?_
  clear ac121 hf121 ac122 wd11 hI14 hf122 ac123 hf123 ac124 hf124 ac125 hf125 ac126 hf126 ac127 hf127 ac128 hf128 ac129 hf129
  refine then_normal ?_
  refine code_seq ?_
  refine seq_start (l := [0, 1, 2, 3, 4, 5, 6, 7, 8]) rfl ?_
  refine seq_one (op_val (v := .pointer (some ⟨b1, 0, none⟩)) hf130 rfl rfl rfl rfl rfl rfl (r_move rfl) fun ac131 hf131 => ?_)
  refine seq_one (op_pureW hf131 rfl rfl rfl rfl ca_21 (ridle_zero b1 _ (Has.cons (hI15.at 0 rfl) Has.nil)) hI15 fun ac132 wd13 hI16 hf132 => ?_)
  refine seq_one (op_val (v := .tuple #[.int .i64 0, .bool false, .bool false]) hf132 rfl rfl rfl rfl rfl rfl (r_move rfl) fun ac133 hf133 => ?_)
  refine seq_one (op_val (v := .int .i64 0) hf133 rfl rfl rfl rfl rfl rfl (r_extract rfl rfl) fun ac134 hf134 => ?_)
  refine seq_one (op_val (v := .bool false) hf134 rfl rfl rfl rfl rfl rfl (r_extract rfl rfl) fun ac135 hf135 => ?_)
  refine seq_one (op_val (v := .bool false) hf135 rfl rfl rfl rfl rfl rfl (r_extract rfl rfl) fun ac136 hf136 => ?_)
  refine seq_one (op_val (v := .int .i64 0) hf136 rfl rfl rfl rfl rfl rfl (r_assign rfl) fun ac137 hf137 => ?_)
  refine seq_one (op_val (v := .bool false) hf137 rfl rfl rfl rfl rfl rfl (r_assign rfl) fun ac138 hf138 => ?_)
  refine seq_one (op_val (v := .bool false) hf138 rfl rfl rfl rfl rfl rfl (r_assign rfl) fun ac139 hf139 => ?_)
  refine seq_end ?_
  clear ac130 hf130 ac131 wd12 hI15 hf131 ac132 hf132 ac133 hf133 ac134 hf134 ac135 hf135 ac136 hf136 ac137 hf137 ac138 hf138
  refine then_normal ?_
  refine code_seq ?_
  refine seq_start (l := [0, 1, 2, 3, 4, 5, 6, 7]) rfl ?_
  refine seq_one (op_val (v := .pointer (some ⟨b1, 0, none⟩)) hf139 rfl rfl rfl rfl rfl rfl (r_move rfl) fun ac140 hf140 => ?_)
  refine seq_one (op_val (v := .int .i64 f) hf140 rfl rfl rfl rfl rfl rfl (r_move rfl) fun ac141 hf141 => ?_)
  refine seq_one (op_pureW hf141 rfl rfl rfl rfl ca_17 (rcredit_zero f b1 _ (Has.cons (hI16.at 0 rfl) Has.nil)) hI16 fun ac142 wd14 hI17 hf142 => ?_)
  refine seq_one (op_val (v := .tuple #[.int .i64 0, .bool false]) hf142 rfl rfl rfl rfl rfl rfl (r_move rfl) fun ac143 hf143 => ?_)
  refine seq_one (op_val (v := .int .i64 0) hf143 rfl rfl rfl rfl rfl rfl (r_extract rfl rfl) fun ac144 hf144 => ?_)
  refine seq_one (op_val (v := .bool false) hf144 rfl rfl rfl rfl rfl rfl (r_extract rfl rfl) fun ac145 hf145 => ?_)
  refine seq_one (op_val (v := .int .i64 0) hf145 rfl rfl rfl rfl rfl rfl (r_assign rfl) fun ac146 hf146 => ?_)
  refine seq_one (op_val (v := .bool false) hf146 rfl rfl rfl rfl rfl rfl (r_assign rfl) fun ac147 hf147 => ?_)
  refine seq_end ?_
  clear ac139 hf139 ac140 hf140 ac141 wd13 hI16 hf141 ac142 hf142 ac143 hf143 ac144 hf144 ac145 hf145 ac146 hf146
  refine then_normal ?_
  refine code_seq ?_
  refine seq_start (l := [0, 1, 2, 3, 4, 5, 6]) rfl ?_
  refine seq_one (op_val (v := .pointer (some ⟨b1, 0, none⟩)) hf147 rfl rfl rfl rfl rfl rfl (r_move rfl) fun ac148 hf148 => ?_)
  refine seq_one (op_pureW hf148 rfl rfl rfl rfl ca_16 (rlists_zero b1 _ (Has.cons (hI17.at 0 rfl) Has.nil)) hI17 fun ac149 wd15 hI18 hf149 => ?_)
  refine seq_one (op_val (v := .tuple #[.slice none 0 0, .slice none 0 0]) hf149 rfl rfl rfl rfl rfl rfl (r_move rfl) fun ac150 hf150 => ?_)
  refine seq_one (op_val (v := .slice none 0 0) hf150 rfl rfl rfl rfl rfl rfl (r_extract rfl rfl) fun ac151 hf151 => ?_)
  refine seq_one (op_val (v := .slice none 0 0) hf151 rfl rfl rfl rfl rfl rfl (r_extract rfl rfl) fun ac152 hf152 => ?_)
  refine seq_one (op_val (v := .slice none 0 0) hf152 rfl rfl rfl rfl rfl rfl (r_assign rfl) fun ac153 hf153 => ?_)
  refine seq_one (op_val (v := .slice none 0 0) hf153 rfl rfl rfl rfl rfl rfl (r_assign rfl) fun ac154 hf154 => ?_)
  refine seq_end ?_
  clear ac147 hf147 ac148 wd14 hI17 hf148 ac149 hf149 ac150 hf150 ac151 hf151 ac152 hf152 ac153 hf153
  refine then_normal ?_
  refine code_seq ?_
  refine seq_start (l := [0, 1, 2, 3, 4, 5, 6, 7, 8, 9, 10, 11, 12, 13, 14, 15, 16, 17, 18, 19, 20, 21, 22, 23, 24, 25, 26, 27, 28, 29, 30, 31, 32, 33, 34, 35, 36, 37, 38, 39, 40, 41, 42, 43, 44, 45, 46, 47, 48, 49, 50, 51, 52]) rfl ?_
  refine seq_one (op_val (v := .pointer (some ⟨b1, 0, none⟩)) hf154 rfl rfl rfl rfl rfl rfl (r_move rfl) fun ac155 hf155 => ?_)
  refine seq_one (op_val (v := .int .i64 f) hf155 rfl rfl rfl rfl rfl rfl (r_move rfl) fun ac156 hf156 => ?_)
  refine seq_one (op_val (v := .int .i64 credit) hf156 rfl rfl rfl rfl rfl rfl (r_move rfl) fun ac157 hf157 => ?_)
  refine seq_one (op_pureW hf157 rfl rfl rfl rfl ca_24 (rjoin_zero f credit b1 _ (Has.cons (hI18.at 0 rfl) Has.nil)) hI18 fun ac158 wd16 hI19 hf158 => ?_)
  refine seq_one (op_val (v := .bool false) hf158 rfl rfl rfl rfl rfl rfl (r_neqC rfl rfl (by decide)) fun ac159 hf159 => ?_)
  refine seq_one (op_val (v := .bool false) hf159 rfl rfl rfl rfl rfl rfl (r_move rfl) fun ac160 hf160 => ?_)
  refine seq_one (op_val (v := .pointer (some ⟨b1, 0, none⟩)) hf160 rfl rfl rfl rfl rfl rfl (r_move rfl) fun ac161 hf161 => ?_)
  refine seq_one (op_val (v := .int .i64 f) hf161 rfl rfl rfl rfl rfl rfl (r_move rfl) fun ac162 hf162 => ?_)
  refine seq_one (op_val (v := .int .i64 credit) hf162 rfl rfl rfl rfl rfl rfl (r_move rfl) fun ac163 hf163 => ?_)
  refine seq_one (op_pureW hf163 rfl rfl rfl rfl ca_25 (rback_zero f credit b1 _ (Has.cons (hI19.at 0 rfl) Has.nil)) hI19 fun ac164 wd17 hI20 hf164 => ?_)
  refine seq_one (op_val (v := .bool false) hf164 rfl rfl rfl rfl rfl rfl (r_neqC rfl rfl (by decide)) fun ac165 hf165 => ?_)
  refine seq_one (op_val (v := .bool false) hf165 rfl rfl rfl rfl rfl rfl (r_pickF rfl rfl) fun ac166 hf166 => ?_)
  refine seq_one (op_val (v := .bool false) hf166 rfl rfl rfl rfl rfl rfl (r_move rfl) fun ac167 hf167 => ?_)
  refine seq_one (op_val (v := .pointer (some ⟨b1, 0, none⟩)) hf167 rfl rfl rfl rfl rfl rfl (r_move rfl) fun ac168 hf168 => ?_)
  refine seq_one (op_val (v := .int .i64 credit) hf168 rfl rfl rfl rfl rfl rfl (r_move rfl) fun ac169 hf169 => ?_)
  refine seq_one (op_pureW hf169 rfl rfl rfl rfl ca_22 (rset_zero credit b1 _ (Has.cons (hI20.at 0 rfl) Has.nil)) hI20 fun ac170 wd18 hI21 hf170 => ?_)
  refine seq_one (op_val (v := .bool false) hf170 rfl rfl rfl rfl rfl rfl (r_neqC rfl rfl (by decide)) fun ac171 hf171 => ?_)
  refine seq_one (op_val (v := .bool false) hf171 rfl rfl rfl rfl rfl rfl (r_pickF rfl rfl) fun ac172 hf172 => ?_)
  refine seq_one (op_val (v := .bool false) hf172 rfl rfl rfl rfl rfl rfl (r_move rfl) fun ac173 hf173 => ?_)
  refine seq_one (op_val (v := .bool false) hf173 rfl rfl rfl rfl rfl rfl (r_move rfl) fun ac174 hf174 => ?_)
  refine seq_one (op_val (v := .bool false) hf174 rfl rfl rfl rfl rfl rfl (r_pickF rfl rfl) fun ac175 hf175 => ?_)
  refine seq_one (op_val (v := .bool false) hf175 rfl rfl rfl rfl rfl rfl (r_move rfl) fun ac176 hf176 => ?_)
  refine seq_one (op_val (v := .bool false) hf176 rfl rfl rfl rfl rfl rfl (r_move rfl) fun ac177 hf177 => ?_)
  refine seq_one (op_val (v := .bool false) hf177 rfl rfl rfl rfl rfl rfl (r_pickF rfl rfl) fun ac178 hf178 => ?_)
  refine seq_one (op_val (v := .bool false) hf178 rfl rfl rfl rfl rfl rfl (r_move rfl) fun ac179 hf179 => ?_)
  refine seq_one (op_val (v := .bool false) hf179 rfl rfl rfl rfl rfl rfl (r_move rfl) fun ac180 hf180 => ?_)
  refine seq_one (op_val (v := .bool false) hf180 rfl rfl rfl rfl rfl rfl (r_pickF rfl rfl) fun ac181 hf181 => ?_)
  refine seq_one (op_val (v := .bool false) hf181 rfl rfl rfl rfl rfl rfl (r_move rfl) fun ac182 hf182 => ?_)
  refine seq_one (op_val (v := .bool false) hf182 rfl rfl rfl rfl rfl rfl (r_move rfl) fun ac183 hf183 => ?_)
  refine seq_one (op_val (v := .bool false) hf183 rfl rfl rfl rfl rfl rfl (r_pickF rfl rfl) fun ac184 hf184 => ?_)
  refine seq_one (op_val (v := .bool false) hf184 rfl rfl rfl rfl rfl rfl (r_move rfl) fun ac185 hf185 => ?_)
  refine seq_one (op_val (v := .bool false) hf185 rfl rfl rfl rfl rfl rfl (r_move rfl) fun ac186 hf186 => ?_)
  refine seq_one (op_val (v := .bool false) hf186 rfl rfl rfl rfl rfl rfl (r_pickF rfl rfl) fun ac187 hf187 => ?_)
  refine seq_one (op_val (v := .bool false) hf187 rfl rfl rfl rfl rfl rfl (r_move rfl) fun ac188 hf188 => ?_)
  refine seq_one (op_val (v := .int .i64 0) hf188 rfl rfl rfl rfl rfl rfl (r_move rfl) fun ac189 hf189 => ?_)
  refine seq_one (op_val (v := .int .i64 0) hf189 rfl rfl rfl rfl rfl rfl (r_move rfl) fun ac190 hf190 => ?_)
  refine seq_one (op_val (v := .int .i64 0) hf190 rfl rfl rfl rfl rfl rfl (r_add (c := 0) rfl rfl (by rfl)) fun ac191 hf191 => ?_)
  refine seq_one (op_val (v := .int .i64 0) hf191 rfl rfl rfl rfl rfl rfl (r_move rfl) fun ac192 hf192 => ?_)
  refine seq_one (op_val (v := .int .i64 0) hf192 rfl rfl rfl rfl rfl rfl (r_add (c := 0) rfl rfl (by rfl)) fun ac193 hf193 => ?_)
  refine seq_one (op_val (v := .int .i64 0) hf193 rfl rfl rfl rfl rfl rfl (r_move rfl) fun ac194 hf194 => ?_)
  refine seq_one (op_val (v := .int .i64 0) hf194 rfl rfl rfl rfl rfl rfl (r_add (c := 0) rfl rfl (by rfl)) fun ac195 hf195 => ?_)
  refine seq_one (op_val (v := .int .i64 0) hf195 rfl rfl rfl rfl rfl rfl (r_move rfl) fun ac196 hf196 => ?_)
  refine seq_one (op_val (v := .int .i64 0) hf196 rfl rfl rfl rfl rfl rfl (r_add (c := 0) rfl rfl (by rfl)) fun ac197 hf197 => ?_)
  refine seq_one (op_val (v := .int .i64 0) hf197 rfl rfl rfl rfl rfl rfl (r_move rfl) fun ac198 hf198 => ?_)
  refine seq_one (op_val (v := .int .i64 0) hf198 rfl rfl rfl rfl rfl rfl (r_add (c := 0) rfl rfl (by rfl)) fun ac199 hf199 => ?_)
  refine seq_one (op_val (v := .slice none 0 0) hf199 rfl rfl rfl rfl rfl rfl (r_move rfl) fun ac200 hf200 => ?_)
  refine seq_one (op_val (v := .int .i64 0) hf200 rfl rfl rfl rfl rfl rfl (r_len sl_27 rfl) fun ac201 hf201 => ?_)
  refine seq_one (op_val (v := .int .i64 0) hf201 rfl rfl rfl rfl rfl rfl (r_add (c := 0) rfl rfl (by rfl)) fun ac202 hf202 => ?_)
  refine seq_one (op_val (v := .slice none 0 0) hf202 rfl rfl rfl rfl rfl rfl (r_move rfl) fun ac203 hf203 => ?_)
  refine seq_one (op_val (v := .int .i64 0) hf203 rfl rfl rfl rfl rfl rfl (r_len sl_27 rfl) fun ac204 hf204 => ?_)
  refine seq_one (op_val (v := .int .i64 0) hf204 rfl rfl rfl rfl rfl rfl (r_add (c := 0) rfl rfl (by rfl)) fun ac205 hf205 => ?_)
  refine seq_one (op_val (v := .bool false) hf205 rfl rfl rfl rfl rfl rfl (r_neqC rfl rfl (by decide)) fun ac206 hf206 => ?_)
  refine seq_one (op_val (v := .bool false) hf206 rfl rfl rfl rfl rfl rfl (r_pickF rfl rfl) fun ac207 hf207 => ?_)
  refine seq_end ?_
  clear ac154 hf154 ac155 hf155 ac156 hf156 ac157 wd15 hI18 hf157 ac158 hf158 ac159 hf159 ac160 hf160 ac161 hf161 ac162 hf162 ac163 wd16 hI19 hf163 ac164 hf164 ac165 hf165 ac166 hf166 ac167 hf167 ac168 hf168 ac169 wd17 hI20 hf169 ac170 hf170 ac171 hf171 ac172 hf172 ac173 hf173 ac174 hf174 ac175 hf175 ac176 hf176 ac177 hf177 ac178 hf178 ac179 hf179 ac180 hf180 ac181 hf181 ac182 hf182 ac183 hf183 ac184 hf184 ac185 hf185 ac186 hf186 ac187 hf187 ac188 hf188 ac189 hf189 ac190 hf190 ac191 hf191 ac192 hf192 ac193 hf193 ac194 hf194 ac195 hf195 ac196 hf196 ac197 hf197 ac198 hf198 ac199 hf199 ac200 hf200 ac201 hf201 ac202 hf202 ac203 hf203 ac204 hf204 ac205 hf205 ac206 hf206
  refine then_normal ?_
  refine code_if_false hf207 rfl ?_
  refine wp_skip ?_
  refine block_normal ?_
  refine then_normal ?_
  refine seq_start (l := [0, 1]) rfl ?_
  refine seq_one (op_val (v := .int .i64 2) hf207 rfl rfl rfl rfl rfl rfl (r_add (c := 2) rfl rfl (by rfl)) fun ac208 hf208 => ?_)
  refine seq_one (op_val (v := .int .i64 2) hf208 rfl rfl rfl rfl rfl rfl (r_move rfl) fun ac209 hf209 => ?_)
  refine seq_end ?_
  clear ac207 hf207 ac208 hf208
  refine then_normal ?_
  refine rounds_go ?_
  refine code_seq ?_
  refine seq_start (l := [0]) rfl ?_
  refine seq_one (op_val (v := .bool false) hf209 rfl rfl rfl rfl rfl rfl (r_lssC rfl rfl (by decide)) fun ac210 hf210 => ?_)
  refine seq_end ?_
  clear ac209 hf209
  refine then_normal ?_
  refine code_seq ?_
  refine code_if_false hf210 rfl ?_
  refine wp_exit ?_
  refine then_exit ?_
  refine then_exit ?_
  refine block_here ?_
  refine then_normal ?_
  refine code_seq ?_
  refine seq_start (l := [0, 1, 2, 3, 4, 5]) rfl ?_
  refine seq_one (op_call (R := fun v w' => ∃ lb ob mb cb rc rb, Array.size (World.heap wd18) ≤ lb ∧ Array.size (World.heap wd18) ≤ ob ∧ Array.size (World.heap wd18) ≤ mb ∧ Array.size (World.heap wd18) ≤ cb ∧ Array.size (World.heap wd18) ≤ rc ∧ Array.size (World.heap wd18) ≤ rb ∧ v = .tuple #[.pointer (some ⟨rb, 0, none⟩), .int .i64 0] ∧ Inv wd18 [(lb, arr .i64 ((Ro.new 3 100 (by decide) (by decide) (by decide)).c).lk, 103), (ob, arr .i64 ((Ro.new 3 100 (by decide) (by decide) (by decide)).c).of, 3), (mb, arr .i64 ((Ro.new 3 100 (by decide) (by decide) (by decide)).c).mn, 3), (cb, #[.slice (some ⟨lb, 0, none⟩) (3 + 2) (3 + 2), .slice (some ⟨ob, 0, none⟩) 3 3, .slice (some ⟨mb, 0, none⟩) 2 2], 79), (rc, arr .i64 (Ro.new 3 100 (by decide) (by decide) (by decide)).cr, 3), (rb, #[.pointer (some ⟨cb, 0, none⟩), .slice (some ⟨rc, 0, none⟩) 3 3, .int .i64 ((Ro.new 3 100 (by decide) (by decide) (by decide)).q)], 45)] w') hf210 rfl rfl rfl rfl ca_26 ((newr_walk (N := 3) (q := 100) (by decide) (by decide) (by decide) _).mono fun e w' ⟨lb, ob, mb, cb, rc, rb, h1, h2, h3, h4, h5, h6, h7, h8⟩ => ⟨_, h7, lb, ob, mb, cb, rc, rb, h1, h2, h3, h4, h5, h6, rfl, h8⟩) fun ac211 v wd19 hR hf211 => ?_)
  obtain ⟨b3, b4, b5, b6, b7, b8, hqb3, hqb4, hqb5, hqb6, hqb7, hqb8, rfl, hw8⟩ := hR
  have hb3 := Nat.le_trans hI21.size hqb3
  have hb4 := Nat.le_trans hI21.size hqb4
  have hb5 := Nat.le_trans hI21.size hqb5
  have hb6 := Nat.le_trans hI21.size hqb6
  have hb7 := Nat.le_trans hI21.size hqb7
  have hb8 := Nat.le_trans hI21.size hqb8
  have hI22 : Inv w [(b1, #[.pointer none, .slice none 0 0, .int .i64 0], 45), (b2, #[.pointer none, .pointer (some ⟨b1, 0, none⟩)], 24), (b3, arr .i64 ((Ro.new 3 100 (by decide) (by decide) (by decide)).c).lk, 103), (b4, arr .i64 ((Ro.new 3 100 (by decide) (by decide) (by decide)).c).of, 3), (b5, arr .i64 ((Ro.new 3 100 (by decide) (by decide) (by decide)).c).mn, 3), (b6, #[.slice (some ⟨b3, 0, none⟩) (3 + 2) (3 + 2), .slice (some ⟨b4, 0, none⟩) 3 3, .slice (some ⟨b5, 0, none⟩) 2 2], 79), (b7, arr .i64 (Ro.new 3 100 (by decide) (by decide) (by decide)).cr, 3), (b8, #[.pointer (some ⟨b6, 0, none⟩), .slice (some ⟨b7, 0, none⟩) 3 3, .int .i64 ((Ro.new 3 100 (by decide) (by decide) (by decide)).q)], 45)] _ := hI21.callN hw8 (fk6 hqb3 hqb4 hqb5 hqb6 hqb7 hqb8)
  obtain ⟨r9, er9⟩ : ∃ r : Ro 3, r = (Ro.new 3 100 (by decide) (by decide) (by decide)) := ⟨_, rfl⟩
  rw [← er9] at hI22
  refine seq_one (op_val (v := .tuple #[.pointer (some ⟨b8, 0, none⟩), .int .i64 0]) hf211 rfl rfl rfl rfl rfl rfl (r_move rfl) fun ac212 hf212 => ?_)
  refine seq_one (op_val (v := .pointer (some ⟨b8, 0, none⟩)) hf212 rfl rfl rfl rfl rfl rfl (r_extract rfl rfl) fun ac213 hf213 => ?_)
  refine seq_one (op_val (v := .int .i64 0) hf213 rfl rfl rfl rfl rfl rfl (r_extract rfl rfl) fun ac214 hf214 => ?_)
  refine seq_one (op_val (v := .pointer (some ⟨b8, 0, none⟩)) hf214 rfl rfl rfl rfl rfl rfl (r_assign rfl) fun ac215 hf215 => ?_)
  refine seq_one (op_val (v := .int .i64 0) hf215 rfl rfl rfl rfl rfl rfl (r_assign rfl) fun ac216 hf216 => ?_)
  refine seq_end ?_
  clear ac210 wd18 hf210 hI21 hw8 hqb3 hqb4 hqb5 hqb6 hqb7 hqb8 ac211 hf211 ac212 hf212 ac213 hf213 ac214 hf214 ac215 hf215
  refine then_normal ?_
  refine code_seq ?_
  refine seq_start (l := [0, 1, 2, 3, 4, 5, 6, 7, 8, 9, 10, 11, 12, 13, 14]) rfl ?_
  refine seq_one (op_val (v := .int .i64 f) hf216 rfl rfl rfl rfl rfl rfl (r_move rfl) fun ac217 hf217 => ?_)
  refine seq_one (op_val (v := .bool (decide (f < 0))) hf217 rfl rfl rfl rfl rfl rfl (r_lss rfl rfl) fun ac218 hf218 => ?_)
  refine seq_one (op_val (v := .bool (decide (f < 0))) hf218 rfl rfl rfl rfl rfl rfl (r_move rfl) fun ac219 hf219 => ?_)
  rcases Bool.eq_false_or_eq_true (decide (f < 0) : Bool) with g120_1 | g120_1
  · have hf220 := hf219.know 120 (u := .bool true) rfl (congrArg Value.bool g120_1)
    refine seq_one (op_skip hf220 rfl rfl rfl rfl fun ac220 hf221 => ?_)
    refine seq_one (op_skip hf221 rfl rfl rfl rfl fun ac221 hf222 => ?_)
    refine seq_one (op_val (v := .bool true) hf222 rfl rfl rfl rfl rfl rfl (r_pickT rfl rfl) fun ac222 hf223 => ?_)
    refine seq_one (op_val (v := .bool true) hf223 rfl rfl rfl rfl rfl rfl (r_move rfl) fun ac223 hf224 => ?_)
    refine seq_one (op_skip hf224 rfl rfl rfl rfl fun ac224 hf225 => ?_)
    refine seq_one (op_skip hf225 rfl rfl rfl rfl fun ac225 hf226 => ?_)
    refine seq_one (op_val (v := .bool true) hf226 rfl rfl rfl rfl rfl rfl (r_pickT rfl rfl) fun ac226 hf227 => ?_)
    refine seq_one (op_val (v := .bool true) hf227 rfl rfl rfl rfl rfl rfl (r_move rfl) fun ac227 hf228 => ?_)
    refine seq_one (op_skip hf228 rfl rfl rfl rfl fun ac228 hf229 => ?_)
    refine seq_one (op_skip hf229 rfl rfl rfl rfl fun ac229 hf230 => ?_)
    refine seq_one (op_val (v := .bool true) hf230 rfl rfl rfl rfl rfl rfl (r_pickT rfl rfl) fun ac230 hf231 => ?_)
    refine seq_one (op_val (v := .bool true) hf231 rfl rfl rfl rfl rfl rfl (r_assign rfl) fun ac231 hf232 => ?_)
    refine seq_end ?_
    clear ac216 hf216 ac217 hf217 ac218 hf218 hf219 ac219 hf220 ac220 hf221 ac221 hf222 ac222 hf223 ac223 hf224 ac224 hf225 ac225 hf226 ac226 hf227 ac227 hf228 ac228 hf229 ac229 hf230 ac230 hf231
    refine then_normal ?_
    refine code_seq ?_
    refine seq_start (l := [0, 1, 2, 3, 4, 5, 6, 7, 8, 9, 10]) rfl ?_
    refine seq_one (op_val (v := .pointer (some ⟨b8, 0, none⟩)) hf232 rfl rfl rfl rfl rfl rfl (r_move rfl) fun ac232 hf233 => ?_)
    refine seq_one (op_val (v := .int .i64 f) hf233 rfl rfl rfl rfl rfl rfl (r_move rfl) fun ac233 hf234 => ?_)
    refine seq_one (op_val (v := .int .i64 credit) hf234 rfl rfl rfl rfl rfl rfl (r_move rfl) fun ac234 hf235 => ?_)
    refine seq_one (op_call (R := fun v w' => v = .int .i64 (r9.enterE 0 f credit) ∧ Inv _ [(b3, arr .i64 ((r9.enter 0 f credit).c).lk, 103), (b4, arr .i64 ((r9.enter 0 f credit).c).of, 3), (b5, arr .i64 ((r9.enter 0 f credit).c).mn, 3), (b6, #[.slice (some ⟨b3, 0, none⟩) (3 + 2) (3 + 2), .slice (some ⟨b4, 0, none⟩) 3 3, .slice (some ⟨b5, 0, none⟩) 2 2], 79), (b7, arr .i64 (r9.enter 0 f credit).cr, 3), (b8, #[.pointer (some ⟨b6, 0, none⟩), .slice (some ⟨b7, 0, none⟩) 3 3, .int .i64 ((r9.enter 0 f credit).q)], 45)] w') hf235 rfl rfl rfl rfl ca_24 ((join_any (hI22.nd6 2 rfl rfl rfl rfl rfl rfl) r9 (Has.cons (hI22.at 2 rfl) (Has.cons (hI22.at 3 rfl) (Has.cons (hI22.at 4 rfl) (Has.cons (hI22.at 5 rfl) (Has.cons (hI22.at 6 rfl) (Has.cons (hI22.at 7 rfl) Has.nil)))))) f credit).mono fun _ _ h => ⟨_, h.1, rfl, h.2⟩) fun ac235 v wd20 hR10 hf236 => ?_)
    obtain ⟨rfl, hR10⟩ := hR10
    have hI23 : Inv w [(b1, #[.pointer none, .slice none 0 0, .int .i64 0], 45), (b2, #[.pointer none, .pointer (some ⟨b1, 0, none⟩)], 24), (b3, arr .i64 ((r9.enter 0 f credit).c).lk, 103), (b4, arr .i64 ((r9.enter 0 f credit).c).of, 3), (b5, arr .i64 ((r9.enter 0 f credit).c).mn, 3), (b6, #[.slice (some ⟨b3, 0, none⟩) (3 + 2) (3 + 2), .slice (some ⟨b4, 0, none⟩) 3 3, .slice (some ⟨b5, 0, none⟩) 2 2], 79), (b7, arr .i64 (r9.enter 0 f credit).cr, 3), (b8, #[.pointer (some ⟨b6, 0, none⟩), .slice (some ⟨b7, 0, none⟩) 3 3, .int .i64 ((r9.enter 0 f credit).q)], 45)] _ := Inv.callS (A := [(b1, #[.pointer none, .slice none 0 0, .int .i64 0], 45), (b2, #[.pointer none, .pointer (some ⟨b1, 0, none⟩)], 24)]) (S := [(b3, arr .i64 r9.c.lk, 103), (b4, arr .i64 r9.c.of, 3), (b5, arr .i64 r9.c.mn, 3), (b6, #[.slice (some ⟨b3, 0, none⟩) (3 + 2) (3 + 2), .slice (some ⟨b4, 0, none⟩) 3 3, .slice (some ⟨b5, 0, none⟩) 2 2], 79), (b7, arr .i64 r9.cr, 3), (b8, #[.pointer (some ⟨b6, 0, none⟩), .slice (some ⟨b7, 0, none⟩) 3 3, .int .i64 r9.q], 45)]) (S' := [(b3, arr .i64 ((r9.enter 0 f credit).c).lk, 103), (b4, arr .i64 ((r9.enter 0 f credit).c).of, 3), (b5, arr .i64 ((r9.enter 0 f credit).c).mn, 3), (b6, #[.slice (some ⟨b3, 0, none⟩) (3 + 2) (3 + 2), .slice (some ⟨b4, 0, none⟩) 3 3, .slice (some ⟨b5, 0, none⟩) 2 2], 79), (b7, arr .i64 (r9.enter 0 f credit).cr, 3), (b8, #[.pointer (some ⟨b6, 0, none⟩), .slice (some ⟨b7, 0, none⟩) 3 3, .int .i64 ((r9.enter 0 f credit).q)], 45)]) (L := []) (N := []) hI22 hR10 rfl (fun _ h => by cases h)
    obtain ⟨r11, er11⟩ : ∃ r : Ro 3, r = (r9.enter 0 f credit) := ⟨_, rfl⟩
    rw [← er11] at hI23
    refine seq_one (op_val (v := .bool ((r9.enterE 0 f credit) == 2)) hf236 rfl rfl rfl rfl rfl rfl (r_eql rfl rfl) fun ac236 hf237 => ?_)
    refine seq_one (op_val (v := .bool true) hf237 rfl rfl rfl rfl rfl rfl (r_move rfl) fun ac237 hf238 => ?_)
    refine seq_one (op_val (v := .bool (((r9.enterE 0 f credit) == 2) == true)) hf238 rfl rfl rfl rfl rfl rfl (r_eqB ub_4 rfl rfl) fun ac238 hf239 => ?_)
    refine seq_one (op_val (v := .bool (((r9.enterE 0 f credit) == 2) == true)) hf239 rfl rfl rfl rfl rfl rfl (r_move rfl) fun ac239 hf240 => ?_)
    have hf241 := hf240.know 139 (u := .bool true) rfl (congrArg Value.bool (beq_iff_eq.2 ((Ro.none_last er9).trans (decide_eq_true (by simp only [decide_eq_true_eq, decide_eq_false_iff_not] at g120_1; omega)))))
    refine seq_one (op_pure hf241 rfl rfl rfl rfl ca_23 awake17_pur hI23 fun ac240 wd21 hI24 hf242 => ?_)
    refine seq_one (op_val (v := .bool true) hf242 rfl rfl rfl rfl rfl rfl (r_pickT rfl rfl) fun ac241 hf243 => ?_)
    refine seq_one (op_val (v := .bool true) hf243 rfl rfl rfl rfl rfl rfl (r_assign rfl) fun ac242 hf244 => ?_)
    refine seq_end ?_
    clear ac231 hf232 ac232 hf233 ac233 hf234 ac234 wd19 hf235 hI22 hR10 ac235 hf236 ac236 hf237 ac237 hf238 ac238 hf239 hf240 ac239 wd20 hI23 hf241 ac240 hf242 ac241 hf243
    refine then_normal ?_
    refine wp_ret ?_
    refine post1 rfl hf244 rfl ⟨?_, hI24.done (fresh_keys (ks := [b1, b2, b3, b4, b5, b6, b7, b8]) rfl (fk_cons hb1 (fk_cons hb2 (fk_cons hb3 (fk_cons hb4 (fk_cons hb5 (fk_cons hb6 (fk_cons hb7 (fk_cons hb8 fk_nil)))))))))⟩
    rfl
  · have hf245 := hf219.know 120 (u := .bool false) rfl (congrArg Value.bool g120_1)
    refine seq_one (op_val (v := .int .i64 f) hf245 rfl rfl rfl rfl rfl rfl (r_move rfl) fun ac243 hf246 => ?_)
    refine seq_one (op_val (v := .bool (decide (f > 2))) hf246 rfl rfl rfl rfl rfl rfl (r_gtr rfl rfl) fun ac244 hf247 => ?_)
    refine seq_one (op_val (v := .bool (decide (f > 2))) hf247 rfl rfl rfl rfl rfl rfl (r_pickF rfl rfl) fun ac245 hf248 => ?_)
    refine seq_one (op_val (v := .bool (decide (f > 2))) hf248 rfl rfl rfl rfl rfl rfl (r_move rfl) fun ac246 hf249 => ?_)
    rcases Bool.eq_false_or_eq_true (decide (f > 2) : Bool) with g124_2 | g124_2
    · have hf250 := hf249.know 124 (u := .bool true) rfl (congrArg Value.bool g124_2)
      refine seq_one (op_skip hf250 rfl rfl rfl rfl fun ac247 hf251 => ?_)
      refine seq_one (op_skip hf251 rfl rfl rfl rfl fun ac248 hf252 => ?_)
      refine seq_one (op_val (v := .bool true) hf252 rfl rfl rfl rfl rfl rfl (r_pickT rfl rfl) fun ac249 hf253 => ?_)
      refine seq_one (op_val (v := .bool true) hf253 rfl rfl rfl rfl rfl rfl (r_move rfl) fun ac250 hf254 => ?_)
      refine seq_one (op_skip hf254 rfl rfl rfl rfl fun ac251 hf255 => ?_)
      refine seq_one (op_skip hf255 rfl rfl rfl rfl fun ac252 hf256 => ?_)
      refine seq_one (op_val (v := .bool true) hf256 rfl rfl rfl rfl rfl rfl (r_pickT rfl rfl) fun ac253 hf257 => ?_)
      refine seq_one (op_val (v := .bool true) hf257 rfl rfl rfl rfl rfl rfl (r_assign rfl) fun ac254 hf258 => ?_)
      refine seq_end ?_
      clear ac216 hf216 ac217 hf217 ac218 hf218 hf219 ac219 hf245 ac243 hf246 ac244 hf247 ac245 hf248 hf249 ac246 hf250 ac247 hf251 ac248 hf252 ac249 hf253 ac250 hf254 ac251 hf255 ac252 hf256 ac253 hf257
      refine then_normal ?_
      refine code_seq ?_
      refine seq_start (l := [0, 1, 2, 3, 4, 5, 6, 7, 8, 9, 10]) rfl ?_
      refine seq_one (op_val (v := .pointer (some ⟨b8, 0, none⟩)) hf258 rfl rfl rfl rfl rfl rfl (r_move rfl) fun ac255 hf259 => ?_)
      refine seq_one (op_val (v := .int .i64 f) hf259 rfl rfl rfl rfl rfl rfl (r_move rfl) fun ac256 hf260 => ?_)
      refine seq_one (op_val (v := .int .i64 credit) hf260 rfl rfl rfl rfl rfl rfl (r_move rfl) fun ac257 hf261 => ?_)
      refine seq_one (op_call (R := fun v w' => v = .int .i64 (r9.enterE 0 f credit) ∧ Inv _ [(b3, arr .i64 ((r9.enter 0 f credit).c).lk, 103), (b4, arr .i64 ((r9.enter 0 f credit).c).of, 3), (b5, arr .i64 ((r9.enter 0 f credit).c).mn, 3), (b6, #[.slice (some ⟨b3, 0, none⟩) (3 + 2) (3 + 2), .slice (some ⟨b4, 0, none⟩) 3 3, .slice (some ⟨b5, 0, none⟩) 2 2], 79), (b7, arr .i64 (r9.enter 0 f credit).cr, 3), (b8, #[.pointer (some ⟨b6, 0, none⟩), .slice (some ⟨b7, 0, none⟩) 3 3, .int .i64 ((r9.enter 0 f credit).q)], 45)] w') hf261 rfl rfl rfl rfl ca_24 ((join_any (hI22.nd6 2 rfl rfl rfl rfl rfl rfl) r9 (Has.cons (hI22.at 2 rfl) (Has.cons (hI22.at 3 rfl) (Has.cons (hI22.at 4 rfl) (Has.cons (hI22.at 5 rfl) (Has.cons (hI22.at 6 rfl) (Has.cons (hI22.at 7 rfl) Has.nil)))))) f credit).mono fun _ _ h => ⟨_, h.1, rfl, h.2⟩) fun ac258 v wd22 hR10 hf262 => ?_)
      obtain ⟨rfl, hR10⟩ := hR10
      have hI25 : Inv w [(b1, #[.pointer none, .slice none 0 0, .int .i64 0], 45), (b2, #[.pointer none, .pointer (some ⟨b1, 0, none⟩)], 24), (b3, arr .i64 ((r9.enter 0 f credit).c).lk, 103), (b4, arr .i64 ((r9.enter 0 f credit).c).of, 3), (b5, arr .i64 ((r9.enter 0 f credit).c).mn, 3), (b6, #[.slice (some ⟨b3, 0, none⟩) (3 + 2) (3 + 2), .slice (some ⟨b4, 0, none⟩) 3 3, .slice (some ⟨b5, 0, none⟩) 2 2], 79), (b7, arr .i64 (r9.enter 0 f credit).cr, 3), (b8, #[.pointer (some ⟨b6, 0, none⟩), .slice (some ⟨b7, 0, none⟩) 3 3, .int .i64 ((r9.enter 0 f credit).q)], 45)] _ := Inv.callS (A := [(b1, #[.pointer none, .slice none 0 0, .int .i64 0], 45), (b2, #[.pointer none, .pointer (some ⟨b1, 0, none⟩)], 24)]) (S := [(b3, arr .i64 r9.c.lk, 103), (b4, arr .i64 r9.c.of, 3), (b5, arr .i64 r9.c.mn, 3), (b6, #[.slice (some ⟨b3, 0, none⟩) (3 + 2) (3 + 2), .slice (some ⟨b4, 0, none⟩) 3 3, .slice (some ⟨b5, 0, none⟩) 2 2], 79), (b7, arr .i64 r9.cr, 3), (b8, #[.pointer (some ⟨b6, 0, none⟩), .slice (some ⟨b7, 0, none⟩) 3 3, .int .i64 r9.q], 45)]) (S' := [(b3, arr .i64 ((r9.enter 0 f credit).c).lk, 103), (b4, arr .i64 ((r9.enter 0 f credit).c).of, 3), (b5, arr .i64 ((r9.enter 0 f credit).c).mn, 3), (b6, #[.slice (some ⟨b3, 0, none⟩) (3 + 2) (3 + 2), .slice (some ⟨b4, 0, none⟩) 3 3, .slice (some ⟨b5, 0, none⟩) 2 2], 79), (b7, arr .i64 (r9.enter 0 f credit).cr, 3), (b8, #[.pointer (some ⟨b6, 0, none⟩), .slice (some ⟨b7, 0, none⟩) 3 3, .int .i64 ((r9.enter 0 f credit).q)], 45)]) (L := []) (N := []) hI22 hR10 rfl (fun _ h => by cases h)
      obtain ⟨r11, er11⟩ : ∃ r : Ro 3, r = (r9.enter 0 f credit) := ⟨_, rfl⟩
      rw [← er11] at hI25
      refine seq_one (op_val (v := .bool ((r9.enterE 0 f credit) == 2)) hf262 rfl rfl rfl rfl rfl rfl (r_eql rfl rfl) fun ac259 hf263 => ?_)
      refine seq_one (op_val (v := .bool true) hf263 rfl rfl rfl rfl rfl rfl (r_move rfl) fun ac260 hf264 => ?_)
      refine seq_one (op_val (v := .bool (((r9.enterE 0 f credit) == 2) == true)) hf264 rfl rfl rfl rfl rfl rfl (r_eqB ub_4 rfl rfl) fun ac261 hf265 => ?_)
      refine seq_one (op_val (v := .bool (((r9.enterE 0 f credit) == 2) == true)) hf265 rfl rfl rfl rfl rfl rfl (r_move rfl) fun ac262 hf266 => ?_)
      have hf267 := hf266.know 139 (u := .bool true) rfl (congrArg Value.bool (beq_iff_eq.2 ((Ro.none_last er9).trans (decide_eq_true (by simp only [decide_eq_true_eq, decide_eq_false_iff_not] at g120_1 g124_2; omega)))))
      refine seq_one (op_pure hf267 rfl rfl rfl rfl ca_23 awake17_pur hI25 fun ac263 wd23 hI26 hf268 => ?_)
      refine seq_one (op_val (v := .bool true) hf268 rfl rfl rfl rfl rfl rfl (r_pickT rfl rfl) fun ac264 hf269 => ?_)
      refine seq_one (op_val (v := .bool true) hf269 rfl rfl rfl rfl rfl rfl (r_assign rfl) fun ac265 hf270 => ?_)
      refine seq_end ?_
      clear ac254 hf258 ac255 hf259 ac256 hf260 ac257 wd19 hf261 hI22 hR10 ac258 hf262 ac259 hf263 ac260 hf264 ac261 hf265 hf266 ac262 wd22 hI25 hf267 ac263 hf268 ac264 hf269
      refine then_normal ?_
      refine wp_ret ?_
      refine post1 rfl hf270 rfl ⟨?_, hI26.done (fresh_keys (ks := [b1, b2, b3, b4, b5, b6, b7, b8]) rfl (fk_cons hb1 (fk_cons hb2 (fk_cons hb3 (fk_cons hb4 (fk_cons hb5 (fk_cons hb6 (fk_cons hb7 (fk_cons hb8 fk_nil)))))))))⟩
      rfl
    · have hf271 := hf249.know 124 (u := .bool false) rfl (congrArg Value.bool g124_2)
      refine seq_one (op_val (v := .int .i64 credit) hf271 rfl rfl rfl rfl rfl rfl (r_move rfl) fun ac266 hf272 => ?_)
      refine seq_one (op_val (v := .bool (decide (credit < (-65536)))) hf272 rfl rfl rfl rfl rfl rfl (r_lss rfl rfl) fun ac267 hf273 => ?_)
      refine seq_one (op_val (v := .bool (decide (credit < (-65536)))) hf273 rfl rfl rfl rfl rfl rfl (r_pickF rfl rfl) fun ac268 hf274 => ?_)
      refine seq_one (op_val (v := .bool (decide (credit < (-65536)))) hf274 rfl rfl rfl rfl rfl rfl (r_move rfl) fun ac269 hf275 => ?_)
      rcases Bool.eq_false_or_eq_true (decide (credit < (-65536)) : Bool) with g128_3 | g128_3
      · have hf276 := hf275.know 128 (u := .bool true) rfl (congrArg Value.bool g128_3)
        refine seq_one (op_skip hf276 rfl rfl rfl rfl fun ac270 hf277 => ?_)
        refine seq_one (op_skip hf277 rfl rfl rfl rfl fun ac271 hf278 => ?_)
        refine seq_one (op_val (v := .bool true) hf278 rfl rfl rfl rfl rfl rfl (r_pickT rfl rfl) fun ac272 hf279 => ?_)
        refine seq_one (op_val (v := .bool true) hf279 rfl rfl rfl rfl rfl rfl (r_assign rfl) fun ac273 hf280 => ?_)
        refine seq_end ?_
        clear ac216 hf216 ac217 hf217 ac218 hf218 hf219 ac219 hf245 ac243 hf246 ac244 hf247 ac245 hf248 hf249 ac246 hf271 ac266 hf272 ac267 hf273 ac268 hf274 hf275 ac269 hf276 ac270 hf277 ac271 hf278 ac272 hf279
        refine then_normal ?_
        refine code_seq ?_
        refine seq_start (l := [0, 1, 2, 3, 4, 5, 6, 7, 8, 9, 10]) rfl ?_
        refine seq_one (op_val (v := .pointer (some ⟨b8, 0, none⟩)) hf280 rfl rfl rfl rfl rfl rfl (r_move rfl) fun ac274 hf281 => ?_)
        refine seq_one (op_val (v := .int .i64 f) hf281 rfl rfl rfl rfl rfl rfl (r_move rfl) fun ac275 hf282 => ?_)
        refine seq_one (op_val (v := .int .i64 credit) hf282 rfl rfl rfl rfl rfl rfl (r_move rfl) fun ac276 hf283 => ?_)
        refine seq_one (op_call (R := fun v w' => v = .int .i64 (r9.enterE 0 f credit) ∧ Inv _ [(b3, arr .i64 ((r9.enter 0 f credit).c).lk, 103), (b4, arr .i64 ((r9.enter 0 f credit).c).of, 3), (b5, arr .i64 ((r9.enter 0 f credit).c).mn, 3), (b6, #[.slice (some ⟨b3, 0, none⟩) (3 + 2) (3 + 2), .slice (some ⟨b4, 0, none⟩) 3 3, .slice (some ⟨b5, 0, none⟩) 2 2], 79), (b7, arr .i64 (r9.enter 0 f credit).cr, 3), (b8, #[.pointer (some ⟨b6, 0, none⟩), .slice (some ⟨b7, 0, none⟩) 3 3, .int .i64 ((r9.enter 0 f credit).q)], 45)] w') hf283 rfl rfl rfl rfl ca_24 ((join_any (hI22.nd6 2 rfl rfl rfl rfl rfl rfl) r9 (Has.cons (hI22.at 2 rfl) (Has.cons (hI22.at 3 rfl) (Has.cons (hI22.at 4 rfl) (Has.cons (hI22.at 5 rfl) (Has.cons (hI22.at 6 rfl) (Has.cons (hI22.at 7 rfl) Has.nil)))))) f credit).mono fun _ _ h => ⟨_, h.1, rfl, h.2⟩) fun ac277 v wd24 hR10 hf284 => ?_)
        obtain ⟨rfl, hR10⟩ := hR10
        have hI27 : Inv w [(b1, #[.pointer none, .slice none 0 0, .int .i64 0], 45), (b2, #[.pointer none, .pointer (some ⟨b1, 0, none⟩)], 24), (b3, arr .i64 ((r9.enter 0 f credit).c).lk, 103), (b4, arr .i64 ((r9.enter 0 f credit).c).of, 3), (b5, arr .i64 ((r9.enter 0 f credit).c).mn, 3), (b6, #[.slice (some ⟨b3, 0, none⟩) (3 + 2) (3 + 2), .slice (some ⟨b4, 0, none⟩) 3 3, .slice (some ⟨b5, 0, none⟩) 2 2], 79), (b7, arr .i64 (r9.enter 0 f credit).cr, 3), (b8, #[.pointer (some ⟨b6, 0, none⟩), .slice (some ⟨b7, 0, none⟩) 3 3, .int .i64 ((r9.enter 0 f credit).q)], 45)] _ := Inv.callS (A := [(b1, #[.pointer none, .slice none 0 0, .int .i64 0], 45), (b2, #[.pointer none, .pointer (some ⟨b1, 0, none⟩)], 24)]) (S := [(b3, arr .i64 r9.c.lk, 103), (b4, arr .i64 r9.c.of, 3), (b5, arr .i64 r9.c.mn, 3), (b6, #[.slice (some ⟨b3, 0, none⟩) (3 + 2) (3 + 2), .slice (some ⟨b4, 0, none⟩) 3 3, .slice (some ⟨b5, 0, none⟩) 2 2], 79), (b7, arr .i64 r9.cr, 3), (b8, #[.pointer (some ⟨b6, 0, none⟩), .slice (some ⟨b7, 0, none⟩) 3 3, .int .i64 r9.q], 45)]) (S' := [(b3, arr .i64 ((r9.enter 0 f credit).c).lk, 103), (b4, arr .i64 ((r9.enter 0 f credit).c).of, 3), (b5, arr .i64 ((r9.enter 0 f credit).c).mn, 3), (b6, #[.slice (some ⟨b3, 0, none⟩) (3 + 2) (3 + 2), .slice (some ⟨b4, 0, none⟩) 3 3, .slice (some ⟨b5, 0, none⟩) 2 2], 79), (b7, arr .i64 (r9.enter 0 f credit).cr, 3), (b8, #[.pointer (some ⟨b6, 0, none⟩), .slice (some ⟨b7, 0, none⟩) 3 3, .int .i64 ((r9.enter 0 f credit).q)], 45)]) (L := []) (N := []) hI22 hR10 rfl (fun _ h => by cases h)
        obtain ⟨r11, er11⟩ : ∃ r : Ro 3, r = (r9.enter 0 f credit) := ⟨_, rfl⟩
        rw [← er11] at hI27
        refine seq_one (op_val (v := .bool ((r9.enterE 0 f credit) == 2)) hf284 rfl rfl rfl rfl rfl rfl (r_eql rfl rfl) fun ac278 hf285 => ?_)
        refine seq_one (op_val (v := .bool true) hf285 rfl rfl rfl rfl rfl rfl (r_move rfl) fun ac279 hf286 => ?_)
        refine seq_one (op_val (v := .bool (((r9.enterE 0 f credit) == 2) == true)) hf286 rfl rfl rfl rfl rfl rfl (r_eqB ub_4 rfl rfl) fun ac280 hf287 => ?_)
        refine seq_one (op_val (v := .bool (((r9.enterE 0 f credit) == 2) == true)) hf287 rfl rfl rfl rfl rfl rfl (r_move rfl) fun ac281 hf288 => ?_)
        have hf289 := hf288.know 139 (u := .bool true) rfl (congrArg Value.bool (beq_iff_eq.2 ((Ro.none_last er9).trans (decide_eq_true (by simp only [decide_eq_true_eq, decide_eq_false_iff_not] at g120_1 g124_2 g128_3; omega)))))
        refine seq_one (op_pure hf289 rfl rfl rfl rfl ca_23 awake17_pur hI27 fun ac282 wd25 hI28 hf290 => ?_)
        refine seq_one (op_val (v := .bool true) hf290 rfl rfl rfl rfl rfl rfl (r_pickT rfl rfl) fun ac283 hf291 => ?_)
        refine seq_one (op_val (v := .bool true) hf291 rfl rfl rfl rfl rfl rfl (r_assign rfl) fun ac284 hf292 => ?_)
        refine seq_end ?_
        clear ac273 hf280 ac274 hf281 ac275 hf282 ac276 wd19 hf283 hI22 hR10 ac277 hf284 ac278 hf285 ac279 hf286 ac280 hf287 hf288 ac281 wd24 hI27 hf289 ac282 hf290 ac283 hf291
        refine then_normal ?_
        refine wp_ret ?_
        refine post1 rfl hf292 rfl ⟨?_, hI28.done (fresh_keys (ks := [b1, b2, b3, b4, b5, b6, b7, b8]) rfl (fk_cons hb1 (fk_cons hb2 (fk_cons hb3 (fk_cons hb4 (fk_cons hb5 (fk_cons hb6 (fk_cons hb7 (fk_cons hb8 fk_nil)))))))))⟩
        rfl
      · have hf293 := hf275.know 128 (u := .bool false) rfl (congrArg Value.bool g128_3)
        refine seq_one (op_val (v := .int .i64 credit) hf293 rfl rfl rfl rfl rfl rfl (r_move rfl) fun ac285 hf294 => ?_)
        refine seq_one (op_val (v := .bool (decide (credit > 1048576))) hf294 rfl rfl rfl rfl rfl rfl (r_gtr rfl rfl) fun ac286 hf295 => ?_)
        refine seq_one (op_val (v := .bool (decide (credit > 1048576))) hf295 rfl rfl rfl rfl rfl rfl (r_pickF rfl rfl) fun ac287 hf296 => ?_)
        refine seq_one (op_val (v := .bool (decide (credit > 1048576))) hf296 rfl rfl rfl rfl rfl rfl (r_assign rfl) fun ac288 hf297 => ?_)
        refine seq_end ?_
        clear ac216 hf216 ac217 hf217 ac218 hf218 hf219 ac219 hf245 ac243 hf246 ac244 hf247 ac245 hf248 hf249 ac246 hf271 ac266 hf272 ac267 hf273 ac268 hf274 hf275 ac269 hf293 ac285 hf294 ac286 hf295 ac287 hf296
        refine then_normal ?_
        refine code_seq ?_
        refine seq_start (l := [0, 1, 2, 3, 4, 5, 6, 7, 8, 9, 10]) rfl ?_
        refine seq_one (op_val (v := .pointer (some ⟨b8, 0, none⟩)) hf297 rfl rfl rfl rfl rfl rfl (r_move rfl) fun ac289 hf298 => ?_)
        refine seq_one (op_val (v := .int .i64 f) hf298 rfl rfl rfl rfl rfl rfl (r_move rfl) fun ac290 hf299 => ?_)
        refine seq_one (op_val (v := .int .i64 credit) hf299 rfl rfl rfl rfl rfl rfl (r_move rfl) fun ac291 hf300 => ?_)
        refine seq_one (op_call (R := fun v w' => v = .int .i64 (r9.enterE 0 f credit) ∧ Inv _ [(b3, arr .i64 ((r9.enter 0 f credit).c).lk, 103), (b4, arr .i64 ((r9.enter 0 f credit).c).of, 3), (b5, arr .i64 ((r9.enter 0 f credit).c).mn, 3), (b6, #[.slice (some ⟨b3, 0, none⟩) (3 + 2) (3 + 2), .slice (some ⟨b4, 0, none⟩) 3 3, .slice (some ⟨b5, 0, none⟩) 2 2], 79), (b7, arr .i64 (r9.enter 0 f credit).cr, 3), (b8, #[.pointer (some ⟨b6, 0, none⟩), .slice (some ⟨b7, 0, none⟩) 3 3, .int .i64 ((r9.enter 0 f credit).q)], 45)] w') hf300 rfl rfl rfl rfl ca_24 ((join_any (hI22.nd6 2 rfl rfl rfl rfl rfl rfl) r9 (Has.cons (hI22.at 2 rfl) (Has.cons (hI22.at 3 rfl) (Has.cons (hI22.at 4 rfl) (Has.cons (hI22.at 5 rfl) (Has.cons (hI22.at 6 rfl) (Has.cons (hI22.at 7 rfl) Has.nil)))))) f credit).mono fun _ _ h => ⟨_, h.1, rfl, h.2⟩) fun ac292 v wd26 hR10 hf301 => ?_)
        obtain ⟨rfl, hR10⟩ := hR10
        have hI29 : Inv w [(b1, #[.pointer none, .slice none 0 0, .int .i64 0], 45), (b2, #[.pointer none, .pointer (some ⟨b1, 0, none⟩)], 24), (b3, arr .i64 ((r9.enter 0 f credit).c).lk, 103), (b4, arr .i64 ((r9.enter 0 f credit).c).of, 3), (b5, arr .i64 ((r9.enter 0 f credit).c).mn, 3), (b6, #[.slice (some ⟨b3, 0, none⟩) (3 + 2) (3 + 2), .slice (some ⟨b4, 0, none⟩) 3 3, .slice (some ⟨b5, 0, none⟩) 2 2], 79), (b7, arr .i64 (r9.enter 0 f credit).cr, 3), (b8, #[.pointer (some ⟨b6, 0, none⟩), .slice (some ⟨b7, 0, none⟩) 3 3, .int .i64 ((r9.enter 0 f credit).q)], 45)] _ := Inv.callS (A := [(b1, #[.pointer none, .slice none 0 0, .int .i64 0], 45), (b2, #[.pointer none, .pointer (some ⟨b1, 0, none⟩)], 24)]) (S := [(b3, arr .i64 r9.c.lk, 103), (b4, arr .i64 r9.c.of, 3), (b5, arr .i64 r9.c.mn, 3), (b6, #[.slice (some ⟨b3, 0, none⟩) (3 + 2) (3 + 2), .slice (some ⟨b4, 0, none⟩) 3 3, .slice (some ⟨b5, 0, none⟩) 2 2], 79), (b7, arr .i64 r9.cr, 3), (b8, #[.pointer (some ⟨b6, 0, none⟩), .slice (some ⟨b7, 0, none⟩) 3 3, .int .i64 r9.q], 45)]) (S' := [(b3, arr .i64 ((r9.enter 0 f credit).c).lk, 103), (b4, arr .i64 ((r9.enter 0 f credit).c).of, 3), (b5, arr .i64 ((r9.enter 0 f credit).c).mn, 3), (b6, #[.slice (some ⟨b3, 0, none⟩) (3 + 2) (3 + 2), .slice (some ⟨b4, 0, none⟩) 3 3, .slice (some ⟨b5, 0, none⟩) 2 2], 79), (b7, arr .i64 (r9.enter 0 f credit).cr, 3), (b8, #[.pointer (some ⟨b6, 0, none⟩), .slice (some ⟨b7, 0, none⟩) 3 3, .int .i64 ((r9.enter 0 f credit).q)], 45)]) (L := []) (N := []) hI22 hR10 rfl (fun _ h => by cases h)
        obtain ⟨r11, er11⟩ : ∃ r : Ro 3, r = (r9.enter 0 f credit) := ⟨_, rfl⟩
        rw [← er11] at hI29
        refine seq_one (op_val (v := .bool ((r9.enterE 0 f credit) == 2)) hf301 rfl rfl rfl rfl rfl rfl (r_eql rfl rfl) fun ac293 hf302 => ?_)
        refine seq_one (op_val (v := .bool (decide (credit > 1048576))) hf302 rfl rfl rfl rfl rfl rfl (r_move rfl) fun ac294 hf303 => ?_)
        refine seq_one (op_val (v := .bool (((r9.enterE 0 f credit) == 2) == (decide (credit > 1048576)))) hf303 rfl rfl rfl rfl rfl rfl (r_eqB ub_4 rfl rfl) fun ac295 hf304 => ?_)
        refine seq_one (op_val (v := .bool (((r9.enterE 0 f credit) == 2) == (decide (credit > 1048576)))) hf304 rfl rfl rfl rfl rfl rfl (r_move rfl) fun ac296 hf305 => ?_)
        have hf306 := hf305.know 139 (u := .bool true) rfl (congrArg Value.bool (beq_iff_eq.2 ((Ro.none_last er9).trans (decide_eq_decide.2 (by simp only [decide_eq_true_eq, decide_eq_false_iff_not] at g120_1 g124_2 g128_3; omega)))))
        refine seq_one (op_pure hf306 rfl rfl rfl rfl ca_23 awake17_pur hI29 fun ac297 wd27 hI30 hf307 => ?_)
        refine seq_one (op_val (v := .bool true) hf307 rfl rfl rfl rfl rfl rfl (r_pickT rfl rfl) fun ac298 hf308 => ?_)
        refine seq_one (op_val (v := .bool true) hf308 rfl rfl rfl rfl rfl rfl (r_assign rfl) fun ac299 hf309 => ?_)
        refine seq_end ?_
        clear ac288 hf297 ac289 hf298 ac290 hf299 ac291 wd19 hf300 hI22 hR10 ac292 hf301 ac293 hf302 ac294 hf303 ac295 hf304 hf305 ac296 wd26 hI29 hf306 ac297 hf307 ac298 hf308
        refine then_normal ?_
        refine wp_ret ?_
        refine post1 rfl hf309 rfl ⟨?_, hI30.done (fresh_keys (ks := [b1, b2, b3, b4, b5, b6, b7, b8]) rfl (fk_cons hb1 (fk_cons hb2 (fk_cons hb3 (fk_cons hb4 (fk_cons hb5 (fk_cons hb6 (fk_cons hb7 (fk_cons hb8 fk_nil)))))))))⟩
        rfl
end Go.Proofs.Ytjelaoblpchmmaa
