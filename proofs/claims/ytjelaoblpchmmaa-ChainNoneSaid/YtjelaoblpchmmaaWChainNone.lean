/-
  The walk of ChainNone.
-/
import Derived.Test.YtjelaoblpchmmaaOpen
namespace Go.Proofs.Ytjelaoblpchmmaa
set_option linter.unusedVariables false
set_option linter.unusedSimpArgs false
set_option maxRecDepth 100000
open Go.RowKit
set_option maxHeartbeats 8000000 in
theorem chainNone_walk {l n : Int} {w : World}  : Calls Try.prog 10 [.int .i64 l, .int .i64 n].toArray w fun e w' => e = .returned (.bool true) ∧ Inv w [] w' := by
  have hI1 := Inv.start w
  refine enter (n := 81) Try.func10 rfl rfl rfl ?_
  intro ac1 hf1
  refine code_seq ?_
  refine seq_start (l := [0]) rfl ?_
  refine seq_one (op_val (v := .bool false) hf1 rfl rfl rfl rfl rfl rfl (r_assign rfl) fun ac2 hf2 => ?_)
  refine seq_end ?_
  clear ac1 hf1
  refine then_normal ?_
  refine code_seq ?_
  refine code_seq ?_
  refine seq_start (l := [0, 1, 2, 3, 4]) rfl ?_
  refine seq_one (op_val (v := .agg #[.slice none 0 0, .slice none 0 0, .slice none 0 0]) hf2 rfl rfl rfl rfl rfl rfl (r_build (v := .agg #[.slice none 0 0, .slice none 0 0, .slice none 0 0]) rfl (fun _ => by kernel_rfl)) fun ac3 hf3 => ?_)
  refine seq_one (op_box hf3 rfl rfl rfl rfl hI1 fun ac4 b1 wd1 hb1 hI2 hf4 => ?_)
  have hI3 : Inv w [(b1, #[.slice none 0 0, .slice none 0 0, .slice none 0 0], 79)] wd1 := hI2
  refine seq_one (op_bslice (s := 41) (cells := #[.pointer none, .pointer (some ⟨b1, 0, none⟩)]) hf4 rfl rfl rfl rfl rfl (fun _ => by kernel_rfl) hI3 fun ac5 b2 wd2 hb2 hI4 hf5 => ?_)
  have hI5 : Inv w [(b1, #[.slice none 0 0, .slice none 0 0, .slice none 0 0], 79), (b2, #[.pointer none, .pointer (some ⟨b1, 0, none⟩)], 41)] wd2 := hI4
  refine seq_one (op_val (v := .int .i64 2) hf5 rfl rfl rfl rfl rfl rfl (r_len sl_80 rfl) fun ac6 hf6 => ?_)
  refine seq_one (op_val (v := .int .i64 0) hf6 rfl rfl rfl rfl rfl rfl (r_move rfl) fun ac7 hf7 => ?_)
  refine seq_end ?_
  clear ac2 hf2 ac3 hI1 hf3 hI2 ac4 wd1 hI3 hf4 hI4 ac5 hf5 ac6 hf6
  refine then_normal ?_
  refine wp_block ?_
  refine wp_loop_rounds 4 ?_
  refine rounds_go ?_
  refine code_seq ?_
  refine seq_start (l := [0]) rfl ?_
  refine seq_one (op_val (v := .bool true) hf7 rfl rfl rfl rfl rfl rfl (r_lssC rfl rfl (by decide)) fun ac8 hf8 => ?_)
  refine seq_end ?_
  clear ac7 hf7
  refine then_normal ?_
  refine code_seq ?_
  refine code_if_true hf8 rfl ?_
  refine wp_skip ?_
  refine then_normal ?_
  refine code_seq ?_
  refine wp_block ?_
  refine code_seq ?_
  refine seq_start (l := [0, 1, 2]) rfl ?_
  refine seq_one (op_val (v := .pointer (some ⟨b2, 0, none⟩)) hf8 rfl rfl rfl rfl rfl rfl (r_indexAddrS (i := 0) sl_80 rfl rfl rfl (by decide) rfl) fun ac9 hf9 => ?_)
  refine seq_one (op_val (v := .pointer none) hf9 rfl rfl rfl rfl rfl rfl (r_load ag_41 rfl (hI5.at 1 rfl) rfl) fun ac10 hf10 => ?_)
  refine seq_one (op_val (v := .pointer none) hf10 rfl rfl rfl rfl rfl rfl (r_assign rfl) fun ac11 hf11 => ?_)
  refine seq_end ?_
  clear ac8 hf8 ac9 hf9 ac10 hf10
  refine then_normal ?_
  refine code_seq ?_
  refine seq_start (l := [0, 1, 2, 3, 4, 5, 6, 7]) rfl ?_
  refine seq_one (op_val (v := .pointer none) hf11 rfl rfl rfl rfl rfl rfl (r_move rfl) fun ac12 hf12 => ?_)
  refine seq_one (op_val (v := .int .i64 l) hf12 rfl rfl rfl rfl rfl rfl (r_move rfl) fun ac13 hf13 => ?_)
  refine seq_one (op_pure hf13 rfl rfl rfl rfl ca_31 (pop_nil l) hI5 fun ac14 wd3 hI6 hf14 => ?_)
  refine seq_one (op_val (v := .tuple #[.int .i64 0, .bool false]) hf14 rfl rfl rfl rfl rfl rfl (r_move rfl) fun ac15 hf15 => ?_)
  refine seq_one (op_val (v := .int .i64 0) hf15 rfl rfl rfl rfl rfl rfl (r_extract rfl rfl) fun ac16 hf16 => ?_)
  refine seq_one (op_val (v := .bool false) hf16 rfl rfl rfl rfl rfl rfl (r_extract rfl rfl) fun ac17 hf17 => ?_)
  refine seq_one (op_val (v := .int .i64 0) hf17 rfl rfl rfl rfl rfl rfl (r_assign rfl) fun ac18 hf18 => ?_)
  refine seq_one (op_val (v := .bool false) hf18 rfl rfl rfl rfl rfl rfl (r_assign rfl) fun ac19 hf19 => ?_)
  refine seq_end ?_
  clear ac11 hf11 ac12 hf12 ac13 wd2 hI5 hf13 ac14 hf14 ac15 hf15 ac16 hf16 ac17 hf17 ac18 hf18
  refine then_normal ?_
  refine code_seq ?_
  refine seq_start (l := [0, 1, 2, 3, 4, 5, 6, 7]) rfl ?_
  refine seq_one (op_val (v := .pointer none) hf19 rfl rfl rfl rfl rfl rfl (r_move rfl) fun ac20 hf20 => ?_)
  refine seq_one (op_val (v := .int .i64 l) hf20 rfl rfl rfl rfl rfl rfl (r_move rfl) fun ac21 hf21 => ?_)
  refine seq_one (op_pure hf21 rfl rfl rfl rfl ca_40 (first_nil l) hI6 fun ac22 wd4 hI7 hf22 => ?_)
  refine seq_one (op_val (v := .tuple #[.int .i64 0, .bool false]) hf22 rfl rfl rfl rfl rfl rfl (r_move rfl) fun ac23 hf23 => ?_)
  refine seq_one (op_val (v := .int .i64 0) hf23 rfl rfl rfl rfl rfl rfl (r_extract rfl rfl) fun ac24 hf24 => ?_)
  refine seq_one (op_val (v := .bool false) hf24 rfl rfl rfl rfl rfl rfl (r_extract rfl rfl) fun ac25 hf25 => ?_)
  refine seq_one (op_val (v := .int .i64 0) hf25 rfl rfl rfl rfl rfl rfl (r_assign rfl) fun ac26 hf26 => ?_)
  refine seq_one (op_val (v := .bool false) hf26 rfl rfl rfl rfl rfl rfl (r_assign rfl) fun ac27 hf27 => ?_)
  refine seq_end ?_
  clear ac19 hf19 ac20 hf20 ac21 wd3 hI6 hf21 ac22 hf22 ac23 hf23 ac24 hf24 ac25 hf25 ac26 hf26
  refine then_normal ?_
  refine code_seq ?_
  refine seq_start (l := [0, 1, 2, 3, 4, 5, 6, 7]) rfl ?_
  refine seq_one (op_val (v := .pointer none) hf27 rfl rfl rfl rfl rfl rfl (r_move rfl) fun ac28 hf28 => ?_)
  refine seq_one (op_val (v := .int .i64 n) hf28 rfl rfl rfl rfl rfl rfl (r_move rfl) fun ac29 hf29 => ?_)
  refine seq_one (op_pure hf29 rfl rfl rfl rfl ca_29 (in_nil n) hI7 fun ac30 wd5 hI8 hf30 => ?_)
  refine seq_one (op_val (v := .tuple #[.int .i64 0, .bool false]) hf30 rfl rfl rfl rfl rfl rfl (r_move rfl) fun ac31 hf31 => ?_)
  refine seq_one (op_val (v := .int .i64 0) hf31 rfl rfl rfl rfl rfl rfl (r_extract rfl rfl) fun ac32 hf32 => ?_)
  refine seq_one (op_val (v := .bool false) hf32 rfl rfl rfl rfl rfl rfl (r_extract rfl rfl) fun ac33 hf33 => ?_)
  refine seq_one (op_val (v := .int .i64 0) hf33 rfl rfl rfl rfl rfl rfl (r_assign rfl) fun ac34 hf34 => ?_)
  refine seq_one (op_val (v := .bool false) hf34 rfl rfl rfl rfl rfl rfl (r_assign rfl) fun ac35 hf35 => ?_)
  refine seq_end ?_
  clear ac27 hf27 ac28 hf28 ac29 wd4 hI7 hf29 ac30 hf30 ac31 hf31 ac32 hf32 ac33 hf33 ac34 hf34
  refine then_normal ?_
  refine code_seq ?_
  refine seq_start (l := [0, 1, 2, 3, 4, 5, 6, 7, 8, 9, 10, 11, 12, 13, 14, 15, 16, 17, 18, 19, 20, 21, 22, 23, 24, 25, 26, 27, 28, 29, 30, 31, 32, 33, 34, 35, 36, 37, 38, 39]) rfl ?_
  refine seq_one (op_val (v := .pointer none) hf35 rfl rfl rfl rfl rfl rfl (r_move rfl) fun ac36 hf36 => ?_)
  refine seq_one (op_val (v := .int .i64 l) hf36 rfl rfl rfl rfl rfl rfl (r_move rfl) fun ac37 hf37 => ?_)
  refine seq_one (op_val (v := .int .i64 n) hf37 rfl rfl rfl rfl rfl rfl (r_move rfl) fun ac38 hf38 => ?_)
  refine seq_one (op_pure hf38 rfl rfl rfl rfl ca_30 (push_nil l n) hI8 fun ac39 wd6 hI9 hf39 => ?_)
  refine seq_one (op_val (v := .bool false) hf39 rfl rfl rfl rfl rfl rfl (r_neqC rfl rfl (by decide)) fun ac40 hf40 => ?_)
  refine seq_one (op_val (v := .bool false) hf40 rfl rfl rfl rfl rfl rfl (r_move rfl) fun ac41 hf41 => ?_)
  refine seq_one (op_val (v := .bool false) hf41 rfl rfl rfl rfl rfl rfl (r_move rfl) fun ac42 hf42 => ?_)
  refine seq_one (op_val (v := .bool false) hf42 rfl rfl rfl rfl rfl rfl (r_pickF rfl rfl) fun ac43 hf43 => ?_)
  refine seq_one (op_val (v := .bool false) hf43 rfl rfl rfl rfl rfl rfl (r_move rfl) fun ac44 hf44 => ?_)
  refine seq_one (op_val (v := .bool false) hf44 rfl rfl rfl rfl rfl rfl (r_move rfl) fun ac45 hf45 => ?_)
  refine seq_one (op_val (v := .bool false) hf45 rfl rfl rfl rfl rfl rfl (r_pickF rfl rfl) fun ac46 hf46 => ?_)
  refine seq_one (op_val (v := .bool false) hf46 rfl rfl rfl rfl rfl rfl (r_move rfl) fun ac47 hf47 => ?_)
  refine seq_one (op_val (v := .bool false) hf47 rfl rfl rfl rfl rfl rfl (r_move rfl) fun ac48 hf48 => ?_)
  refine seq_one (op_val (v := .bool false) hf48 rfl rfl rfl rfl rfl rfl (r_pickF rfl rfl) fun ac49 hf49 => ?_)
  refine seq_one (op_val (v := .bool false) hf49 rfl rfl rfl rfl rfl rfl (r_move rfl) fun ac50 hf50 => ?_)
  refine seq_one (op_val (v := .int .i64 0) hf50 rfl rfl rfl rfl rfl rfl (r_move rfl) fun ac51 hf51 => ?_)
  refine seq_one (op_val (v := .int .i64 0) hf51 rfl rfl rfl rfl rfl rfl (r_move rfl) fun ac52 hf52 => ?_)
  refine seq_one (op_val (v := .int .i64 0) hf52 rfl rfl rfl rfl rfl rfl (r_add (c := 0) rfl rfl (by rfl)) fun ac53 hf53 => ?_)
  refine seq_one (op_val (v := .int .i64 0) hf53 rfl rfl rfl rfl rfl rfl (r_move rfl) fun ac54 hf54 => ?_)
  refine seq_one (op_val (v := .int .i64 0) hf54 rfl rfl rfl rfl rfl rfl (r_add (c := 0) rfl rfl (by rfl)) fun ac55 hf55 => ?_)
  refine seq_one (op_val (v := .bool false) hf55 rfl rfl rfl rfl rfl rfl (r_neqC rfl rfl (by decide)) fun ac56 hf56 => ?_)
  refine seq_one (op_val (v := .bool false) hf56 rfl rfl rfl rfl rfl rfl (r_pickF rfl rfl) fun ac57 hf57 => ?_)
  refine seq_one (op_val (v := .bool false) hf57 rfl rfl rfl rfl rfl rfl (r_move rfl) fun ac58 hf58 => ?_)
  refine seq_one (op_val (v := .pointer none) hf58 rfl rfl rfl rfl rfl rfl (r_move rfl) fun ac59 hf59 => ?_)
  refine seq_one (op_val (v := .int .i64 n) hf59 rfl rfl rfl rfl rfl rfl (r_move rfl) fun ac60 hf60 => ?_)
  refine seq_one (op_pure hf60 rfl rfl rfl rfl ca_32 (drop_nil n) hI9 fun ac61 wd7 hI10 hf61 => ?_)
  refine seq_one (op_val (v := .bool false) hf61 rfl rfl rfl rfl rfl rfl (r_pickF rfl rfl) fun ac62 hf62 => ?_)
  refine seq_one (op_val (v := .bool false) hf62 rfl rfl rfl rfl rfl rfl (r_move rfl) fun ac63 hf63 => ?_)
  refine seq_one (op_val (v := .pointer none) hf63 rfl rfl rfl rfl rfl rfl (r_move rfl) fun ac64 hf64 => ?_)
  refine seq_one (op_val (v := .int .i64 l) hf64 rfl rfl rfl rfl rfl rfl (r_move rfl) fun ac65 hf65 => ?_)
  refine seq_one (op_pure hf65 rfl rfl rfl rfl ca_41 (len_nil l) hI10 fun ac66 wd8 hI11 hf66 => ?_)
  refine seq_one (op_val (v := .bool false) hf66 rfl rfl rfl rfl rfl rfl (r_neqC rfl rfl (by decide)) fun ac67 hf67 => ?_)
  refine seq_one (op_val (v := .bool false) hf67 rfl rfl rfl rfl rfl rfl (r_pickF rfl rfl) fun ac68 hf68 => ?_)
  refine seq_one (op_val (v := .bool false) hf68 rfl rfl rfl rfl rfl rfl (r_move rfl) fun ac69 hf69 => ?_)
  refine seq_one (op_val (v := .pointer none) hf69 rfl rfl rfl rfl rfl rfl (r_move rfl) fun ac70 hf70 => ?_)
  refine seq_one (op_val (v := .int .i64 l) hf70 rfl rfl rfl rfl rfl rfl (r_move rfl) fun ac71 hf71 => ?_)
  refine seq_one (op_pure hf71 rfl rfl rfl rfl ca_28 (list_nil l) hI11 fun ac72 wd9 hI12 hf72 => ?_)
  refine seq_one (op_val (v := .int .i64 0) hf72 rfl rfl rfl rfl rfl rfl (r_len sl_27 rfl) fun ac73 hf73 => ?_)
  refine seq_one (op_val (v := .bool false) hf73 rfl rfl rfl rfl rfl rfl (r_neqC rfl rfl (by decide)) fun ac74 hf74 => ?_)
  refine seq_one (op_val (v := .bool false) hf74 rfl rfl rfl rfl rfl rfl (r_pickF rfl rfl) fun ac75 hf75 => ?_)
  refine seq_end ?_
  clear ac35 hf35 ac36 hf36 ac37 hf37 ac38 wd5 hI8 hf38 ac39 hf39 ac40 hf40 ac41 hf41 ac42 hf42 ac43 hf43 ac44 hf44 ac45 hf45 ac46 hf46 ac47 hf47 ac48 hf48 ac49 hf49 ac50 hf50 ac51 hf51 ac52 hf52 ac53 hf53 ac54 hf54 ac55 hf55 ac56 hf56 ac57 hf57 ac58 hf58 ac59 hf59 ac60 wd6 hI9 hf60 ac61 hf61 ac62 hf62 ac63 hf63 ac64 hf64 ac65 wd7 hI10 hf65 ac66 hf66 ac67 hf67 ac68 hf68 ac69 hf69 ac70 hf70 ac71 wd8 hI11 hf71 ac72 hf72 ac73 hf73 ac74 hf74
  refine then_normal ?_
  refine code_if_false hf75 rfl ?_
  refine wp_skip ?_
  refine block_normal ?_
  refine then_normal ?_
  refine seq_start (l := [0, 1]) rfl ?_
  refine seq_one (op_val (v := .int .i64 1) hf75 rfl rfl rfl rfl rfl rfl (r_add (c := 1) rfl rfl (by rfl)) fun ac76 hf76 => ?_)
  refine seq_one (op_val (v := .int .i64 1) hf76 rfl rfl rfl rfl rfl rfl (r_move rfl) fun ac77 hf77 => ?_)
  refine seq_end ?_
  clear ac75 hf75 ac76 hf76
  refine then_normal ?_
  refine rounds_go ?_
  refine code_seq ?_
  refine seq_start (l := [0]) rfl ?_
  refine seq_one (op_val (v := .bool true) hf77 rfl rfl rfl rfl rfl rfl (r_lssC rfl rfl (by decide)) fun ac78 hf78 => ?_)
  refine seq_end ?_
  clear ac77 hf77
  refine then_normal ?_
  refine code_seq ?_
  refine code_if_true hf78 rfl ?_
  refine wp_skip ?_
  refine then_normal ?_
  refine code_seq ?_
  refine wp_block ?_
  refine code_seq ?_
  refine seq_start (l := [0, 1, 2]) rfl ?_
  refine seq_one (op_val (v := .pointer (some ⟨b2, 1, none⟩)) hf78 rfl rfl rfl rfl rfl rfl (r_indexAddrS (i := 1) sl_80 rfl rfl rfl (by decide) rfl) fun ac79 hf79 => ?_)
  refine seq_one (op_val (v := .pointer (some ⟨b1, 0, none⟩)) hf79 rfl rfl rfl rfl rfl rfl (r_load ag_41 rfl (hI12.at 1 rfl) rfl) fun ac80 hf80 => ?_)
  refine seq_one (op_val (v := .pointer (some ⟨b1, 0, none⟩)) hf80 rfl rfl rfl rfl rfl rfl (r_assign rfl) fun ac81 hf81 => ?_)
  refine seq_end ?_
  clear ac78 hf78 ac79 hf79 ac80 hf80
  refine then_normal ?_
  refine code_seq ?_
  refine seq_start (l := [0, 1, 2, 3, 4, 5, 6, 7]) rfl ?_
  refine seq_one (op_val (v := .pointer (some ⟨b1, 0, none⟩)) hf81 rfl rfl rfl rfl rfl rfl (r_move rfl) fun ac82 hf82 => ?_)
  refine seq_one (op_val (v := .int .i64 l) hf82 rfl rfl rfl rfl rfl rfl (r_move rfl) fun ac83 hf83 => ?_)
  refine seq_one (op_pureW hf83 rfl rfl rfl rfl ca_31 (pop_zero l b1 _ (Has.cons (hI12.at 0 rfl) Has.nil)) hI12 fun ac84 wd10 hI13 hf84 => ?_)
  refine seq_one (op_val (v := .tuple #[.int .i64 0, .bool false]) hf84 rfl rfl rfl rfl rfl rfl (r_move rfl) fun ac85 hf85 => ?_)
  refine seq_one (op_val (v := .int .i64 0) hf85 rfl rfl rfl rfl rfl rfl (r_extract rfl rfl) fun ac86 hf86 => ?_)
  refine seq_one (op_val (v := .bool false) hf86 rfl rfl rfl rfl rfl rfl (r_extract rfl rfl) fun ac87 hf87 => ?_)
  refine seq_one (op_val (v := .int .i64 0) hf87 rfl rfl rfl rfl rfl rfl (r_assign rfl) fun ac88 hf88 => ?_)
  refine seq_one (op_val (v := .bool false) hf88 rfl rfl rfl rfl rfl rfl (r_assign rfl) fun ac89 hf89 => ?_)
  refine seq_end ?_
  clear ac81 hf81 ac82 hf82 ac83 wd9 hI12 hf83 ac84 hf84 ac85 hf85 ac86 hf86 ac87 hf87 ac88 hf88
  refine then_normal ?_
  refine code_seq ?_
  refine seq_start (l := [0, 1, 2, 3, 4, 5, 6, 7]) rfl ?_
  refine seq_one (op_val (v := .pointer (some ⟨b1, 0, none⟩)) hf89 rfl rfl rfl rfl rfl rfl (r_move rfl) fun ac90 hf90 => ?_)
  refine seq_one (op_val (v := .int .i64 l) hf90 rfl rfl rfl rfl rfl rfl (r_move rfl) fun ac91 hf91 => ?_)
  refine seq_one (op_pureW hf91 rfl rfl rfl rfl ca_40 (first_zero l b1 _ (Has.cons (hI13.at 0 rfl) Has.nil)) hI13 fun ac92 wd11 hI14 hf92 => ?_)
  refine seq_one (op_val (v := .tuple #[.int .i64 0, .bool false]) hf92 rfl rfl rfl rfl rfl rfl (r_move rfl) fun ac93 hf93 => ?_)
  refine seq_one (op_val (v := .int .i64 0) hf93 rfl rfl rfl rfl rfl rfl (r_extract rfl rfl) fun ac94 hf94 => ?_)
  refine seq_one (op_val (v := .bool false) hf94 rfl rfl rfl rfl rfl rfl (r_extract rfl rfl) fun ac95 hf95 => ?_)
  refine seq_one (op_val (v := .int .i64 0) hf95 rfl rfl rfl rfl rfl rfl (r_assign rfl) fun ac96 hf96 => ?_)
  refine seq_one (op_val (v := .bool false) hf96 rfl rfl rfl rfl rfl rfl (r_assign rfl) fun ac97 hf97 => ?_)
  refine seq_end ?_
  clear ac89 hf89 ac90 hf90 ac91 wd10 hI13 hf91 ac92 hf92 ac93 hf93 ac94 hf94 ac95 hf95 ac96 hf96
  refine then_normal ?_
  refine code_seq ?_
  refine seq_start (l := [0, 1, 2, 3, 4, 5, 6, 7]) rfl ?_
  refine seq_one (op_val (v := .pointer (some ⟨b1, 0, none⟩)) hf97 rfl rfl rfl rfl rfl rfl (r_move rfl) fun ac98 hf98 => ?_)
  refine seq_one (op_val (v := .int .i64 n) hf98 rfl rfl rfl rfl rfl rfl (r_move rfl) fun ac99 hf99 => ?_)
  refine seq_one (op_pureW hf99 rfl rfl rfl rfl ca_29 (in_zero n b1 _ (Has.cons (hI14.at 0 rfl) Has.nil)) hI14 fun ac100 wd12 hI15 hf100 => ?_)
  refine seq_one (op_val (v := .tuple #[.int .i64 0, .bool false]) hf100 rfl rfl rfl rfl rfl rfl (r_move rfl) fun ac101 hf101 => ?_)
  refine seq_one (op_val (v := .int .i64 0) hf101 rfl rfl rfl rfl rfl rfl (r_extract rfl rfl) fun ac102 hf102 => ?_)
  refine seq_one (op_val (v := .bool false) hf102 rfl rfl rfl rfl rfl rfl (r_extract rfl rfl) fun ac103 hf103 => ?_)
  refine seq_one (op_val (v := .int .i64 0) hf103 rfl rfl rfl rfl rfl rfl (r_assign rfl) fun ac104 hf104 => ?_)
  refine seq_one (op_val (v := .bool false) hf104 rfl rfl rfl rfl rfl rfl (r_assign rfl) fun ac105 hf105 => ?_)
  refine seq_end ?_
  clear ac97 hf97 ac98 hf98 ac99 wd11 hI14 hf99 ac100 hf100 ac101 hf101 ac102 hf102 ac103 hf103 ac104 hf104
  refine then_normal ?_
  refine code_seq ?_
  refine seq_start (l := [0, 1, 2, 3, 4, 5, 6, 7, 8, 9, 10, 11, 12, 13, 14, 15, 16, 17, 18, 19, 20, 21, 22, 23, 24, 25, 26, 27, 28, 29, 30, 31, 32, 33, 34, 35, 36, 37, 38, 39]) rfl ?_
  refine seq_one (op_val (v := .pointer (some ⟨b1, 0, none⟩)) hf105 rfl rfl rfl rfl rfl rfl (r_move rfl) fun ac106 hf106 => ?_)
  refine seq_one (op_val (v := .int .i64 l) hf106 rfl rfl rfl rfl rfl rfl (r_move rfl) fun ac107 hf107 => ?_)
  refine seq_one (op_val (v := .int .i64 n) hf107 rfl rfl rfl rfl rfl rfl (r_move rfl) fun ac108 hf108 => ?_)
  refine seq_one (op_pureW hf108 rfl rfl rfl rfl ca_30 (push_zero l n b1 _ (Has.cons (hI15.at 0 rfl) Has.nil)) hI15 fun ac109 wd13 hI16 hf109 => ?_)
  refine seq_one (op_val (v := .bool false) hf109 rfl rfl rfl rfl rfl rfl (r_neqC rfl rfl (by decide)) fun ac110 hf110 => ?_)
  refine seq_one (op_val (v := .bool false) hf110 rfl rfl rfl rfl rfl rfl (r_move rfl) fun ac111 hf111 => ?_)
  refine seq_one (op_val (v := .bool false) hf111 rfl rfl rfl rfl rfl rfl (r_move rfl) fun ac112 hf112 => ?_)
  refine seq_one (op_val (v := .bool false) hf112 rfl rfl rfl rfl rfl rfl (r_pickF rfl rfl) fun ac113 hf113 => ?_)
  refine seq_one (op_val (v := .bool false) hf113 rfl rfl rfl rfl rfl rfl (r_move rfl) fun ac114 hf114 => ?_)
  refine seq_one (op_val (v := .bool false) hf114 rfl rfl rfl rfl rfl rfl (r_move rfl) fun ac115 hf115 => ?_)
  refine seq_one (op_val (v := .bool false) hf115 rfl rfl rfl rfl rfl rfl (r_pickF rfl rfl) fun ac116 hf116 => ?_)
  refine seq_one (op_val (v := .bool false) hf116 rfl rfl rfl rfl rfl rfl (r_move rfl) fun ac117 hf117 => ?_)
  refine seq_one (op_val (v := .bool false) hf117 rfl rfl rfl rfl rfl rfl (r_move rfl) fun ac118 hf118 => ?_)
  refine seq_one (op_val (v := .bool false) hf118 rfl rfl rfl rfl rfl rfl (r_pickF rfl rfl) fun ac119 hf119 => ?_)
  refine seq_one (op_val (v := .bool false) hf119 rfl rfl rfl rfl rfl rfl (r_move rfl) fun ac120 hf120 => ?_)
  refine seq_one (op_val (v := .int .i64 0) hf120 rfl rfl rfl rfl rfl rfl (r_move rfl) fun ac121 hf121 => ?_)
  refine seq_one (op_val (v := .int .i64 0) hf121 rfl rfl rfl rfl rfl rfl (r_move rfl) fun ac122 hf122 => ?_)
  refine seq_one (op_val (v := .int .i64 0) hf122 rfl rfl rfl rfl rfl rfl (r_add (c := 0) rfl rfl (by rfl)) fun ac123 hf123 => ?_)
  refine seq_one (op_val (v := .int .i64 0) hf123 rfl rfl rfl rfl rfl rfl (r_move rfl) fun ac124 hf124 => ?_)
  refine seq_one (op_val (v := .int .i64 0) hf124 rfl rfl rfl rfl rfl rfl (r_add (c := 0) rfl rfl (by rfl)) fun ac125 hf125 => ?_)
  refine seq_one (op_val (v := .bool false) hf125 rfl rfl rfl rfl rfl rfl (r_neqC rfl rfl (by decide)) fun ac126 hf126 => ?_)
  refine seq_one (op_val (v := .bool false) hf126 rfl rfl rfl rfl rfl rfl (r_pickF rfl rfl) fun ac127 hf127 => ?_)
  refine seq_one (op_val (v := .bool false) hf127 rfl rfl rfl rfl rfl rfl (r_move rfl) fun ac128 hf128 => ?_)
  refine seq_one (op_val (v := .pointer (some ⟨b1, 0, none⟩)) hf128 rfl rfl rfl rfl rfl rfl (r_move rfl) fun ac129 hf129 => ?_)
  refine seq_one (op_val (v := .int .i64 n) hf129 rfl rfl rfl rfl rfl rfl (r_move rfl) fun ac130 hf130 => ?_)
  refine seq_one (op_pureW hf130 rfl rfl rfl rfl ca_32 (drop_zero n b1 _ (Has.cons (hI16.at 0 rfl) Has.nil)) hI16 fun ac131 wd14 hI17 hf131 => ?_)
  refine seq_one (op_val (v := .bool false) hf131 rfl rfl rfl rfl rfl rfl (r_pickF rfl rfl) fun ac132 hf132 => ?_)
  refine seq_one (op_val (v := .bool false) hf132 rfl rfl rfl rfl rfl rfl (r_move rfl) fun ac133 hf133 => ?_)
  refine seq_one (op_val (v := .pointer (some ⟨b1, 0, none⟩)) hf133 rfl rfl rfl rfl rfl rfl (r_move rfl) fun ac134 hf134 => ?_)
  refine seq_one (op_val (v := .int .i64 l) hf134 rfl rfl rfl rfl rfl rfl (r_move rfl) fun ac135 hf135 => ?_)
  refine seq_one (op_pureW hf135 rfl rfl rfl rfl ca_41 (len_zero l b1 _ (Has.cons (hI17.at 0 rfl) Has.nil)) hI17 fun ac136 wd15 hI18 hf136 => ?_)
  refine seq_one (op_val (v := .bool false) hf136 rfl rfl rfl rfl rfl rfl (r_neqC rfl rfl (by decide)) fun ac137 hf137 => ?_)
  refine seq_one (op_val (v := .bool false) hf137 rfl rfl rfl rfl rfl rfl (r_pickF rfl rfl) fun ac138 hf138 => ?_)
  refine seq_one (op_val (v := .bool false) hf138 rfl rfl rfl rfl rfl rfl (r_move rfl) fun ac139 hf139 => ?_)
  refine seq_one (op_val (v := .pointer (some ⟨b1, 0, none⟩)) hf139 rfl rfl rfl rfl rfl rfl (r_move rfl) fun ac140 hf140 => ?_)
  refine seq_one (op_val (v := .int .i64 l) hf140 rfl rfl rfl rfl rfl rfl (r_move rfl) fun ac141 hf141 => ?_)
  refine seq_one (op_pureW hf141 rfl rfl rfl rfl ca_28 (list_zero l b1 _ (Has.cons (hI18.at 0 rfl) Has.nil)) hI18 fun ac142 wd16 hI19 hf142 => ?_)
  refine seq_one (op_val (v := .int .i64 0) hf142 rfl rfl rfl rfl rfl rfl (r_len sl_27 rfl) fun ac143 hf143 => ?_)
  refine seq_one (op_val (v := .bool false) hf143 rfl rfl rfl rfl rfl rfl (r_neqC rfl rfl (by decide)) fun ac144 hf144 => ?_)
  refine seq_one (op_val (v := .bool false) hf144 rfl rfl rfl rfl rfl rfl (r_pickF rfl rfl) fun ac145 hf145 => ?_)
  refine seq_end ?_
  clear ac105 hf105 ac106 hf106 ac107 hf107 ac108 wd12 hI15 hf108 ac109 hf109 ac110 hf110 ac111 hf111 ac112 hf112 ac113 hf113 ac114 hf114 ac115 hf115 ac116 hf116 ac117 hf117 ac118 hf118 ac119 hf119 ac120 hf120 ac121 hf121 ac122 hf122 ac123 hf123 ac124 hf124 ac125 hf125 ac126 hf126 ac127 hf127 ac128 hf128 ac129 hf129 ac130 wd13 hI16 hf130 ac131 hf131 ac132 hf132 ac133 hf133 ac134 hf134 ac135 wd14 hI17 hf135 ac136 hf136 ac137 hf137 ac138 hf138 ac139 hf139 ac140 hf140 ac141 wd15 hI18 hf141 ac142 hf142 ac143 hf143 ac144 hf144
  refine then_normal ?_
  refine code_if_false hf145 rfl ?_
  refine wp_skip ?_
  refine block_normal ?_
  refine then_normal ?_
  refine seq_start (l := [0, 1]) rfl ?_
  refine seq_one (op_val (v := .int .i64 2) hf145 rfl rfl rfl rfl rfl rfl (r_add (c := 2) rfl rfl (by rfl)) fun ac146 hf146 => ?_)
  refine seq_one (op_val (v := .int .i64 2) hf146 rfl rfl rfl rfl rfl rfl (r_move rfl) fun ac147 hf147 => ?_)
  refine seq_end ?_
  clear ac145 hf145 ac146 hf146
  refine then_normal ?_
  refine rounds_go ?_
  refine code_seq ?_
  refine seq_start (l := [0]) rfl ?_
  refine seq_one (op_val (v := .bool false) hf147 rfl rfl rfl rfl rfl rfl (r_lssC rfl rfl (by decide)) fun ac148 hf148 => ?_)
  refine seq_end ?_
  clear ac147 hf147
  refine then_normal ?_
  refine code_seq ?_
  refine code_if_false hf148 rfl ?_
  refine wp_exit ?_
  refine then_exit ?_
  refine then_exit ?_
  refine block_here ?_
  refine then_normal ?_
  refine code_seq ?_
  refine seq_start (l := [0, 1]) rfl ?_
  refine seq_one (op_pure hf148 rfl rfl rfl rfl ca_33 awake5_pur hI19 fun ac149 wd17 hI20 hf149 => ?_)
  refine seq_one (op_val (v := .bool true) hf149 rfl rfl rfl rfl rfl rfl (r_assign rfl) fun ac150 hf150 => ?_)
  refine seq_end ?_
  clear ac148 wd16 hI19 hf148 ac149 hf149
  refine then_normal ?_
  refine wp_ret ?_
  refine post1 rfl hf150 rfl ⟨?_, hI20.done (fresh_keys (ks := [b1, b2]) rfl (fk_cons hb1 (fk_cons hb2 fk_nil)))⟩
  rfl
end Go.Proofs.Ytjelaoblpchmmaa
