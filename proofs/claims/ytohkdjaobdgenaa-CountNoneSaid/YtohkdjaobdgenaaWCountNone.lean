/-
  The walk of CountNone.
-/
import Derived.Test.YtohkdjaobdgenaaNone
import Derived.Test.YtohkdjaobdgenaaPlain2
namespace Go.Proofs.Ytohkdjaobdgenaa
set_option linter.unusedVariables false
set_option linter.unusedSimpArgs false
set_option maxRecDepth 100000
open Go.RowKit
set_option maxHeartbeats 8000000 in
theorem countNone_walk {i n : Int} (h0 : 0 ≤ n) (h1 : n < 18446744073709551616) (w : World) : Calls Try.prog 8 [.int .i64 i, .int .u64 n].toArray w fun e w' => e = .returned (.bool true) ∧ Inv w [] w' := by
  obtain ⟨nn, hnn⟩ : ∃ x, IntKind.wrap .u64 (BitVec.ofInt IntKind.u64.bits n ||| BitVec.ofInt IntKind.u64.bits 256).toNat = x := ⟨_, rfl⟩
  have h256 : 256 ≤ nn := by rw [← hnn]; exact or256
  have hI1 := Inv.start w
  refine enter (n := 128) Try.func8 rfl rfl rfl ?_
  intro ac1 hf1
  refine code_seq ?_
  refine seq_start (l := [0]) rfl ?_
  refine seq_one (op_val (v := .bool false) hf1 rfl rfl rfl rfl rfl rfl (r_assign rfl) fun ac2 hf2 => ?_)
  refine seq_end ?_
  clear ac1 hf1
  refine then_normal ?_
  refine code_seq ?_
  refine code_seq ?_
  refine seq_start (l := [0, 1, 2, 3, 4]) rfl ?_
  refine seq_one (op_val (v := .agg #[.slice none 0 0, .int .i64 0]) hf2 rfl rfl rfl rfl rfl rfl (r_build (v := .agg #[.slice none 0 0, .int .i64 0]) rfl (fun _ => by kernel_rfl)) fun ac3 hf3 => ?_)
  refine seq_one (op_box hf3 rfl rfl rfl rfl hI1 fun ac4 b1 wd1 hb1 hI2 hf4 => ?_)
  have hI3 : Inv w [(b1, #[.slice none 0 0, .int .i64 0], 58)] wd1 := hI2
  refine seq_one (op_bslice (s := 30) (cells := #[.pointer none, .pointer (some ⟨b1, 0, none⟩)]) hf4 rfl rfl rfl rfl rfl (fun _ => by kernel_rfl) hI3 fun ac5 b2 wd2 hb2 hI4 hf5 => ?_)
  have hI5 : Inv w [(b1, #[.slice none 0 0, .int .i64 0], 58), (b2, #[.pointer none, .pointer (some ⟨b1, 0, none⟩)], 30)] wd2 := hI4
  refine seq_one (op_val (v := .int .i64 2) hf5 rfl rfl rfl rfl rfl rfl (r_len sl_59 rfl) fun ac6 hf6 => ?_)
  refine seq_one (op_val (v := .int .i64 0) hf6 rfl rfl rfl rfl rfl rfl (r_move rfl) fun ac7 hf7 => ?_)
  refine seq_end ?_
  clear ac2 hf2 ac3 hI1 hf3 hI2 ac4 wd1 hI3 hf4 hI4 ac5 hf5 ac6 hf6
  refine then_normal ?_
  refine wp_block ?_
  refine wp_loop_rounds 6 ?_
  refine rounds_go ?_
  refine code_seq ?_
  refine seq_start (l := [0]) rfl ?_
  refine seq_one (op_val (v := .bool true) hf7 rfl rfl rfl rfl rfl rfl (r_lssC rfl rfl (by decide)) fun ac8 hf8 => ?_)
  refine seq_end ?_
  clear ac7 hf7
  refine then_normal ?_
  refine code_seq ?_
  refine code_if_true hf8 rfl ?_
  refine wp_skip ?_
  refine then_normal ?_
  refine code_seq ?_
  refine wp_block ?_
  refine code_seq ?_
  refine seq_start (l := [0, 1, 2]) rfl ?_
  refine seq_one (op_val (v := .pointer (some ⟨b2, 0, none⟩)) hf8 rfl rfl rfl rfl rfl rfl (r_indexAddrS (i := 0) sl_59 rfl rfl rfl (by decide) rfl) fun ac9 hf9 => ?_)
  refine seq_one (op_val (v := .pointer none) hf9 rfl rfl rfl rfl rfl rfl (r_load ag_30 rfl (hI5.at 1 rfl) rfl) fun ac10 hf10 => ?_)
  refine seq_one (op_val (v := .pointer none) hf10 rfl rfl rfl rfl rfl rfl (r_assign rfl) fun ac11 hf11 => ?_)
  refine seq_end ?_
  clear ac8 hf8 ac9 hf9 ac10 hf10
  refine then_normal ?_
  refine code_seq ?_
  refine seq_start (l := [0, 1, 2, 3, 4, 5, 6, 7]) rfl ?_
  refine seq_one (op_val (v := .pointer none) hf11 rfl rfl rfl rfl rfl rfl (r_move rfl) fun ac12 hf12 => ?_)
  refine seq_one (op_val (v := .int .i64 i) hf12 rfl rfl rfl rfl rfl rfl (r_move rfl) fun ac13 hf13 => ?_)
  refine seq_one (op_pure hf13 rfl rfl rfl rfl ca_21 (get_nil i) hI5 fun ac14 wd3 hI6 hf14 => ?_)
  refine seq_one (op_val (v := .tuple #[.int .u64 0, .bool false]) hf14 rfl rfl rfl rfl rfl rfl (r_move rfl) fun ac15 hf15 => ?_)
  refine seq_one (op_val (v := .int .u64 0) hf15 rfl rfl rfl rfl rfl rfl (r_extract rfl rfl) fun ac16 hf16 => ?_)
  refine seq_one (op_val (v := .bool false) hf16 rfl rfl rfl rfl rfl rfl (r_extract rfl rfl) fun ac17 hf17 => ?_)
  refine seq_one (op_val (v := .int .u64 0) hf17 rfl rfl rfl rfl rfl rfl (r_assign rfl) fun ac18 hf18 => ?_)
  refine seq_one (op_val (v := .bool false) hf18 rfl rfl rfl rfl rfl rfl (r_assign rfl) fun ac19 hf19 => ?_)
  refine seq_end ?_
  clear ac11 hf11 ac12 hf12 ac13 wd2 hI5 hf13 ac14 hf14 ac15 hf15 ac16 hf16 ac17 hf17 ac18 hf18
  refine then_normal ?_
  refine code_seq ?_
  refine seq_start (l := [0, 1, 2, 3, 4, 5, 6]) rfl ?_
  refine seq_one (op_val (v := .pointer none) hf19 rfl rfl rfl rfl rfl rfl (r_move rfl) fun ac20 hf20 => ?_)
  refine seq_one (op_pure hf20 rfl rfl rfl rfl ca_18 (since_nil) hI6 fun ac21 wd4 hI7 hf21 => ?_)
  refine seq_one (op_val (v := .tuple #[.slice none 0 0, .int .i64 1]) hf21 rfl rfl rfl rfl rfl rfl (r_move rfl) fun ac22 hf22 => ?_)
  refine seq_one (op_val (v := .slice none 0 0) hf22 rfl rfl rfl rfl rfl rfl (r_extract rfl rfl) fun ac23 hf23 => ?_)
  refine seq_one (op_val (v := .int .i64 1) hf23 rfl rfl rfl rfl rfl rfl (r_extract rfl rfl) fun ac24 hf24 => ?_)
  refine seq_one (op_val (v := .slice none 0 0) hf24 rfl rfl rfl rfl rfl rfl (r_assign rfl) fun ac25 hf25 => ?_)
  refine seq_one (op_val (v := .int .i64 1) hf25 rfl rfl rfl rfl rfl rfl (r_assign rfl) fun ac26 hf26 => ?_)
  refine seq_end ?_
  clear ac19 hf19 ac20 wd3 hI6 hf20 ac21 hf21 ac22 hf22 ac23 hf23 ac24 hf24 ac25 hf25
  refine then_normal ?_
  refine code_seq ?_
  refine seq_start (l := [0, 1, 2, 3, 4, 5, 6, 7, 8, 9, 10, 11, 12, 13, 14, 15, 16, 17, 18, 19, 20, 21, 22, 23, 24, 25, 26, 27, 28]) rfl ?_
  refine seq_one (op_val (v := .pointer none) hf26 rfl rfl rfl rfl rfl rfl (r_move rfl) fun ac27 hf27 => ?_)
  refine seq_one (op_val (v := .int .i64 i) hf27 rfl rfl rfl rfl rfl rfl (r_move rfl) fun ac28 hf28 => ?_)
  refine seq_one (op_val (v := .int .u64 n) hf28 rfl rfl rfl rfl rfl rfl (r_move rfl) fun ac29 hf29 => ?_)
  refine seq_one (op_pure hf29 rfl rfl rfl rfl ca_16 (add_nil i n) hI7 fun ac30 wd5 hI8 hf30 => ?_)
  refine seq_one (op_val (v := .bool false) hf30 rfl rfl rfl rfl rfl rfl (r_neqC rfl rfl (by decide)) fun ac31 hf31 => ?_)
  refine seq_one (op_val (v := .bool false) hf31 rfl rfl rfl rfl rfl rfl (r_move rfl) fun ac32 hf32 => ?_)
  refine seq_one (op_val (v := .int .u64 0) hf32 rfl rfl rfl rfl rfl rfl (r_move rfl) fun ac33 hf33 => ?_)
  refine seq_one (op_val (v := .bool false) hf33 rfl rfl rfl rfl rfl rfl (r_neqC rfl rfl (by decide)) fun ac34 hf34 => ?_)
  refine seq_one (op_val (v := .bool false) hf34 rfl rfl rfl rfl rfl rfl (r_pickF rfl rfl) fun ac35 hf35 => ?_)
  refine seq_one (op_val (v := .bool false) hf35 rfl rfl rfl rfl rfl rfl (r_move rfl) fun ac36 hf36 => ?_)
  refine seq_one (op_val (v := .bool false) hf36 rfl rfl rfl rfl rfl rfl (r_move rfl) fun ac37 hf37 => ?_)
  refine seq_one (op_val (v := .bool false) hf37 rfl rfl rfl rfl rfl rfl (r_pickF rfl rfl) fun ac38 hf38 => ?_)
  refine seq_one (op_val (v := .bool false) hf38 rfl rfl rfl rfl rfl rfl (r_move rfl) fun ac39 hf39 => ?_)
  refine seq_one (op_val (v := .pointer none) hf39 rfl rfl rfl rfl rfl rfl (r_move rfl) fun ac40 hf40 => ?_)
  refine seq_one (op_pure hf40 rfl rfl rfl rfl ca_20 (all_nil) hI8 fun ac41 wd6 hI9 hf41 => ?_)
  refine seq_one (op_val (v := .int .i64 0) hf41 rfl rfl rfl rfl rfl rfl (r_len sl_23 rfl) fun ac42 hf42 => ?_)
  refine seq_one (op_val (v := .pointer none) hf42 rfl rfl rfl rfl rfl rfl (r_move rfl) fun ac43 hf43 => ?_)
  refine seq_one (op_pure hf43 rfl rfl rfl rfl ca_14 (drain_nil) hI9 fun ac44 wd7 hI10 hf44 => ?_)
  refine seq_one (op_val (v := .int .i64 0) hf44 rfl rfl rfl rfl rfl rfl (r_len sl_23 rfl) fun ac45 hf45 => ?_)
  refine seq_one (op_val (v := .int .i64 0) hf45 rfl rfl rfl rfl rfl rfl (r_add (c := 0) rfl rfl (by rfl)) fun ac46 hf46 => ?_)
  refine seq_one (op_val (v := .slice none 0 0) hf46 rfl rfl rfl rfl rfl rfl (r_move rfl) fun ac47 hf47 => ?_)
  refine seq_one (op_val (v := .int .i64 0) hf47 rfl rfl rfl rfl rfl rfl (r_len sl_23 rfl) fun ac48 hf48 => ?_)
  refine seq_one (op_val (v := .int .i64 0) hf48 rfl rfl rfl rfl rfl rfl (r_add (c := 0) rfl rfl (by rfl)) fun ac49 hf49 => ?_)
  refine seq_one (op_val (v := .bool false) hf49 rfl rfl rfl rfl rfl rfl (r_neqC rfl rfl (by decide)) fun ac50 hf50 => ?_)
  refine seq_one (op_val (v := .bool false) hf50 rfl rfl rfl rfl rfl rfl (r_pickF rfl rfl) fun ac51 hf51 => ?_)
  refine seq_one (op_val (v := .bool false) hf51 rfl rfl rfl rfl rfl rfl (r_move rfl) fun ac52 hf52 => ?_)
  refine seq_one (op_val (v := .int .i64 1) hf52 rfl rfl rfl rfl rfl rfl (r_move rfl) fun ac53 hf53 => ?_)
  refine seq_one (op_val (v := .bool false) hf53 rfl rfl rfl rfl rfl rfl (r_neqC rfl rfl (by decide)) fun ac54 hf54 => ?_)
  refine seq_one (op_val (v := .bool false) hf54 rfl rfl rfl rfl rfl rfl (r_pickF rfl rfl) fun ac55 hf55 => ?_)
  refine seq_end ?_
  clear ac26 hf26 ac27 hf27 ac28 hf28 ac29 wd4 hI7 hf29 ac30 hf30 ac31 hf31 ac32 hf32 ac33 hf33 ac34 hf34 ac35 hf35 ac36 hf36 ac37 hf37 ac38 hf38 ac39 hf39 ac40 wd5 hI8 hf40 ac41 hf41 ac42 hf42 ac43 wd6 hI9 hf43 ac44 hf44 ac45 hf45 ac46 hf46 ac47 hf47 ac48 hf48 ac49 hf49 ac50 hf50 ac51 hf51 ac52 hf52 ac53 hf53 ac54 hf54
  refine then_normal ?_
  refine code_if_false hf55 rfl ?_
  refine wp_skip ?_
  refine block_normal ?_
  refine then_normal ?_
  refine seq_start (l := [0, 1]) rfl ?_
  refine seq_one (op_val (v := .int .i64 1) hf55 rfl rfl rfl rfl rfl rfl (r_add (c := 1) rfl rfl (by rfl)) fun ac56 hf56 => ?_)
  refine seq_one (op_val (v := .int .i64 1) hf56 rfl rfl rfl rfl rfl rfl (r_move rfl) fun ac57 hf57 => ?_)
  refine seq_end ?_
  clear ac55 hf55 ac56 hf56
  refine then_normal ?_
  refine rounds_go ?_
  refine code_seq ?_
  refine seq_start (l := [0]) rfl ?_
  refine seq_one (op_val (v := .bool true) hf57 rfl rfl rfl rfl rfl rfl (r_lssC rfl rfl (by decide)) fun ac58 hf58 => ?_)
  refine seq_end ?_
  clear ac57 hf57
  refine then_normal ?_
  refine code_seq ?_
  refine code_if_true hf58 rfl ?_
  refine wp_skip ?_
  refine then_normal ?_
  refine code_seq ?_
  refine wp_block ?_
  refine code_seq ?_
  refine seq_start (l := [0, 1, 2]) rfl ?_
  refine seq_one (op_val (v := .pointer (some ⟨b2, 1, none⟩)) hf58 rfl rfl rfl rfl rfl rfl (r_indexAddrS (i := 1) sl_59 rfl rfl rfl (by decide) rfl) fun ac59 hf59 => ?_)
  refine seq_one (op_val (v := .pointer (some ⟨b1, 0, none⟩)) hf59 rfl rfl rfl rfl rfl rfl (r_load ag_30 rfl (hI10.at 1 rfl) rfl) fun ac60 hf60 => ?_)
  refine seq_one (op_val (v := .pointer (some ⟨b1, 0, none⟩)) hf60 rfl rfl rfl rfl rfl rfl (r_assign rfl) fun ac61 hf61 => ?_)
  refine seq_end ?_
  clear ac58 hf58 ac59 hf59 ac60 hf60
  refine then_normal ?_
  refine code_seq ?_
  refine seq_start (l := [0, 1, 2, 3, 4, 5, 6, 7]) rfl ?_
  refine seq_one (op_val (v := .pointer (some ⟨b1, 0, none⟩)) hf61 rfl rfl rfl rfl rfl rfl (r_move rfl) fun ac62 hf62 => ?_)
  refine seq_one (op_val (v := .int .i64 i) hf62 rfl rfl rfl rfl rfl rfl (r_move rfl) fun ac63 hf63 => ?_)
  refine seq_one (op_pureW hf63 rfl rfl rfl rfl ca_21 (get_zero i b1 _ (Has.cons (hI10.at 0 rfl) Has.nil)) hI10 fun ac64 wd8 hI11 hf64 => ?_)
  refine seq_one (op_val (v := .tuple #[.int .u64 0, .bool false]) hf64 rfl rfl rfl rfl rfl rfl (r_move rfl) fun ac65 hf65 => ?_)
  refine seq_one (op_val (v := .int .u64 0) hf65 rfl rfl rfl rfl rfl rfl (r_extract rfl rfl) fun ac66 hf66 => ?_)
  refine seq_one (op_val (v := .bool false) hf66 rfl rfl rfl rfl rfl rfl (r_extract rfl rfl) fun ac67 hf67 => ?_)
  refine seq_one (op_val (v := .int .u64 0) hf67 rfl rfl rfl rfl rfl rfl (r_assign rfl) fun ac68 hf68 => ?_)
  refine seq_one (op_val (v := .bool false) hf68 rfl rfl rfl rfl rfl rfl (r_assign rfl) fun ac69 hf69 => ?_)
  refine seq_end ?_
  clear ac61 hf61 ac62 hf62 ac63 wd7 hI10 hf63 ac64 hf64 ac65 hf65 ac66 hf66 ac67 hf67 ac68 hf68
  refine then_normal ?_
  refine code_seq ?_
  refine seq_start (l := [0, 1, 2, 3, 4, 5, 6]) rfl ?_
  refine seq_one (op_val (v := .pointer (some ⟨b1, 0, none⟩)) hf69 rfl rfl rfl rfl rfl rfl (r_move rfl) fun ac70 hf70 => ?_)
  refine seq_one (op_pureW hf70 rfl rfl rfl rfl ca_18 (since_zero b1 _ (Has.cons (hI11.at 0 rfl) Has.nil)) hI11 fun ac71 wd9 hI12 hf71 => ?_)
  refine seq_one (op_val (v := .tuple #[.slice none 0 0, .int .i64 1]) hf71 rfl rfl rfl rfl rfl rfl (r_move rfl) fun ac72 hf72 => ?_)
  refine seq_one (op_val (v := .slice none 0 0) hf72 rfl rfl rfl rfl rfl rfl (r_extract rfl rfl) fun ac73 hf73 => ?_)
  refine seq_one (op_val (v := .int .i64 1) hf73 rfl rfl rfl rfl rfl rfl (r_extract rfl rfl) fun ac74 hf74 => ?_)
  refine seq_one (op_val (v := .slice none 0 0) hf74 rfl rfl rfl rfl rfl rfl (r_assign rfl) fun ac75 hf75 => ?_)
  refine seq_one (op_val (v := .int .i64 1) hf75 rfl rfl rfl rfl rfl rfl (r_assign rfl) fun ac76 hf76 => ?_)
  refine seq_end ?_
  clear ac69 hf69 ac70 wd8 hI11 hf70 ac71 hf71 ac72 hf72 ac73 hf73 ac74 hf74 ac75 hf75
  refine then_normal ?_
  refine code_seq ?_
  refine seq_start (l := [0, 1, 2, 3, 4, 5, 6, 7, 8, 9, 10, 11, 12, 13, 14, 15, 16, 17, 18, 19, 20, 21, 22, 23, 24, 25, 26, 27, 28]) rfl ?_
  refine seq_one (op_val (v := .pointer (some ⟨b1, 0, none⟩)) hf76 rfl rfl rfl rfl rfl rfl (r_move rfl) fun ac77 hf77 => ?_)
  refine seq_one (op_val (v := .int .i64 i) hf77 rfl rfl rfl rfl rfl rfl (r_move rfl) fun ac78 hf78 => ?_)
  refine seq_one (op_val (v := .int .u64 n) hf78 rfl rfl rfl rfl rfl rfl (r_move rfl) fun ac79 hf79 => ?_)
  refine seq_one (op_pureW hf79 rfl rfl rfl rfl ca_16 (add_zero i n b1 _ (Has.cons (hI12.at 0 rfl) Has.nil)) hI12 fun ac80 wd10 hI13 hf80 => ?_)
  refine seq_one (op_val (v := .bool false) hf80 rfl rfl rfl rfl rfl rfl (r_neqC rfl rfl (by decide)) fun ac81 hf81 => ?_)
  refine seq_one (op_val (v := .bool false) hf81 rfl rfl rfl rfl rfl rfl (r_move rfl) fun ac82 hf82 => ?_)
  refine seq_one (op_val (v := .int .u64 0) hf82 rfl rfl rfl rfl rfl rfl (r_move rfl) fun ac83 hf83 => ?_)
  refine seq_one (op_val (v := .bool false) hf83 rfl rfl rfl rfl rfl rfl (r_neqC rfl rfl (by decide)) fun ac84 hf84 => ?_)
  refine seq_one (op_val (v := .bool false) hf84 rfl rfl rfl rfl rfl rfl (r_pickF rfl rfl) fun ac85 hf85 => ?_)
  refine seq_one (op_val (v := .bool false) hf85 rfl rfl rfl rfl rfl rfl (r_move rfl) fun ac86 hf86 => ?_)
  refine seq_one (op_val (v := .bool false) hf86 rfl rfl rfl rfl rfl rfl (r_move rfl) fun ac87 hf87 => ?_)
  refine seq_one (op_val (v := .bool false) hf87 rfl rfl rfl rfl rfl rfl (r_pickF rfl rfl) fun ac88 hf88 => ?_)
  refine seq_one (op_val (v := .bool false) hf88 rfl rfl rfl rfl rfl rfl (r_move rfl) fun ac89 hf89 => ?_)
  refine seq_one (op_val (v := .pointer (some ⟨b1, 0, none⟩)) hf89 rfl rfl rfl rfl rfl rfl (r_move rfl) fun ac90 hf90 => ?_)
  refine seq_one (op_pureW hf90 rfl rfl rfl rfl ca_20 (all_zero b1 _ (Has.cons (hI13.at 0 rfl) Has.nil)) hI13 fun ac91 wd11 hI14 hf91 => ?_)
  refine seq_one (op_val (v := .int .i64 0) hf91 rfl rfl rfl rfl rfl rfl (r_len sl_23 rfl) fun ac92 hf92 => ?_)
  refine seq_one (op_val (v := .pointer (some ⟨b1, 0, none⟩)) hf92 rfl rfl rfl rfl rfl rfl (r_move rfl) fun ac93 hf93 => ?_)
  refine seq_one (op_pureW hf93 rfl rfl rfl rfl ca_14 (drain_zero b1 _ (Has.cons (hI14.at 0 rfl) Has.nil)) hI14 fun ac94 wd12 hI15 hf94 => ?_)
  refine seq_one (op_val (v := .int .i64 0) hf94 rfl rfl rfl rfl rfl rfl (r_len sl_23 rfl) fun ac95 hf95 => ?_)
  refine seq_one (op_val (v := .int .i64 0) hf95 rfl rfl rfl rfl rfl rfl (r_add (c := 0) rfl rfl (by rfl)) fun ac96 hf96 => ?_)
  refine seq_one (op_val (v := .slice none 0 0) hf96 rfl rfl rfl rfl rfl rfl (r_move rfl) fun ac97 hf97 => ?_)
  refine seq_one (op_val (v := .int .i64 0) hf97 rfl rfl rfl rfl rfl rfl (r_len sl_23 rfl) fun ac98 hf98 => ?_)
  refine seq_one (op_val (v := .int .i64 0) hf98 rfl rfl rfl rfl rfl rfl (r_add (c := 0) rfl rfl (by rfl)) fun ac99 hf99 => ?_)
  refine seq_one (op_val (v := .bool false) hf99 rfl rfl rfl rfl rfl rfl (r_neqC rfl rfl (by decide)) fun ac100 hf100 => ?_)
  refine seq_one (op_val (v := .bool false) hf100 rfl rfl rfl rfl rfl rfl (r_pickF rfl rfl) fun ac101 hf101 => ?_)
  refine seq_one (op_val (v := .bool false) hf101 rfl rfl rfl rfl rfl rfl (r_move rfl) fun ac102 hf102 => ?_)
  refine seq_one (op_val (v := .int .i64 1) hf102 rfl rfl rfl rfl rfl rfl (r_move rfl) fun ac103 hf103 => ?_)
  refine seq_one (op_val (v := .bool false) hf103 rfl rfl rfl rfl rfl rfl (r_neqC rfl rfl (by decide)) fun ac104 hf104 => ?_)
  refine seq_one (op_val (v := .bool false) hf104 rfl rfl rfl rfl rfl rfl (r_pickF rfl rfl) fun ac105 hf105 => ?_)
  refine seq_end ?_
  clear ac76 hf76 ac77 hf77 ac78 hf78 ac79 wd9 hI12 hf79 ac80 hf80 ac81 hf81 ac82 hf82 ac83 hf83 ac84 hf84 ac85 hf85 ac86 hf86 ac87 hf87 ac88 hf88 ac89 hf89 ac90 wd10 hI13 hf90 ac91 hf91 ac92 hf92 ac93 wd11 hI14 hf93 ac94 hf94 ac95 hf95 ac96 hf96 ac97 hf97 ac98 hf98 ac99 hf99 ac100 hf100 ac101 hf101 ac102 hf102 ac103 hf103 ac104 hf104
  refine then_normal ?_
  refine code_if_false hf105 rfl ?_
  refine wp_skip ?_
  refine block_normal ?_
  refine then_normal ?_
  refine seq_start (l := [0, 1]) rfl ?_
  refine seq_one (op_val (v := .int .i64 2) hf105 rfl rfl rfl rfl rfl rfl (r_add (c := 2) rfl rfl (by rfl)) fun ac106 hf106 => ?_)
  refine seq_one (op_val (v := .int .i64 2) hf106 rfl rfl rfl rfl rfl rfl (r_move rfl) fun ac107 hf107 => ?_)
  refine seq_end ?_
  clear ac105 hf105 ac106 hf106
  refine then_normal ?_
  refine rounds_go ?_
  refine code_seq ?_
  refine seq_start (l := [0]) rfl ?_
  refine seq_one (op_val (v := .bool false) hf107 rfl rfl rfl rfl rfl rfl (r_lssC rfl rfl (by decide)) fun ac108 hf108 => ?_)
  refine seq_end ?_
  clear ac107 hf107
  refine then_normal ?_
  refine code_seq ?_
  refine code_if_false hf108 rfl ?_
  refine wp_exit ?_
  refine then_exit ?_
  refine then_exit ?_
  refine block_here ?_
  refine then_normal ?_
  refine code_seq ?_
  refine seq_start (l := [0, 1, 2, 3, 4, 5]) rfl ?_
  refine seq_one (op_call (R := fun v w' => ∃ lb cb, Array.size (World.heap wd12) ≤ lb ∧ Array.size (World.heap wd12) ≤ cb ∧ v = .tuple #[.pointer (some ⟨cb, 0, none⟩), .int .i64 0] ∧ Inv wd12 [(lb, arr .u64 (List.replicate 3 0), 24), (cb, #[.slice (some ⟨lb, 0, none⟩) 3 3, .int .i64 8], 58)] w') hf108 rfl rfl rfl rfl ca_11 ((new_walk (n := 3) (k := 8) (by decide) (by decide) (by decide) (by decide) _).mono fun e w' ⟨lb, cb, h1, h2, h3, h4⟩ => ⟨_, h3, lb, cb, h1, h2, rfl, h4⟩) fun ac109 v wd13 hR hf109 => ?_)
  obtain ⟨b3, b4, hqb3, hqb4, rfl, hwb3⟩ := hR
  have hb3 := Nat.le_trans hI15.size hqb3
  have hb4 := Nat.le_trans hI15.size hqb4
  have hI16 : Inv w [(b1, #[.slice none 0 0, .int .i64 0], 58), (b2, #[.pointer none, .pointer (some ⟨b1, 0, none⟩)], 30), (b3, arr .u64 (List.replicate 3 0), 24), (b4, #[.slice (some ⟨b3, 0, none⟩) 3 3, .int .i64 8], 58)] _ := hI15.callN hwb3 (fun x hx => by simp only [List.mem_cons, List.mem_nil_iff, or_false] at hx; rcases hx with rfl | rfl <;> assumption)
  refine seq_one (op_val (v := .tuple #[.pointer (some ⟨b4, 0, none⟩), .int .i64 0]) hf109 rfl rfl rfl rfl rfl rfl (r_move rfl) fun ac110 hf110 => ?_)
  refine seq_one (op_val (v := .pointer (some ⟨b4, 0, none⟩)) hf110 rfl rfl rfl rfl rfl rfl (r_extract rfl rfl) fun ac111 hf111 => ?_)
  refine seq_one (op_val (v := .int .i64 0) hf111 rfl rfl rfl rfl rfl rfl (r_extract rfl rfl) fun ac112 hf112 => ?_)
  refine seq_one (op_val (v := .pointer (some ⟨b4, 0, none⟩)) hf112 rfl rfl rfl rfl rfl rfl (r_assign rfl) fun ac113 hf113 => ?_)
  refine seq_one (op_val (v := .int .i64 0) hf113 rfl rfl rfl rfl rfl rfl (r_assign rfl) fun ac114 hf114 => ?_)
  refine seq_end ?_
  clear ac108 wd12 hf108 hI15 hwb3 hqb3 hqb4 ac109 hf109 ac110 hf110 ac111 hf111 ac112 hf112 ac113 hf113
  refine then_normal ?_
  refine code_seq ?_
  refine code_seq ?_
  refine seq_start (l := [0, 1, 2, 3, 4, 5, 6]) rfl ?_
  refine seq_one (op_val (v := .int .i64 0) hf114 rfl rfl rfl rfl rfl rfl (r_move rfl) fun ac115 hf115 => ?_)
  refine seq_one (op_val (v := .bool false) hf115 rfl rfl rfl rfl rfl rfl (r_neqC rfl rfl (by decide)) fun ac116 hf116 => ?_)
  refine seq_one (op_val (v := .bool false) hf116 rfl rfl rfl rfl rfl rfl (r_move rfl) fun ac117 hf117 => ?_)
  refine seq_one (op_val (v := .pointer (some ⟨b4, 0, none⟩)) hf117 rfl rfl rfl rfl rfl rfl (r_move rfl) fun ac118 hf118 => ?_)
  refine seq_one (op_call (R := fun v w' => v = .int .i64 0 ∧ Inv _ [(b3, arr .u64 ((List.replicate 3 0).set 1 (((List.replicate 3 0).getD 1 0 + 7) % pw 8)), 24), (b4, #[.slice (some ⟨b3, 0, none⟩) 3 3, .int .i64 8], 58)] w') hf118 rfl rfl rfl rfl ca_16 ((add_in (n := 3) (k := 8) (j := 1) rfl (by decide) (by decide) (by decide) (hI16.ne (i := 2) (j := 3) rfl rfl (by decide)) (Has.cons (hI16.at 2 rfl) (Has.cons (hI16.at 3 rfl) Has.nil))).mono fun _ _ h => ⟨_, h.1, rfl, h.2⟩) fun ac119 v wd14 hR5 hf119 => ?_)
  obtain ⟨rfl, hR5⟩ := hR5
  have hI17 : Inv w [(b1, #[.slice none 0 0, .int .i64 0], 58), (b2, #[.pointer none, .pointer (some ⟨b1, 0, none⟩)], 30), (b3, arr .u64 ((List.replicate 3 0).set 1 (((List.replicate 3 0).getD 1 0 + 7) % pw 8)), 24), (b4, #[.slice (some ⟨b3, 0, none⟩) 3 3, .int .i64 8], 58)] _ := Inv.callS (A := [(b1, #[.slice none 0 0, .int .i64 0], 58), (b2, #[.pointer none, .pointer (some ⟨b1, 0, none⟩)], 30)]) (S := [(b3, arr .u64 (List.replicate 3 0), 24), (b4, #[.slice (some ⟨b3, 0, none⟩) 3 3, .int .i64 8], 58)]) (S' := [(b3, arr .u64 ((List.replicate 3 0).set 1 (((List.replicate 3 0).getD 1 0 + 7) % pw 8)), 24), (b4, #[.slice (some ⟨b3, 0, none⟩) 3 3, .int .i64 8], 58)]) (L := []) (N := []) hI16 hR5 rfl (fun _ h => by cases h)
  refine seq_one (op_val (v := .bool false) hf119 rfl rfl rfl rfl rfl rfl (r_neqC rfl rfl (by decide)) fun ac120 hf120 => ?_)
  refine seq_one (op_val (v := .bool false) hf120 rfl rfl rfl rfl rfl rfl (r_pickF rfl rfl) fun ac121 hf121 => ?_)
  refine seq_end ?_
  clear ac114 hf114 ac115 hf115 ac116 hf116 ac117 hf117 ac118 wd13 hf118 hI16 hR5 ac119 hf119 ac120 hf120
  refine then_normal ?_
  refine code_if_false hf121 rfl ?_
  refine wp_skip ?_
  refine then_normal ?_
  refine code_seq ?_
  refine code_seq ?_
  refine seq_start (l := [0, 1, 2, 3, 4, 5, 6]) rfl ?_
  refine seq_one (op_val (v := .int .i64 i) hf121 rfl rfl rfl rfl rfl rfl (r_move rfl) fun ac122 hf122 => ?_)
  refine seq_one (op_val (v := .int .i64 (if (-1) < i then (-1) else i)) hf122 rfl rfl rfl rfl rfl rfl (r_min rfl rfl) fun ac123 hf123 => ?_)
  refine seq_one (op_val (v := .int .i64 i) hf123 rfl rfl rfl rfl rfl rfl (r_move rfl) fun ac124 hf124 => ?_)
  refine seq_one (op_val (v := .int .i64 (if 3 > i then 3 else i)) hf124 rfl rfl rfl rfl rfl rfl (r_max rfl rfl) fun ac125 hf125 => ?_)
  refine seq_one (op_bslice (s := 3) (cells := #[.int .i64 (-1), .int .i64 3, .int .i64 (if (-1) < i then (-1) else i), .int .i64 (if 3 > i then 3 else i)]) hf125 rfl rfl rfl rfl rfl (fun _ => by kernel_rfl) hI17 fun ac126 b6 wd15 hb6 hI18 hf126 => ?_)
  have hI19 : Inv w [(b1, #[.slice none 0 0, .int .i64 0], 58), (b2, #[.pointer none, .pointer (some ⟨b1, 0, none⟩)], 30), (b3, arr .u64 ((List.replicate 3 0).set 1 (((List.replicate 3 0).getD 1 0 + 7) % pw 8)), 24), (b4, #[.slice (some ⟨b3, 0, none⟩) 3 3, .int .i64 8], 58), (b6, #[.int .i64 (-1), .int .i64 3, .int .i64 (if (-1) < i then (-1) else i), .int .i64 (if 3 > i then 3 else i)], 3)] wd15 := hI18
  refine seq_one (op_val (v := .int .i64 4) hf126 rfl rfl rfl rfl rfl rfl (r_len sl_60 rfl) fun ac127 hf127 => ?_)
  refine seq_one (op_val (v := .int .i64 0) hf127 rfl rfl rfl rfl rfl rfl (r_move rfl) fun ac128 hf128 => ?_)
  refine seq_end ?_
  clear ac121 hf121 ac122 hf122 ac123 hf123 ac124 hf124 ac125 wd14 hI17 hf125 hI18 ac126 hf126 ac127 hf127
  refine then_normal ?_
  refine wp_block ?_
  refine wp_loop_rounds 6 ?_
  refine rounds_go ?_
  refine code_seq ?_
  refine seq_start (l := [0]) rfl ?_
  refine seq_one (op_val (v := .bool true) hf128 rfl rfl rfl rfl rfl rfl (r_lssC rfl rfl (by decide)) fun ac129 hf129 => ?_)
  refine seq_end ?_
  clear ac128 hf128
  refine then_normal ?_
  refine code_seq ?_
  refine code_if_true hf129 rfl ?_
  refine wp_skip ?_
  refine then_normal ?_
  refine code_seq ?_
  refine wp_block ?_
  refine code_seq ?_
  refine seq_start (l := [0, 1, 2]) rfl ?_
  refine seq_one (op_val (v := .pointer (some ⟨b6, 0, none⟩)) hf129 rfl rfl rfl rfl rfl rfl (r_indexAddrS (i := 0) sl_60 rfl rfl rfl (by decide) rfl) fun ac130 hf130 => ?_)
  refine seq_one (op_val (v := .int .i64 (-1)) hf130 rfl rfl rfl rfl rfl rfl (r_load ag_3 rfl (hI19.at 4 rfl) rfl) fun ac131 hf131 => ?_)
  refine seq_one (op_val (v := .int .i64 (-1)) hf131 rfl rfl rfl rfl rfl rfl (r_assign rfl) fun ac132 hf132 => ?_)
  refine seq_end ?_
  clear ac129 hf129 ac130 hf130 ac131 hf131
  refine then_normal ?_
  refine code_seq ?_
  refine seq_start (l := [0, 1, 2, 3, 4]) rfl ?_
  refine seq_one (op_val (v := .pointer (some ⟨b4, 0, none⟩)) hf132 rfl rfl rfl rfl rfl rfl (r_move rfl) fun ac133 hf133 => ?_)
  refine seq_one (op_val (v := .int .i64 (-1)) hf133 rfl rfl rfl rfl rfl rfl (r_move rfl) fun ac134 hf134 => ?_)
  refine seq_one (op_val (v := .int .u64 n) hf134 rfl rfl rfl rfl rfl rfl (r_move rfl) fun ac135 hf135 => ?_)
  refine seq_one (op_pureW hf135 rfl rfl rfl rfl ca_16 (add_out rfl (by decide) (hI19.ne (i := 2) (j := 3) rfl rfl (by decide)) (Has.cons (hI19.at 2 rfl) (Has.cons (hI19.at 3 rfl) Has.nil))) hI19 fun ac136 wd16 hI20 hf136 => ?_)
  refine seq_one (op_val (v := .bool false) hf136 rfl rfl rfl rfl rfl rfl (r_neqC rfl rfl (by decide)) fun ac137 hf137 => ?_)
  refine seq_end ?_
  clear ac132 hf132 ac133 hf133 ac134 hf134 ac135 wd15 hI19 hf135 ac136 hf136
  refine then_normal ?_
  refine code_if_false hf137 rfl ?_
  refine wp_skip ?_
  refine block_normal ?_
  refine then_normal ?_
  refine seq_start (l := [0, 1]) rfl ?_
  refine seq_one (op_val (v := .int .i64 1) hf137 rfl rfl rfl rfl rfl rfl (r_add (c := 1) rfl rfl (by rfl)) fun ac138 hf138 => ?_)
  refine seq_one (op_val (v := .int .i64 1) hf138 rfl rfl rfl rfl rfl rfl (r_move rfl) fun ac139 hf139 => ?_)
  refine seq_end ?_
  clear ac137 hf137 ac138 hf138
  refine then_normal ?_
  refine rounds_go ?_
  refine code_seq ?_
  refine seq_start (l := [0]) rfl ?_
  refine seq_one (op_val (v := .bool true) hf139 rfl rfl rfl rfl rfl rfl (r_lssC rfl rfl (by decide)) fun ac140 hf140 => ?_)
  refine seq_end ?_
  clear ac139 hf139
  refine then_normal ?_
  refine code_seq ?_
  refine code_if_true hf140 rfl ?_
  refine wp_skip ?_
  refine then_normal ?_
  refine code_seq ?_
  refine wp_block ?_
  refine code_seq ?_
  refine seq_start (l := [0, 1, 2]) rfl ?_
  refine seq_one (op_val (v := .pointer (some ⟨b6, 1, none⟩)) hf140 rfl rfl rfl rfl rfl rfl (r_indexAddrS (i := 1) sl_60 rfl rfl rfl (by decide) rfl) fun ac141 hf141 => ?_)
  refine seq_one (op_val (v := .int .i64 3) hf141 rfl rfl rfl rfl rfl rfl (r_load ag_3 rfl (hI20.at 4 rfl) rfl) fun ac142 hf142 => ?_)
  refine seq_one (op_val (v := .int .i64 3) hf142 rfl rfl rfl rfl rfl rfl (r_assign rfl) fun ac143 hf143 => ?_)
  refine seq_end ?_
  clear ac140 hf140 ac141 hf141 ac142 hf142
  refine then_normal ?_
  refine code_seq ?_
  refine seq_start (l := [0, 1, 2, 3, 4]) rfl ?_
  refine seq_one (op_val (v := .pointer (some ⟨b4, 0, none⟩)) hf143 rfl rfl rfl rfl rfl rfl (r_move rfl) fun ac144 hf144 => ?_)
  refine seq_one (op_val (v := .int .i64 3) hf144 rfl rfl rfl rfl rfl rfl (r_move rfl) fun ac145 hf145 => ?_)
  refine seq_one (op_val (v := .int .u64 n) hf145 rfl rfl rfl rfl rfl rfl (r_move rfl) fun ac146 hf146 => ?_)
  refine seq_one (op_pureW hf146 rfl rfl rfl rfl ca_16 (add_out rfl (by decide) (hI20.ne (i := 2) (j := 3) rfl rfl (by decide)) (Has.cons (hI20.at 2 rfl) (Has.cons (hI20.at 3 rfl) Has.nil))) hI20 fun ac147 wd17 hI21 hf147 => ?_)
  refine seq_one (op_val (v := .bool false) hf147 rfl rfl rfl rfl rfl rfl (r_neqC rfl rfl (by decide)) fun ac148 hf148 => ?_)
  refine seq_end ?_
  clear ac143 hf143 ac144 hf144 ac145 hf145 ac146 wd16 hI20 hf146 ac147 hf147
  refine then_normal ?_
  refine code_if_false hf148 rfl ?_
  refine wp_skip ?_
  refine block_normal ?_
  refine then_normal ?_
  refine seq_start (l := [0, 1]) rfl ?_
  refine seq_one (op_val (v := .int .i64 2) hf148 rfl rfl rfl rfl rfl rfl (r_add (c := 2) rfl rfl (by rfl)) fun ac149 hf149 => ?_)
  refine seq_one (op_val (v := .int .i64 2) hf149 rfl rfl rfl rfl rfl rfl (r_move rfl) fun ac150 hf150 => ?_)
  refine seq_end ?_
  clear ac148 hf148 ac149 hf149
  refine then_normal ?_
  refine rounds_go ?_
  refine code_seq ?_
  refine seq_start (l := [0]) rfl ?_
  refine seq_one (op_val (v := .bool true) hf150 rfl rfl rfl rfl rfl rfl (r_lssC rfl rfl (by decide)) fun ac151 hf151 => ?_)
  refine seq_end ?_
  clear ac150 hf150
  refine then_normal ?_
  refine code_seq ?_
  refine code_if_true hf151 rfl ?_
  refine wp_skip ?_
  refine then_normal ?_
  refine code_seq ?_
  refine wp_block ?_
  refine code_seq ?_
  refine seq_start (l := [0, 1, 2]) rfl ?_
  refine seq_one (op_val (v := .pointer (some ⟨b6, 2, none⟩)) hf151 rfl rfl rfl rfl rfl rfl (r_indexAddrS (i := 2) sl_60 rfl rfl rfl (by decide) rfl) fun ac152 hf152 => ?_)
  refine seq_one (op_val (v := .int .i64 (if (-1) < i then (-1) else i)) hf152 rfl rfl rfl rfl rfl rfl (r_load ag_3 rfl (hI21.at 4 rfl) rfl) fun ac153 hf153 => ?_)
  refine seq_one (op_val (v := .int .i64 (if (-1) < i then (-1) else i)) hf153 rfl rfl rfl rfl rfl rfl (r_assign rfl) fun ac154 hf154 => ?_)
  refine seq_end ?_
  clear ac151 hf151 ac152 hf152 ac153 hf153
  refine then_normal ?_
  refine code_seq ?_
  refine seq_start (l := [0, 1, 2, 3, 4]) rfl ?_
  refine seq_one (op_val (v := .pointer (some ⟨b4, 0, none⟩)) hf154 rfl rfl rfl rfl rfl rfl (r_move rfl) fun ac155 hf155 => ?_)
  refine seq_one (op_val (v := .int .i64 (if (-1) < i then (-1) else i)) hf155 rfl rfl rfl rfl rfl rfl (r_move rfl) fun ac156 hf156 => ?_)
  refine seq_one (op_val (v := .int .u64 n) hf156 rfl rfl rfl rfl rfl rfl (r_move rfl) fun ac157 hf157 => ?_)
  refine seq_one (op_pureW hf157 rfl rfl rfl rfl ca_16 (add_out rfl (by split <;> omega) (hI21.ne (i := 2) (j := 3) rfl rfl (by decide)) (Has.cons (hI21.at 2 rfl) (Has.cons (hI21.at 3 rfl) Has.nil))) hI21 fun ac158 wd18 hI22 hf158 => ?_)
  refine seq_one (op_val (v := .bool false) hf158 rfl rfl rfl rfl rfl rfl (r_neqC rfl rfl (by decide)) fun ac159 hf159 => ?_)
  refine seq_end ?_
  clear ac154 hf154 ac155 hf155 ac156 hf156 ac157 wd17 hI21 hf157 ac158 hf158
  refine then_normal ?_
  refine code_if_false hf159 rfl ?_
  refine wp_skip ?_
  refine block_normal ?_
  refine then_normal ?_
  refine seq_start (l := [0, 1]) rfl ?_
  refine seq_one (op_val (v := .int .i64 3) hf159 rfl rfl rfl rfl rfl rfl (r_add (c := 3) rfl rfl (by rfl)) fun ac160 hf160 => ?_)
  refine seq_one (op_val (v := .int .i64 3) hf160 rfl rfl rfl rfl rfl rfl (r_move rfl) fun ac161 hf161 => ?_)
  refine seq_end ?_
  clear ac159 hf159 ac160 hf160
  refine then_normal ?_
  refine rounds_go ?_
  refine code_seq ?_
  refine seq_start (l := [0]) rfl ?_
  refine seq_one (op_val (v := .bool true) hf161 rfl rfl rfl rfl rfl rfl (r_lssC rfl rfl (by decide)) fun ac162 hf162 => ?_)
  refine seq_end ?_
  clear ac161 hf161
  refine then_normal ?_
  refine code_seq ?_
  refine code_if_true hf162 rfl ?_
  refine wp_skip ?_
  refine then_normal ?_
  refine code_seq ?_
  refine wp_block ?_
  refine code_seq ?_
  refine seq_start (l := [0, 1, 2]) rfl ?_
  refine seq_one (op_val (v := .pointer (some ⟨b6, 3, none⟩)) hf162 rfl rfl rfl rfl rfl rfl (r_indexAddrS (i := 3) sl_60 rfl rfl rfl (by decide) rfl) fun ac163 hf163 => ?_)
  refine seq_one (op_val (v := .int .i64 (if 3 > i then 3 else i)) hf163 rfl rfl rfl rfl rfl rfl (r_load ag_3 rfl (hI22.at 4 rfl) rfl) fun ac164 hf164 => ?_)
  refine seq_one (op_val (v := .int .i64 (if 3 > i then 3 else i)) hf164 rfl rfl rfl rfl rfl rfl (r_assign rfl) fun ac165 hf165 => ?_)
  refine seq_end ?_
  clear ac162 hf162 ac163 hf163 ac164 hf164
  refine then_normal ?_
  refine code_seq ?_
  refine seq_start (l := [0, 1, 2, 3, 4]) rfl ?_
  refine seq_one (op_val (v := .pointer (some ⟨b4, 0, none⟩)) hf165 rfl rfl rfl rfl rfl rfl (r_move rfl) fun ac166 hf166 => ?_)
  refine seq_one (op_val (v := .int .i64 (if 3 > i then 3 else i)) hf166 rfl rfl rfl rfl rfl rfl (r_move rfl) fun ac167 hf167 => ?_)
  refine seq_one (op_val (v := .int .u64 n) hf167 rfl rfl rfl rfl rfl rfl (r_move rfl) fun ac168 hf168 => ?_)
  refine seq_one (op_pureW hf168 rfl rfl rfl rfl ca_16 (add_out rfl (.inr (show (3 : Int) ≤ _ by split <;> omega)) (hI22.ne (i := 2) (j := 3) rfl rfl (by decide)) (Has.cons (hI22.at 2 rfl) (Has.cons (hI22.at 3 rfl) Has.nil))) hI22 fun ac169 wd19 hI23 hf169 => ?_)
  refine seq_one (op_val (v := .bool false) hf169 rfl rfl rfl rfl rfl rfl (r_neqC rfl rfl (by decide)) fun ac170 hf170 => ?_)
  refine seq_end ?_
  clear ac165 hf165 ac166 hf166 ac167 hf167 ac168 wd18 hI22 hf168 ac169 hf169
  refine then_normal ?_
  refine code_if_false hf170 rfl ?_
  refine wp_skip ?_
  refine block_normal ?_
  refine then_normal ?_
  refine seq_start (l := [0, 1]) rfl ?_
  refine seq_one (op_val (v := .int .i64 4) hf170 rfl rfl rfl rfl rfl rfl (r_add (c := 4) rfl rfl (by rfl)) fun ac171 hf171 => ?_)
  refine seq_one (op_val (v := .int .i64 4) hf171 rfl rfl rfl rfl rfl rfl (r_move rfl) fun ac172 hf172 => ?_)
  refine seq_end ?_
  clear ac170 hf170 ac171 hf171
  refine then_normal ?_
  refine rounds_go ?_
  refine code_seq ?_
  refine seq_start (l := [0]) rfl ?_
  refine seq_one (op_val (v := .bool false) hf172 rfl rfl rfl rfl rfl rfl (r_lssC rfl rfl (by decide)) fun ac173 hf173 => ?_)
  refine seq_end ?_
  clear ac172 hf172
  refine then_normal ?_
  refine code_seq ?_
  refine code_if_false hf173 rfl ?_
  refine wp_exit ?_
  refine then_exit ?_
  refine then_exit ?_
  refine block_here ?_
  refine then_normal ?_
  refine code_seq ?_
  refine code_seq ?_
  refine seq_start (l := [0, 1, 2, 3, 4, 5, 6, 7, 8]) rfl ?_
  refine seq_one (op_bslice (s := 24) (cells := #[.int .u64 0, .int .u64 0]) hf173 rfl rfl rfl rfl rfl (fun _ => by kernel_rfl) hI23 fun ac174 b7 wd20 hb7 hI24 hf174 => ?_)
  have hI25 : Inv w [(b1, #[.slice none 0 0, .int .i64 0], 58), (b2, #[.pointer none, .pointer (some ⟨b1, 0, none⟩)], 30), (b3, arr .u64 ((List.replicate 3 0).set 1 (((List.replicate 3 0).getD 1 0 + 7) % pw 8)), 24), (b4, #[.slice (some ⟨b3, 0, none⟩) 3 3, .int .i64 8], 58), (b6, #[.int .i64 (-1), .int .i64 3, .int .i64 (if (-1) < i then (-1) else i), .int .i64 (if 3 > i then 3 else i)], 3), (b7, #[.int .u64 0, .int .u64 0], 24)] wd20 := hI24
  refine seq_one (op_bslice (s := 24) (cells := #[.int .u64 0, .int .u64 0, .int .u64 0, .int .u64 0]) hf174 rfl rfl rfl rfl rfl (fun _ => by kernel_rfl) hI25 fun ac175 b8 wd21 hb8 hI26 hf175 => ?_)
  have hI27 : Inv w [(b1, #[.slice none 0 0, .int .i64 0], 58), (b2, #[.pointer none, .pointer (some ⟨b1, 0, none⟩)], 30), (b3, arr .u64 ((List.replicate 3 0).set 1 (((List.replicate 3 0).getD 1 0 + 7) % pw 8)), 24), (b4, #[.slice (some ⟨b3, 0, none⟩) 3 3, .int .i64 8], 58), (b6, #[.int .i64 (-1), .int .i64 3, .int .i64 (if (-1) < i then (-1) else i), .int .i64 (if 3 > i then 3 else i)], 3), (b7, #[.int .u64 0, .int .u64 0], 24), (b8, #[.int .u64 0, .int .u64 0, .int .u64 0, .int .u64 0], 24)] wd21 := hI26
  refine seq_one (op_bslice (s := 24) (cells := #[.int .u64 0, .int .u64 256, .int .u64 0]) hf175 rfl rfl rfl rfl rfl (fun _ => by kernel_rfl) hI27 fun ac176 b9 wd22 hb9 hI28 hf176 => ?_)
  have hI29 : Inv w [(b1, #[.slice none 0 0, .int .i64 0], 58), (b2, #[.pointer none, .pointer (some ⟨b1, 0, none⟩)], 30), (b3, arr .u64 ((List.replicate 3 0).set 1 (((List.replicate 3 0).getD 1 0 + 7) % pw 8)), 24), (b4, #[.slice (some ⟨b3, 0, none⟩) 3 3, .int .i64 8], 58), (b6, #[.int .i64 (-1), .int .i64 3, .int .i64 (if (-1) < i then (-1) else i), .int .i64 (if 3 > i then 3 else i)], 3), (b7, #[.int .u64 0, .int .u64 0], 24), (b8, #[.int .u64 0, .int .u64 0, .int .u64 0, .int .u64 0], 24), (b9, #[.int .u64 0, .int .u64 256, .int .u64 0], 24)] wd22 := hI28
  refine seq_one (op_val (v := .int .u64 n) hf176 rfl rfl rfl rfl rfl rfl (r_move rfl) fun ac177 hf177 => ?_)
  refine seq_one (op_val (v := .int .u64 nn) hf177 rfl rfl rfl rfl rfl rfl (r_or (c := nn) rfl rfl hnn) fun ac178 hf178 => ?_)
  refine seq_one (op_bslice (s := 24) (cells := #[.int .u64 0, .int .u64 0, .int .u64 nn]) hf178 rfl rfl rfl rfl rfl (fun _ => by kernel_rfl) hI29 fun ac179 b10 wd23 hb10 hI30 hf179 => ?_)
  have hI31 : Inv w [(b1, #[.slice none 0 0, .int .i64 0], 58), (b2, #[.pointer none, .pointer (some ⟨b1, 0, none⟩)], 30), (b3, arr .u64 ((List.replicate 3 0).set 1 (((List.replicate 3 0).getD 1 0 + 7) % pw 8)), 24), (b4, #[.slice (some ⟨b3, 0, none⟩) 3 3, .int .i64 8], 58), (b6, #[.int .i64 (-1), .int .i64 3, .int .i64 (if (-1) < i then (-1) else i), .int .i64 (if 3 > i then 3 else i)], 3), (b7, #[.int .u64 0, .int .u64 0], 24), (b8, #[.int .u64 0, .int .u64 0, .int .u64 0, .int .u64 0], 24), (b9, #[.int .u64 0, .int .u64 256, .int .u64 0], 24), (b10, #[.int .u64 0, .int .u64 0, .int .u64 nn], 24)] wd23 := hI30
  refine seq_one (op_bslice (s := 23) (cells := #[.slice none 0 0, .slice (some ⟨b7, 0, none⟩) 2 2, .slice (some ⟨b8, 0, none⟩) 4 4, .slice (some ⟨b9, 0, none⟩) 3 3, .slice (some ⟨b10, 0, none⟩) 3 3]) hf179 rfl rfl rfl rfl rfl (fun _ => by kernel_rfl) hI31 fun ac180 b11 wd24 hb11 hI32 hf180 => ?_)
  have hI33 : Inv w [(b1, #[.slice none 0 0, .int .i64 0], 58), (b2, #[.pointer none, .pointer (some ⟨b1, 0, none⟩)], 30), (b3, arr .u64 ((List.replicate 3 0).set 1 (((List.replicate 3 0).getD 1 0 + 7) % pw 8)), 24), (b4, #[.slice (some ⟨b3, 0, none⟩) 3 3, .int .i64 8], 58), (b6, #[.int .i64 (-1), .int .i64 3, .int .i64 (if (-1) < i then (-1) else i), .int .i64 (if 3 > i then 3 else i)], 3), (b7, #[.int .u64 0, .int .u64 0], 24), (b8, #[.int .u64 0, .int .u64 0, .int .u64 0, .int .u64 0], 24), (b9, #[.int .u64 0, .int .u64 256, .int .u64 0], 24), (b10, #[.int .u64 0, .int .u64 0, .int .u64 nn], 24), (b11, #[.slice none 0 0, .slice (some ⟨b7, 0, none⟩) 2 2, .slice (some ⟨b8, 0, none⟩) 4 4, .slice (some ⟨b9, 0, none⟩) 3 3, .slice (some ⟨b10, 0, none⟩) 3 3], 23)] wd24 := hI32
  refine seq_one (op_val (v := .int .i64 5) hf180 rfl rfl rfl rfl rfl rfl (r_len sl_61 rfl) fun ac181 hf181 => ?_)
  refine seq_one (op_val (v := .int .i64 0) hf181 rfl rfl rfl rfl rfl rfl (r_move rfl) fun ac182 hf182 => ?_)
  refine seq_end ?_
  clear ac173 wd19 hI23 hf173 hI24 ac174 wd20 hI25 hf174 hI26 ac175 wd21 hI27 hf175 hI28 ac176 hf176 ac177 hf177 ac178 wd22 hI29 hf178 hI30 ac179 wd23 hI31 hf179 hI32 ac180 hf180 ac181 hf181
  refine then_normal ?_
  refine wp_block ?_
  refine wp_loop_rounds 6 ?_
  refine rounds_go ?_
  refine code_seq ?_
  refine seq_start (l := [0]) rfl ?_
  refine seq_one (op_val (v := .bool true) hf182 rfl rfl rfl rfl rfl rfl (r_lssC rfl rfl (by decide)) fun ac183 hf183 => ?_)
  refine seq_end ?_
  clear ac182 hf182
  refine then_normal ?_
  refine code_seq ?_
  refine code_if_true hf183 rfl ?_
  refine wp_skip ?_
  refine then_normal ?_
  refine code_seq ?_
  refine wp_block ?_
  refine code_seq ?_
  refine seq_start (l := [0, 1, 2]) rfl ?_
  refine seq_one (op_val (v := .pointer (some ⟨b11, 0, none⟩)) hf183 rfl rfl rfl rfl rfl rfl (r_indexAddrS (i := 0) sl_61 rfl rfl rfl (by decide) rfl) fun ac184 hf184 => ?_)
  refine seq_one (op_val (v := .slice none 0 0) hf184 rfl rfl rfl rfl rfl rfl (r_load ag_23 rfl (hI33.at 9 rfl) rfl) fun ac185 hf185 => ?_)
  refine seq_one (op_val (v := .slice none 0 0) hf185 rfl rfl rfl rfl rfl rfl (r_assign rfl) fun ac186 hf186 => ?_)
  refine seq_end ?_
  clear ac183 hf183 ac184 hf184 ac185 hf185
  refine then_normal ?_
  refine code_seq ?_
  refine seq_start (l := [0, 1, 2, 3, 4, 5, 6, 7]) rfl ?_
  refine seq_one (op_val (v := .pointer (some ⟨b4, 0, none⟩)) hf186 rfl rfl rfl rfl rfl rfl (r_move rfl) fun ac187 hf187 => ?_)
  refine seq_one (op_val (v := .slice none 0 0) hf187 rfl rfl rfl rfl rfl rfl (r_move rfl) fun ac188 hf188 => ?_)
  refine seq_one (op_pureW hf188 rfl rfl rfl rfl ca_18 (since_n rfl (by decide) (hI33.ne (i := 2) (j := 3) rfl rfl (by decide)) (Has.cons (hI33.at 2 rfl) (Has.cons (hI33.at 3 rfl) Has.nil))) hI33 fun ac189 wd25 hI34 hf189 => ?_)
  refine seq_one (op_val (v := .tuple #[.slice none 0 0, .int .i64 2]) hf189 rfl rfl rfl rfl rfl rfl (r_move rfl) fun ac190 hf190 => ?_)
  refine seq_one (op_val (v := .slice none 0 0) hf190 rfl rfl rfl rfl rfl rfl (r_extract rfl rfl) fun ac191 hf191 => ?_)
  refine seq_one (op_val (v := .int .i64 2) hf191 rfl rfl rfl rfl rfl rfl (r_extract rfl rfl) fun ac192 hf192 => ?_)
  refine seq_one (op_val (v := .slice none 0 0) hf192 rfl rfl rfl rfl rfl rfl (r_assign rfl) fun ac193 hf193 => ?_)
  refine seq_one (op_val (v := .int .i64 2) hf193 rfl rfl rfl rfl rfl rfl (r_assign rfl) fun ac194 hf194 => ?_)
  refine seq_end ?_
  clear ac186 hf186 ac187 hf187 ac188 wd24 hI33 hf188 ac189 hf189 ac190 hf190 ac191 hf191 ac192 hf192 ac193 hf193
  refine then_normal ?_
  refine code_seq ?_
  refine seq_start (l := [0, 1, 2, 3, 4, 5, 6]) rfl ?_
  refine seq_one (op_val (v := .int .i64 2) hf194 rfl rfl rfl rfl rfl rfl (r_move rfl) fun ac195 hf195 => ?_)
  refine seq_one (op_val (v := .bool false) hf195 rfl rfl rfl rfl rfl rfl (r_neqC rfl rfl (by decide)) fun ac196 hf196 => ?_)
  refine seq_one (op_val (v := .bool false) hf196 rfl rfl rfl rfl rfl rfl (r_move rfl) fun ac197 hf197 => ?_)
  refine seq_one (op_val (v := .slice none 0 0) hf197 rfl rfl rfl rfl rfl rfl (r_move rfl) fun ac198 hf198 => ?_)
  refine seq_one (op_val (v := .int .i64 0) hf198 rfl rfl rfl rfl rfl rfl (r_len sl_23 rfl) fun ac199 hf199 => ?_)
  refine seq_one (op_val (v := .bool false) hf199 rfl rfl rfl rfl rfl rfl (r_neqC rfl rfl (by decide)) fun ac200 hf200 => ?_)
  refine seq_one (op_val (v := .bool false) hf200 rfl rfl rfl rfl rfl rfl (r_pickF rfl rfl) fun ac201 hf201 => ?_)
  refine seq_end ?_
  clear ac194 hf194 ac195 hf195 ac196 hf196 ac197 hf197 ac198 hf198 ac199 hf199 ac200 hf200
  refine then_normal ?_
  refine code_if_false hf201 rfl ?_
  refine wp_skip ?_
  refine block_normal ?_
  refine then_normal ?_
  refine seq_start (l := [0, 1]) rfl ?_
  refine seq_one (op_val (v := .int .i64 1) hf201 rfl rfl rfl rfl rfl rfl (r_add (c := 1) rfl rfl (by rfl)) fun ac202 hf202 => ?_)
  refine seq_one (op_val (v := .int .i64 1) hf202 rfl rfl rfl rfl rfl rfl (r_move rfl) fun ac203 hf203 => ?_)
  refine seq_end ?_
  clear ac201 hf201 ac202 hf202
  refine then_normal ?_
  refine rounds_go ?_
  refine code_seq ?_
  refine seq_start (l := [0]) rfl ?_
  refine seq_one (op_val (v := .bool true) hf203 rfl rfl rfl rfl rfl rfl (r_lssC rfl rfl (by decide)) fun ac204 hf204 => ?_)
  refine seq_end ?_
  clear ac203 hf203
  refine then_normal ?_
  refine code_seq ?_
  refine code_if_true hf204 rfl ?_
  refine wp_skip ?_
  refine then_normal ?_
  refine code_seq ?_
  refine wp_block ?_
  refine code_seq ?_
  refine seq_start (l := [0, 1, 2]) rfl ?_
  refine seq_one (op_val (v := .pointer (some ⟨b11, 1, none⟩)) hf204 rfl rfl rfl rfl rfl rfl (r_indexAddrS (i := 1) sl_61 rfl rfl rfl (by decide) rfl) fun ac205 hf205 => ?_)
  refine seq_one (op_val (v := .slice (some ⟨b7, 0, none⟩) 2 2) hf205 rfl rfl rfl rfl rfl rfl (r_load ag_23 rfl (hI34.at 9 rfl) rfl) fun ac206 hf206 => ?_)
  refine seq_one (op_val (v := .slice (some ⟨b7, 0, none⟩) 2 2) hf206 rfl rfl rfl rfl rfl rfl (r_assign rfl) fun ac207 hf207 => ?_)
  refine seq_end ?_
  clear ac204 hf204 ac205 hf205 ac206 hf206
  refine then_normal ?_
  refine code_seq ?_
  refine seq_start (l := [0, 1, 2, 3, 4, 5, 6, 7]) rfl ?_
  refine seq_one (op_val (v := .pointer (some ⟨b4, 0, none⟩)) hf207 rfl rfl rfl rfl rfl rfl (r_move rfl) fun ac208 hf208 => ?_)
  refine seq_one (op_val (v := .slice (some ⟨b7, 0, none⟩) 2 2) hf208 rfl rfl rfl rfl rfl rfl (r_move rfl) fun ac209 hf209 => ?_)
  refine seq_one (op_pureW hf209 rfl rfl rfl rfl ca_18 (since_n rfl (by decide) (hI34.ne (i := 2) (j := 3) rfl rfl (by decide)) (Has.cons (hI34.at 2 rfl) (Has.cons (hI34.at 3 rfl) Has.nil))) hI34 fun ac210 wd26 hI35 hf210 => ?_)
  refine seq_one (op_val (v := .tuple #[.slice none 0 0, .int .i64 2]) hf210 rfl rfl rfl rfl rfl rfl (r_move rfl) fun ac211 hf211 => ?_)
  refine seq_one (op_val (v := .slice none 0 0) hf211 rfl rfl rfl rfl rfl rfl (r_extract rfl rfl) fun ac212 hf212 => ?_)
  refine seq_one (op_val (v := .int .i64 2) hf212 rfl rfl rfl rfl rfl rfl (r_extract rfl rfl) fun ac213 hf213 => ?_)
  refine seq_one (op_val (v := .slice none 0 0) hf213 rfl rfl rfl rfl rfl rfl (r_assign rfl) fun ac214 hf214 => ?_)
  refine seq_one (op_val (v := .int .i64 2) hf214 rfl rfl rfl rfl rfl rfl (r_assign rfl) fun ac215 hf215 => ?_)
  refine seq_end ?_
  clear ac207 hf207 ac208 hf208 ac209 wd25 hI34 hf209 ac210 hf210 ac211 hf211 ac212 hf212 ac213 hf213 ac214 hf214
  refine then_normal ?_
  refine code_seq ?_
  refine seq_start (l := [0, 1, 2, 3, 4, 5, 6]) rfl ?_
  refine seq_one (op_val (v := .int .i64 2) hf215 rfl rfl rfl rfl rfl rfl (r_move rfl) fun ac216 hf216 => ?_)
  refine seq_one (op_val (v := .bool false) hf216 rfl rfl rfl rfl rfl rfl (r_neqC rfl rfl (by decide)) fun ac217 hf217 => ?_)
  refine seq_one (op_val (v := .bool false) hf217 rfl rfl rfl rfl rfl rfl (r_move rfl) fun ac218 hf218 => ?_)
  refine seq_one (op_val (v := .slice none 0 0) hf218 rfl rfl rfl rfl rfl rfl (r_move rfl) fun ac219 hf219 => ?_)
  refine seq_one (op_val (v := .int .i64 0) hf219 rfl rfl rfl rfl rfl rfl (r_len sl_23 rfl) fun ac220 hf220 => ?_)
  refine seq_one (op_val (v := .bool false) hf220 rfl rfl rfl rfl rfl rfl (r_neqC rfl rfl (by decide)) fun ac221 hf221 => ?_)
  refine seq_one (op_val (v := .bool false) hf221 rfl rfl rfl rfl rfl rfl (r_pickF rfl rfl) fun ac222 hf222 => ?_)
  refine seq_end ?_
  clear ac215 hf215 ac216 hf216 ac217 hf217 ac218 hf218 ac219 hf219 ac220 hf220 ac221 hf221
  refine then_normal ?_
  refine code_if_false hf222 rfl ?_
  refine wp_skip ?_
  refine block_normal ?_
  refine then_normal ?_
  refine seq_start (l := [0, 1]) rfl ?_
  refine seq_one (op_val (v := .int .i64 2) hf222 rfl rfl rfl rfl rfl rfl (r_add (c := 2) rfl rfl (by rfl)) fun ac223 hf223 => ?_)
  refine seq_one (op_val (v := .int .i64 2) hf223 rfl rfl rfl rfl rfl rfl (r_move rfl) fun ac224 hf224 => ?_)
  refine seq_end ?_
  clear ac222 hf222 ac223 hf223
  refine then_normal ?_
  refine rounds_go ?_
  refine code_seq ?_
  refine seq_start (l := [0]) rfl ?_
  refine seq_one (op_val (v := .bool true) hf224 rfl rfl rfl rfl rfl rfl (r_lssC rfl rfl (by decide)) fun ac225 hf225 => ?_)
  refine seq_end ?_
  clear ac224 hf224
  refine then_normal ?_
  refine code_seq ?_
  refine code_if_true hf225 rfl ?_
  refine wp_skip ?_
  refine then_normal ?_
  refine code_seq ?_
  refine wp_block ?_
  refine code_seq ?_
  refine seq_start (l := [0, 1, 2]) rfl ?_
  refine seq_one (op_val (v := .pointer (some ⟨b11, 2, none⟩)) hf225 rfl rfl rfl rfl rfl rfl (r_indexAddrS (i := 2) sl_61 rfl rfl rfl (by decide) rfl) fun ac226 hf226 => ?_)
  refine seq_one (op_val (v := .slice (some ⟨b8, 0, none⟩) 4 4) hf226 rfl rfl rfl rfl rfl rfl (r_load ag_23 rfl (hI35.at 9 rfl) rfl) fun ac227 hf227 => ?_)
  refine seq_one (op_val (v := .slice (some ⟨b8, 0, none⟩) 4 4) hf227 rfl rfl rfl rfl rfl rfl (r_assign rfl) fun ac228 hf228 => ?_)
  refine seq_end ?_
  clear ac225 hf225 ac226 hf226 ac227 hf227
  refine then_normal ?_
  refine code_seq ?_
  refine seq_start (l := [0, 1, 2, 3, 4, 5, 6, 7]) rfl ?_
  refine seq_one (op_val (v := .pointer (some ⟨b4, 0, none⟩)) hf228 rfl rfl rfl rfl rfl rfl (r_move rfl) fun ac229 hf229 => ?_)
  refine seq_one (op_val (v := .slice (some ⟨b8, 0, none⟩) 4 4) hf229 rfl rfl rfl rfl rfl rfl (r_move rfl) fun ac230 hf230 => ?_)
  refine seq_one (op_pureW hf230 rfl rfl rfl rfl ca_18 (since_n rfl (by decide) (hI35.ne (i := 2) (j := 3) rfl rfl (by decide)) (Has.cons (hI35.at 2 rfl) (Has.cons (hI35.at 3 rfl) Has.nil))) hI35 fun ac231 wd27 hI36 hf231 => ?_)
  refine seq_one (op_val (v := .tuple #[.slice none 0 0, .int .i64 2]) hf231 rfl rfl rfl rfl rfl rfl (r_move rfl) fun ac232 hf232 => ?_)
  refine seq_one (op_val (v := .slice none 0 0) hf232 rfl rfl rfl rfl rfl rfl (r_extract rfl rfl) fun ac233 hf233 => ?_)
  refine seq_one (op_val (v := .int .i64 2) hf233 rfl rfl rfl rfl rfl rfl (r_extract rfl rfl) fun ac234 hf234 => ?_)
  refine seq_one (op_val (v := .slice none 0 0) hf234 rfl rfl rfl rfl rfl rfl (r_assign rfl) fun ac235 hf235 => ?_)
  refine seq_one (op_val (v := .int .i64 2) hf235 rfl rfl rfl rfl rfl rfl (r_assign rfl) fun ac236 hf236 => ?_)
  refine seq_end ?_
  clear ac228 hf228 ac229 hf229 ac230 wd26 hI35 hf230 ac231 hf231 ac232 hf232 ac233 hf233 ac234 hf234 ac235 hf235
  refine then_normal ?_
  refine code_seq ?_
  refine seq_start (l := [0, 1, 2, 3, 4, 5, 6]) rfl ?_
  refine seq_one (op_val (v := .int .i64 2) hf236 rfl rfl rfl rfl rfl rfl (r_move rfl) fun ac237 hf237 => ?_)
  refine seq_one (op_val (v := .bool false) hf237 rfl rfl rfl rfl rfl rfl (r_neqC rfl rfl (by decide)) fun ac238 hf238 => ?_)
  refine seq_one (op_val (v := .bool false) hf238 rfl rfl rfl rfl rfl rfl (r_move rfl) fun ac239 hf239 => ?_)
  refine seq_one (op_val (v := .slice none 0 0) hf239 rfl rfl rfl rfl rfl rfl (r_move rfl) fun ac240 hf240 => ?_)
  refine seq_one (op_val (v := .int .i64 0) hf240 rfl rfl rfl rfl rfl rfl (r_len sl_23 rfl) fun ac241 hf241 => ?_)
  refine seq_one (op_val (v := .bool false) hf241 rfl rfl rfl rfl rfl rfl (r_neqC rfl rfl (by decide)) fun ac242 hf242 => ?_)
  refine seq_one (op_val (v := .bool false) hf242 rfl rfl rfl rfl rfl rfl (r_pickF rfl rfl) fun ac243 hf243 => ?_)
  refine seq_end ?_
  clear ac236 hf236 ac237 hf237 ac238 hf238 ac239 hf239 ac240 hf240 ac241 hf241 ac242 hf242
  refine then_normal ?_
  refine code_if_false hf243 rfl ?_
  refine wp_skip ?_
  refine block_normal ?_
  refine then_normal ?_
  refine seq_start (l := [0, 1]) rfl ?_
  refine seq_one (op_val (v := .int .i64 3) hf243 rfl rfl rfl rfl rfl rfl (r_add (c := 3) rfl rfl (by rfl)) fun ac244 hf244 => ?_)
  refine seq_one (op_val (v := .int .i64 3) hf244 rfl rfl rfl rfl rfl rfl (r_move rfl) fun ac245 hf245 => ?_)
  refine seq_end ?_
  clear ac243 hf243 ac244 hf244
  refine then_normal ?_
  refine rounds_go ?_
  refine code_seq ?_
  refine seq_start (l := [0]) rfl ?_
  refine seq_one (op_val (v := .bool true) hf245 rfl rfl rfl rfl rfl rfl (r_lssC rfl rfl (by decide)) fun ac246 hf246 => ?_)
  refine seq_end ?_
  clear ac245 hf245
  refine then_normal ?_
  refine code_seq ?_
  refine code_if_true hf246 rfl ?_
  refine wp_skip ?_
  refine then_normal ?_
  refine code_seq ?_
  refine wp_block ?_
  refine code_seq ?_
  refine seq_start (l := [0, 1, 2]) rfl ?_
  refine seq_one (op_val (v := .pointer (some ⟨b11, 3, none⟩)) hf246 rfl rfl rfl rfl rfl rfl (r_indexAddrS (i := 3) sl_61 rfl rfl rfl (by decide) rfl) fun ac247 hf247 => ?_)
  refine seq_one (op_val (v := .slice (some ⟨b9, 0, none⟩) 3 3) hf247 rfl rfl rfl rfl rfl rfl (r_load ag_23 rfl (hI36.at 9 rfl) rfl) fun ac248 hf248 => ?_)
  refine seq_one (op_val (v := .slice (some ⟨b9, 0, none⟩) 3 3) hf248 rfl rfl rfl rfl rfl rfl (r_assign rfl) fun ac249 hf249 => ?_)
  refine seq_end ?_
  clear ac246 hf246 ac247 hf247 ac248 hf248
  refine then_normal ?_
  refine code_seq ?_
  refine seq_start (l := [0, 1, 2, 3, 4, 5, 6, 7]) rfl ?_
  refine seq_one (op_val (v := .pointer (some ⟨b4, 0, none⟩)) hf249 rfl rfl rfl rfl rfl rfl (r_move rfl) fun ac250 hf250 => ?_)
  refine seq_one (op_val (v := .slice (some ⟨b9, 0, none⟩) 3 3) hf250 rfl rfl rfl rfl rfl rfl (r_move rfl) fun ac251 hf251 => ?_)
  refine seq_one (op_pureW hf251 rfl rfl rfl rfl ca_18 (since_bad (xs := ((List.replicate 3 0).set 1 (((List.replicate 3 0).getD 1 0 + 7) % pw 8))) (ws := [0, 256, 0]) (n := 3) (k := 8) rfl rfl rfl (by decide) ⟨1, by decide, by decide⟩ (hI36.ne (i := 2) (j := 3) rfl rfl (by decide)) (Has.cons (hI36.at 2 rfl) (Has.cons (hI36.at 3 rfl) Has.nil)) (Rd.blk (xs := [0, 256, 0]) (hI36.at 7 rfl) rfl)) hI36 fun ac252 wd28 hI37 hf252 => ?_)
  refine seq_one (op_val (v := .tuple #[.slice none 0 0, .int .i64 2]) hf252 rfl rfl rfl rfl rfl rfl (r_move rfl) fun ac253 hf253 => ?_)
  refine seq_one (op_val (v := .slice none 0 0) hf253 rfl rfl rfl rfl rfl rfl (r_extract rfl rfl) fun ac254 hf254 => ?_)
  refine seq_one (op_val (v := .int .i64 2) hf254 rfl rfl rfl rfl rfl rfl (r_extract rfl rfl) fun ac255 hf255 => ?_)
  refine seq_one (op_val (v := .slice none 0 0) hf255 rfl rfl rfl rfl rfl rfl (r_assign rfl) fun ac256 hf256 => ?_)
  refine seq_one (op_val (v := .int .i64 2) hf256 rfl rfl rfl rfl rfl rfl (r_assign rfl) fun ac257 hf257 => ?_)
  refine seq_end ?_
  clear ac249 hf249 ac250 hf250 ac251 wd27 hI36 hf251 ac252 hf252 ac253 hf253 ac254 hf254 ac255 hf255 ac256 hf256
  refine then_normal ?_
  refine code_seq ?_
  refine seq_start (l := [0, 1, 2, 3, 4, 5, 6]) rfl ?_
  refine seq_one (op_val (v := .int .i64 2) hf257 rfl rfl rfl rfl rfl rfl (r_move rfl) fun ac258 hf258 => ?_)
  refine seq_one (op_val (v := .bool false) hf258 rfl rfl rfl rfl rfl rfl (r_neqC rfl rfl (by decide)) fun ac259 hf259 => ?_)
  refine seq_one (op_val (v := .bool false) hf259 rfl rfl rfl rfl rfl rfl (r_move rfl) fun ac260 hf260 => ?_)
  refine seq_one (op_val (v := .slice none 0 0) hf260 rfl rfl rfl rfl rfl rfl (r_move rfl) fun ac261 hf261 => ?_)
  refine seq_one (op_val (v := .int .i64 0) hf261 rfl rfl rfl rfl rfl rfl (r_len sl_23 rfl) fun ac262 hf262 => ?_)
  refine seq_one (op_val (v := .bool false) hf262 rfl rfl rfl rfl rfl rfl (r_neqC rfl rfl (by decide)) fun ac263 hf263 => ?_)
  refine seq_one (op_val (v := .bool false) hf263 rfl rfl rfl rfl rfl rfl (r_pickF rfl rfl) fun ac264 hf264 => ?_)
  refine seq_end ?_
  clear ac257 hf257 ac258 hf258 ac259 hf259 ac260 hf260 ac261 hf261 ac262 hf262 ac263 hf263
  refine then_normal ?_
  refine code_if_false hf264 rfl ?_
  refine wp_skip ?_
  refine block_normal ?_
  refine then_normal ?_
  refine seq_start (l := [0, 1]) rfl ?_
  refine seq_one (op_val (v := .int .i64 4) hf264 rfl rfl rfl rfl rfl rfl (r_add (c := 4) rfl rfl (by rfl)) fun ac265 hf265 => ?_)
  refine seq_one (op_val (v := .int .i64 4) hf265 rfl rfl rfl rfl rfl rfl (r_move rfl) fun ac266 hf266 => ?_)
  refine seq_end ?_
  clear ac264 hf264 ac265 hf265
  refine then_normal ?_
  refine rounds_go ?_
  refine code_seq ?_
  refine seq_start (l := [0]) rfl ?_
  refine seq_one (op_val (v := .bool true) hf266 rfl rfl rfl rfl rfl rfl (r_lssC rfl rfl (by decide)) fun ac267 hf267 => ?_)
  refine seq_end ?_
  clear ac266 hf266
  refine then_normal ?_
  refine code_seq ?_
  refine code_if_true hf267 rfl ?_
  refine wp_skip ?_
  refine then_normal ?_
  refine code_seq ?_
  refine wp_block ?_
  refine code_seq ?_
  refine seq_start (l := [0, 1, 2]) rfl ?_
  refine seq_one (op_val (v := .pointer (some ⟨b11, 4, none⟩)) hf267 rfl rfl rfl rfl rfl rfl (r_indexAddrS (i := 4) sl_61 rfl rfl rfl (by decide) rfl) fun ac268 hf268 => ?_)
  refine seq_one (op_val (v := .slice (some ⟨b10, 0, none⟩) 3 3) hf268 rfl rfl rfl rfl rfl rfl (r_load ag_23 rfl (hI37.at 9 rfl) rfl) fun ac269 hf269 => ?_)
  refine seq_one (op_val (v := .slice (some ⟨b10, 0, none⟩) 3 3) hf269 rfl rfl rfl rfl rfl rfl (r_assign rfl) fun ac270 hf270 => ?_)
  refine seq_end ?_
  clear ac267 hf267 ac268 hf268 ac269 hf269
  refine then_normal ?_
  refine code_seq ?_
  refine seq_start (l := [0, 1, 2, 3, 4, 5, 6, 7]) rfl ?_
  refine seq_one (op_val (v := .pointer (some ⟨b4, 0, none⟩)) hf270 rfl rfl rfl rfl rfl rfl (r_move rfl) fun ac271 hf271 => ?_)
  refine seq_one (op_val (v := .slice (some ⟨b10, 0, none⟩) 3 3) hf271 rfl rfl rfl rfl rfl rfl (r_move rfl) fun ac272 hf272 => ?_)
  refine seq_one (op_pureW hf272 rfl rfl rfl rfl ca_18 (since_bad (xs := ((List.replicate 3 0).set 1 (((List.replicate 3 0).getD 1 0 + 7) % pw 8))) (ws := [0, 0, nn]) (n := 3) (k := 8) rfl rfl rfl (by decide) ⟨2, by decide, none_big h256⟩ (hI37.ne (i := 2) (j := 3) rfl rfl (by decide)) (Has.cons (hI37.at 2 rfl) (Has.cons (hI37.at 3 rfl) Has.nil)) (Rd.blk (xs := [0, 0, nn]) (hI37.at 8 rfl) rfl)) hI37 fun ac273 wd29 hI38 hf273 => ?_)
  refine seq_one (op_val (v := .tuple #[.slice none 0 0, .int .i64 2]) hf273 rfl rfl rfl rfl rfl rfl (r_move rfl) fun ac274 hf274 => ?_)
  refine seq_one (op_val (v := .slice none 0 0) hf274 rfl rfl rfl rfl rfl rfl (r_extract rfl rfl) fun ac275 hf275 => ?_)
  refine seq_one (op_val (v := .int .i64 2) hf275 rfl rfl rfl rfl rfl rfl (r_extract rfl rfl) fun ac276 hf276 => ?_)
  refine seq_one (op_val (v := .slice none 0 0) hf276 rfl rfl rfl rfl rfl rfl (r_assign rfl) fun ac277 hf277 => ?_)
  refine seq_one (op_val (v := .int .i64 2) hf277 rfl rfl rfl rfl rfl rfl (r_assign rfl) fun ac278 hf278 => ?_)
  refine seq_end ?_
  clear ac270 hf270 ac271 hf271 ac272 wd28 hI37 hf272 ac273 hf273 ac274 hf274 ac275 hf275 ac276 hf276 ac277 hf277
  refine then_normal ?_
  refine code_seq ?_
  refine seq_start (l := [0, 1, 2, 3, 4, 5, 6]) rfl ?_
  refine seq_one (op_val (v := .int .i64 2) hf278 rfl rfl rfl rfl rfl rfl (r_move rfl) fun ac279 hf279 => ?_)
  refine seq_one (op_val (v := .bool false) hf279 rfl rfl rfl rfl rfl rfl (r_neqC rfl rfl (by decide)) fun ac280 hf280 => ?_)
  refine seq_one (op_val (v := .bool false) hf280 rfl rfl rfl rfl rfl rfl (r_move rfl) fun ac281 hf281 => ?_)
  refine seq_one (op_val (v := .slice none 0 0) hf281 rfl rfl rfl rfl rfl rfl (r_move rfl) fun ac282 hf282 => ?_)
  refine seq_one (op_val (v := .int .i64 0) hf282 rfl rfl rfl rfl rfl rfl (r_len sl_23 rfl) fun ac283 hf283 => ?_)
  refine seq_one (op_val (v := .bool false) hf283 rfl rfl rfl rfl rfl rfl (r_neqC rfl rfl (by decide)) fun ac284 hf284 => ?_)
  refine seq_one (op_val (v := .bool false) hf284 rfl rfl rfl rfl rfl rfl (r_pickF rfl rfl) fun ac285 hf285 => ?_)
  refine seq_end ?_
  clear ac278 hf278 ac279 hf279 ac280 hf280 ac281 hf281 ac282 hf282 ac283 hf283 ac284 hf284
  refine then_normal ?_
  refine code_if_false hf285 rfl ?_
  refine wp_skip ?_
  refine block_normal ?_
  refine then_normal ?_
  refine seq_start (l := [0, 1]) rfl ?_
  refine seq_one (op_val (v := .int .i64 5) hf285 rfl rfl rfl rfl rfl rfl (r_add (c := 5) rfl rfl (by rfl)) fun ac286 hf286 => ?_)
  refine seq_one (op_val (v := .int .i64 5) hf286 rfl rfl rfl rfl rfl rfl (r_move rfl) fun ac287 hf287 => ?_)
  refine seq_end ?_
  clear ac285 hf285 ac286 hf286
  refine then_normal ?_
  refine rounds_go ?_
  refine code_seq ?_
  refine seq_start (l := [0]) rfl ?_
  refine seq_one (op_val (v := .bool false) hf287 rfl rfl rfl rfl rfl rfl (r_lssC rfl rfl (by decide)) fun ac288 hf288 => ?_)
  refine seq_end ?_
  clear ac287 hf287
  refine then_normal ?_
  refine code_seq ?_
  refine code_if_false hf288 rfl ?_
  refine wp_exit ?_
  refine then_exit ?_
  refine then_exit ?_
  refine block_here ?_
  refine then_normal ?_
  refine code_seq ?_
  refine seq_start (l := [0, 1, 2, 3, 4, 5, 6, 7]) rfl ?_
  refine seq_one (op_val (v := .pointer (some ⟨b4, 0, none⟩)) hf288 rfl rfl rfl rfl rfl rfl (r_move rfl) fun ac289 hf289 => ?_)
  refine seq_one (op_call (R := fun v w' => ∃ b m, Array.size (World.heap _) ≤ b ∧ 3 + m ≤ maxLen ∧ v = .slice (some ⟨b, 0, none⟩) 3 (3 + m) ∧ Inv _ [(b, arr .u64 (((List.replicate 3 0).set 1 (((List.replicate 3 0).getD 1 0 + 7) % pw 8)) ++ List.replicate m 0), 24)] w') hf289 rfl rfl rfl rfl ca_20 ((all_walk rfl (by decide) (by decide) (hI38.ne (i := 2) (j := 3) rfl rfl (by decide)) (Has.cons (hI38.at 2 rfl) (Has.cons (hI38.at 3 rfl) Has.nil))).mono fun e w' ⟨b, m, h1, h2, h3, h4⟩ => ⟨_, h3, b, m, h1, h2, rfl, h4⟩) fun ac290 v wd30 hR hf290 => ?_)
  obtain ⟨b12, m12, hqb12, hm12, rfl, hwb12⟩ := hR
  have hb12 := Nat.le_trans hI38.size hqb12
  have hI39 : Inv w [(b1, #[.slice none 0 0, .int .i64 0], 58), (b2, #[.pointer none, .pointer (some ⟨b1, 0, none⟩)], 30), (b3, arr .u64 ((List.replicate 3 0).set 1 (((List.replicate 3 0).getD 1 0 + 7) % pw 8)), 24), (b4, #[.slice (some ⟨b3, 0, none⟩) 3 3, .int .i64 8], 58), (b6, #[.int .i64 (-1), .int .i64 3, .int .i64 (if (-1) < i then (-1) else i), .int .i64 (if 3 > i then 3 else i)], 3), (b7, #[.int .u64 0, .int .u64 0], 24), (b8, #[.int .u64 0, .int .u64 0, .int .u64 0, .int .u64 0], 24), (b9, #[.int .u64 0, .int .u64 256, .int .u64 0], 24), (b10, #[.int .u64 0, .int .u64 0, .int .u64 nn], 24), (b11, #[.slice none 0 0, .slice (some ⟨b7, 0, none⟩) 2 2, .slice (some ⟨b8, 0, none⟩) 4 4, .slice (some ⟨b9, 0, none⟩) 3 3, .slice (some ⟨b10, 0, none⟩) 3 3], 23), (b12, arr .u64 (((List.replicate 3 0).set 1 (((List.replicate 3 0).getD 1 0 + 7) % pw 8)) ++ List.replicate m12 0), 24)] _ := hI38.callN hwb12 (fun x hx => by simp only [List.mem_singleton] at hx; subst hx; exact hqb12)
  refine seq_one (op_bslice (s := 24) (cells := #[.int .u64 0, .int .u64 7, .int .u64 0]) hf290 rfl rfl rfl rfl rfl (fun _ => by kernel_rfl) hI39 fun ac291 b13 wd31 hb13 hI40 hf291 => ?_)
  have hI41 : Inv w [(b1, #[.slice none 0 0, .int .i64 0], 58), (b2, #[.pointer none, .pointer (some ⟨b1, 0, none⟩)], 30), (b3, arr .u64 ((List.replicate 3 0).set 1 (((List.replicate 3 0).getD 1 0 + 7) % pw 8)), 24), (b4, #[.slice (some ⟨b3, 0, none⟩) 3 3, .int .i64 8], 58), (b6, #[.int .i64 (-1), .int .i64 3, .int .i64 (if (-1) < i then (-1) else i), .int .i64 (if 3 > i then 3 else i)], 3), (b7, #[.int .u64 0, .int .u64 0], 24), (b8, #[.int .u64 0, .int .u64 0, .int .u64 0, .int .u64 0], 24), (b9, #[.int .u64 0, .int .u64 256, .int .u64 0], 24), (b10, #[.int .u64 0, .int .u64 0, .int .u64 nn], 24), (b11, #[.slice none 0 0, .slice (some ⟨b7, 0, none⟩) 2 2, .slice (some ⟨b8, 0, none⟩) 4 4, .slice (some ⟨b9, 0, none⟩) 3 3, .slice (some ⟨b10, 0, none⟩) 3 3], 23), (b12, arr .u64 (((List.replicate 3 0).set 1 (((List.replicate 3 0).getD 1 0 + 7) % pw 8)) ++ List.replicate m12 0), 24), (b13, #[.int .u64 0, .int .u64 7, .int .u64 0], 24)] wd31 := hI40
  refine seq_one (op_pureW hf291 rfl rfl rfl rfl ca_15 (same_walk (xs := ((List.replicate 3 0).set 1 (((List.replicate 3 0).getD 1 0 + 7) % pw 8))) (ys := [0, 7, 0]) rfl rfl (by decide) (Rd.blk (xs := ((List.replicate 3 0).set 1 (((List.replicate 3 0).getD 1 0 + 7) % pw 8))) (hI41.at 10 rfl) arr_take2) (Rd.blk (xs := [0, 7, 0]) (hI41.at 11 rfl) rfl)) hI41 fun ac292 wd32 hI42 hf292 => ?_)
  refine seq_one (op_val (v := .bool (((List.replicate 3 0).set 1 (((List.replicate 3 0).getD 1 0 + 7) % pw 8)) == [0, 7, 0])) hf292 rfl rfl rfl rfl rfl rfl (r_move rfl) fun ac293 hf293 => ?_)
  have hf294 := hf293.know 125 (u := .bool true) rfl (congrArg Value.bool (by decide))
  refine seq_one (op_pure hf294 rfl rfl rfl rfl ca_13 awake_pur hI42 fun ac294 wd33 hI43 hf295 => ?_)
  refine seq_one (op_val (v := .bool true) hf295 rfl rfl rfl rfl rfl rfl (r_pickT rfl rfl) fun ac295 hf296 => ?_)
  refine seq_one (op_val (v := .bool true) hf296 rfl rfl rfl rfl rfl rfl (r_assign rfl) fun ac296 hf297 => ?_)
  refine seq_end ?_
  clear ac288 hf288 ac289 wd29 hf289 hI38 hwb12 hqb12 ac290 wd30 hI39 hf290 hI40 ac291 wd31 hI41 hf291 ac292 hf292 hf293 ac293 wd32 hI42 hf294 ac294 hf295 ac295 hf296
  refine then_normal ?_
  refine wp_ret ?_
  refine post1 rfl hf297 rfl ⟨?_, hI43.done (fresh_keys (ks := [b1, b2, b3, b4, b6, b7, b8, b9, b10, b11, b12, b13]) rfl (fk_cons hb1 (fk_cons hb2 (fk_cons hb3 (fk_cons hb4 (fk_cons hb6 (fk_cons hb7 (fk_cons hb8 (fk_cons hb9 (fk_cons hb10 (fk_cons hb11 (fk_cons hb12 (fk_cons hb13 fk_nil)))))))))))))⟩
  rfl
end Go.Proofs.Ytohkdjaobdgenaa
