/-
  Wrong: what each call comes to.
-/
import Derived.Test.YtakkookpjhaekaaDoorCFns
namespace Go.Proofs.YtakkookpjhaekaaDoor
set_option linter.unusedVariables false
set_option linter.unusedSimpArgs false
set_option maxRecDepth 100000
open Go.RowKit
set_option maxHeartbeats 8000000 in
theorem wrong_pur (x0 x1 x2 x3 x4 x5 x6 x7 x8 x9 x10 x11 x12 x13 x14 x15 x16 x17 x18 x19 x20 x21 x22 x23 x24 x25 x26 x27 x28 x29 x31 x32 x33 x34 x35 x36 : Int) (x30 : Bool) (ink : InK .u8 [x13, x14, x15, x16, x17, x18, x19, x20, x21, x22, x23, x24, x25, x26, x27, x28]) : Pur Tryd.prog 24 [.agg #[.int .i64 x0, .int .i64 x1, .int .i64 x2, .int .i64 x3, .int .i64 x4, .int .i64 x5, .int .i64 x6, .int .u64 x7, .int .u64 x8, .int .u64 x9, .int .i64 x10, .int .i64 x11, .int .i64 x12, .int .u8 x13, .int .u8 x14, .int .u8 x15, .int .u8 x16, .int .u8 x17, .int .u8 x18, .int .u8 x19, .int .u8 x20, .int .u8 x21, .int .u8 x22, .int .u8 x23, .int .u8 x24, .int .u8 x25, .int .u8 x26, .int .u8 x27, .int .u8 x28, .int .u64 x29, .bool x30, .int .u64 x31, .int .i64 x32, .int .u64 x33, .int .i64 x34, .int .i64 x35, .int .i64 x36]] (.int .u8 (wrongF x0 x1 x2 x3 x4 x5 x6 x8 x9 x10 x11 x12 [x13, x14, x15, x16, x17, x18, x19, x20, x21, x22, x23, x24, x25, x26, x27, x28] x29 x32 x33 x34 x35 x36)) := by
  intro w
  have hI1 := Inv.start w
  refine enter (n := 20) Tryd.func24 rfl rfl rfl ?_
  intro ac1 hf1
  refine code_seq ?_
  refine seq_start (l := [0, 1]) rfl ?_
  refine seq_one (op_box hf1 rfl rfl rfl rfl hI1 fun ac2 b1 wd1 hb1 hI2 hf2 => ?_)
  have hI3 : Inv w [(b1, #[.int .i64 x0, .int .i64 x1, .int .i64 x2, .int .i64 x3, .int .i64 x4, .int .i64 x5, .int .i64 x6, .int .u64 x7, .int .u64 x8, .int .u64 x9, .int .i64 x10, .int .i64 x11, .int .i64 x12, .int .u8 x13, .int .u8 x14, .int .u8 x15, .int .u8 x16, .int .u8 x17, .int .u8 x18, .int .u8 x19, .int .u8 x20, .int .u8 x21, .int .u8 x22, .int .u8 x23, .int .u8 x24, .int .u8 x25, .int .u8 x26, .int .u8 x27, .int .u8 x28, .int .u64 x29, .bool x30, .int .u64 x31, .int .i64 x32, .int .u64 x33, .int .i64 x34, .int .i64 x35, .int .i64 x36], 41)] wd1 := hI2
  refine seq_one (op_val (v := .int .u8 0) hf2 rfl rfl rfl rfl rfl rfl (r_assign rfl) fun ac3 hf3 => ?_)
  refine seq_end ?_
  clear ac1 hI1 hf1 hI2 ac2 hf2
  refine then_normal ?_
  refine code_seq ?_
  refine code_seq ?_
  refine seq_start (l := [0, 1, 2, 3]) rfl ?_
  refine seq_one (op_val (v := .agg #[.int .i64 x0, .int .i64 x1, .int .i64 x2, .int .i64 x3, .int .i64 x4, .int .i64 x5, .int .i64 x6, .int .u64 x7, .int .u64 x8, .int .u64 x9, .int .i64 x10, .int .i64 x11, .int .i64 x12, .int .u8 x13, .int .u8 x14, .int .u8 x15, .int .u8 x16, .int .u8 x17, .int .u8 x18, .int .u8 x19, .int .u8 x20, .int .u8 x21, .int .u8 x22, .int .u8 x23, .int .u8 x24, .int .u8 x25, .int .u8 x26, .int .u8 x27, .int .u8 x28, .int .u64 x29, .bool x30, .int .u64 x31, .int .i64 x32, .int .u64 x33, .int .i64 x34, .int .i64 x35, .int .i64 x36]) hf3 rfl rfl rfl rfl rfl rfl (r_loadW ag_41 sz_41 rfl (hI3.at 0 rfl) rfl) fun ac4 hf4 => ?_)
  refine seq_one (op_call (R := fun v w' => ∃ b1 b2, wd1.heap.size ≤ b1 ∧ wd1.heap.size ≤ b2 ∧ v = .slice (some ⟨b2, 0, none⟩) 11 11 ∧ Inv wd1 [(b1, #[.int .i64 x0, .int .i64 x1, .int .i64 x2, .int .i64 x3, .int .i64 x4, .int .i64 x5, .int .i64 x6, .int .u64 x7, .int .u64 x8, .int .u64 x9, .int .i64 x10, .int .i64 x11, .int .i64 x12, .int .u8 x13, .int .u8 x14, .int .u8 x15, .int .u8 x16, .int .u8 x17, .int .u8 x18, .int .u8 x19, .int .u8 x20, .int .u8 x21, .int .u8 x22, .int .u8 x23, .int .u8 x24, .int .u8 x25, .int .u8 x26, .int .u8 x27, .int .u8 x28, .int .u64 x29, .bool x30, .int .u64 x31, .int .i64 x32, .int .u64 x33, .int .i64 x34, .int .i64 x35, .int .i64 x36], 41), (b2, #[.func (.func 48) #[] #[.pointer (some ⟨b1, 0, none⟩)], .func (.func 50) #[] #[.pointer (some ⟨b1, 0, none⟩)], .func (.func 51) #[] #[.pointer (some ⟨b1, 0, none⟩)], .func (.func 52) #[] #[.pointer (some ⟨b1, 0, none⟩)], .func (.func 53) #[] #[.pointer (some ⟨b1, 0, none⟩)], .func (.func 55) #[] #[.pointer (some ⟨b1, 0, none⟩)], .func (.func 56) #[] #[.pointer (some ⟨b1, 0, none⟩)], .func (.func 57) #[] #[.pointer (some ⟨b1, 0, none⟩)], .func (.func 58) #[] #[.pointer (some ⟨b1, 0, none⟩)], .func (.func 59) #[] #[.pointer (some ⟨b1, 0, none⟩)], .func (.func 60) #[] #[.pointer (some ⟨b1, 0, none⟩)]], 31)] w') hf4 rfl rfl rfl rfl ca_46 ((rules_walk x0 x1 x2 x3 x4 x5 x6 x7 x8 x9 x10 x11 x12 x13 x14 x15 x16 x17 x18 x19 x20 x21 x22 x23 x24 x25 x26 x27 x28 x29 x31 x32 x33 x34 x35 x36 x30 _).mono fun e w' ⟨b1, b2, h1, h2, h3, h4⟩ => ⟨_, h3, b1, b2, h1, h2, rfl, h4⟩) fun ac5 v wd2 hR hf5 => ?_)
  obtain ⟨b2, b3, hqb2, hqb3, rfl, hwb2⟩ := hR
  have hb2 := Nat.le_trans hI3.size hqb2
  have hb3 := Nat.le_trans hI3.size hqb3
  have hI4 : Inv w [(b1, #[.int .i64 x0, .int .i64 x1, .int .i64 x2, .int .i64 x3, .int .i64 x4, .int .i64 x5, .int .i64 x6, .int .u64 x7, .int .u64 x8, .int .u64 x9, .int .i64 x10, .int .i64 x11, .int .i64 x12, .int .u8 x13, .int .u8 x14, .int .u8 x15, .int .u8 x16, .int .u8 x17, .int .u8 x18, .int .u8 x19, .int .u8 x20, .int .u8 x21, .int .u8 x22, .int .u8 x23, .int .u8 x24, .int .u8 x25, .int .u8 x26, .int .u8 x27, .int .u8 x28, .int .u64 x29, .bool x30, .int .u64 x31, .int .i64 x32, .int .u64 x33, .int .i64 x34, .int .i64 x35, .int .i64 x36], 41), (b2, #[.int .i64 x0, .int .i64 x1, .int .i64 x2, .int .i64 x3, .int .i64 x4, .int .i64 x5, .int .i64 x6, .int .u64 x7, .int .u64 x8, .int .u64 x9, .int .i64 x10, .int .i64 x11, .int .i64 x12, .int .u8 x13, .int .u8 x14, .int .u8 x15, .int .u8 x16, .int .u8 x17, .int .u8 x18, .int .u8 x19, .int .u8 x20, .int .u8 x21, .int .u8 x22, .int .u8 x23, .int .u8 x24, .int .u8 x25, .int .u8 x26, .int .u8 x27, .int .u8 x28, .int .u64 x29, .bool x30, .int .u64 x31, .int .i64 x32, .int .u64 x33, .int .i64 x34, .int .i64 x35, .int .i64 x36], 41), (b3, #[.func (.func 48) #[] #[.pointer (some ⟨b2, 0, none⟩)], .func (.func 50) #[] #[.pointer (some ⟨b2, 0, none⟩)], .func (.func 51) #[] #[.pointer (some ⟨b2, 0, none⟩)], .func (.func 52) #[] #[.pointer (some ⟨b2, 0, none⟩)], .func (.func 53) #[] #[.pointer (some ⟨b2, 0, none⟩)], .func (.func 55) #[] #[.pointer (some ⟨b2, 0, none⟩)], .func (.func 56) #[] #[.pointer (some ⟨b2, 0, none⟩)], .func (.func 57) #[] #[.pointer (some ⟨b2, 0, none⟩)], .func (.func 58) #[] #[.pointer (some ⟨b2, 0, none⟩)], .func (.func 59) #[] #[.pointer (some ⟨b2, 0, none⟩)], .func (.func 60) #[] #[.pointer (some ⟨b2, 0, none⟩)]], 31)] _ := hI3.callN hwb2 (fun x hx => by simp only [List.mem_cons, List.mem_nil_iff, or_false] at hx; rcases hx with rfl | rfl <;> assumption)
  refine seq_one (op_val (v := .int .i64 11) hf5 rfl rfl rfl rfl rfl rfl (r_len sl_60 rfl) fun ac6 hf6 => ?_)
  refine seq_one (op_val (v := .int .i64 0) hf6 rfl rfl rfl rfl rfl rfl (r_move rfl) fun ac7 hf7 => ?_)
  refine seq_end ?_
  clear ac3 hf3 ac4 wd1 hf4 hI3 hwb2 hqb2 hqb3 ac5 hf5 ac6 hf6
  refine then_normal ?_
  refine wp_block ?_
  refine wp_loop_rounds 12 ?_
  refine rounds_go ?_
  refine code_seq ?_
  refine seq_start (l := [0]) rfl ?_
  refine seq_one (op_val (v := .bool true) hf7 rfl rfl rfl rfl rfl rfl (r_lssC rfl rfl (by decide)) fun ac8 hf8 => ?_)
  refine seq_end ?_
  clear ac7 hf7
  refine then_normal ?_
  refine code_seq ?_
  refine code_if_true hf8 rfl ?_
  refine wp_skip ?_
  refine then_normal ?_
  refine code_seq ?_
  refine wp_block ?_
  refine code_seq ?_
  refine seq_start (l := [0, 1, 2, 3, 4]) rfl ?_
  refine seq_one (op_val (v := .int .i64 0) hf8 rfl rfl rfl rfl rfl rfl (r_move rfl) fun ac9 hf9 => ?_)
  refine seq_one (op_val (v := .pointer (some ⟨b3, 0, none⟩)) hf9 rfl rfl rfl rfl rfl rfl (r_indexAddrS (i := 0) sl_60 rfl rfl rfl (by decide) rfl) fun ac10 hf10 => ?_)
  refine seq_one (op_val (v := .func (.func 48) #[] #[.pointer (some ⟨b2, 0, none⟩)]) hf10 rfl rfl rfl rfl rfl rfl (r_load ag_31 rfl (hI4.at 2 rfl) rfl) fun ac11 hf11 => ?_)
  refine seq_one (op_val (v := .int .i64 0) hf11 rfl rfl rfl rfl rfl rfl (r_assign rfl) fun ac12 hf12 => ?_)
  refine seq_one (op_val (v := .func (.func 48) #[] #[.pointer (some ⟨b2, 0, none⟩)]) hf12 rfl rfl rfl rfl rfl rfl (r_assign rfl) fun ac13 hf13 => ?_)
  refine seq_end ?_
  clear ac8 hf8 ac9 hf9 ac10 hf10 ac11 hf11 ac12 hf12
  refine then_normal ?_
  refine code_seq ?_
  refine seq_start (l := [0, 1, 2]) rfl ?_
  refine seq_one (op_val (v := .func (.func 48) #[] #[.pointer (some ⟨b2, 0, none⟩)]) hf13 rfl rfl rfl rfl rfl rfl (r_move rfl) fun ac14 hf14 => ?_)
  refine seq_one (op_callvP (v := .bool (inR x0 1 65536)) (cap := [.pointer (some ⟨b2, 0, none⟩)]) hf14 rfl rfl rfl rfl rfl ca_48 (rule1_walk x0 x1 x2 x3 x4 x5 x6 x7 x8 x9 x10 x11 x12 x13 x14 x15 x16 x17 x18 x19 x20 x21 x22 x23 x24 x25 x26 x27 x28 x29 x31 x32 x33 x34 x35 x36 x30 ink b2 _ (Has.cons (hI4.at 1 rfl) Has.nil)) hI4 fun ac15 wd3 hI5 hf15 => ?_)
  refine seq_one (op_val (v := .bool (!(inR x0 1 65536))) hf15 rfl rfl rfl rfl rfl rfl (r_not rfl) fun ac16 hf16 => ?_)
  refine seq_end ?_
  clear ac13 hf13 ac14 wd2 hI4 hf14 ac15 hf15
  refine then_normal ?_
  refine code_if hf16 rfl (fun c15_1 => ?_) (fun c15_1 => ?_)
  · have hf17 := hf16.know 15 (u := .bool true) rfl (congrArg Value.bool c15_1)
    refine code_seq ?_
    refine seq_start (l := [0, 1, 2, 3]) rfl ?_
    refine seq_one (op_val (v := .int .i64 0) hf17 rfl rfl rfl rfl rfl rfl (r_move rfl) fun ac17 hf18 => ?_)
    refine seq_one (op_val (v := .int .i64 1) hf18 rfl rfl rfl rfl rfl rfl (r_add (c := 1) rfl rfl (by rfl)) fun ac18 hf19 => ?_)
    refine seq_one (op_val (v := .int .u8 1) hf19 rfl rfl rfl rfl rfl rfl (r_conv (c := 1) ui_3 ui_5 rfl (by rfl)) fun ac19 hf20 => ?_)
    refine seq_one (op_val (v := .int .u8 1) hf20 rfl rfl rfl rfl rfl rfl (r_assign rfl) fun ac20 hf21 => ?_)
    refine seq_end ?_
    clear hf16 ac16 hf17 ac17 hf18 ac18 hf19 ac19 hf20
    refine then_normal ?_
    refine wp_ret ?_
    refine block_ret ?_
    refine then_ret ?_
    refine then_ret ?_
    refine block_ret ?_
    refine then_ret ?_
    refine post1 rfl hf21 rfl ⟨?_, hI5.done (fresh_keys (ks := [b1, b2, b3]) rfl (fk_cons hb1 (fk_cons hb2 (fk_cons hb3 fk_nil))))⟩
    unfold wrongF
    simp only [c15_1, cond_true, cond_false]
  · have hf22 := hf16.know 15 (u := .bool false) rfl (congrArg Value.bool c15_1)
    refine wp_skip ?_
    refine block_normal ?_
    refine then_normal ?_
    refine seq_start (l := [0, 1]) rfl ?_
    refine seq_one (op_val (v := .int .i64 1) hf22 rfl rfl rfl rfl rfl rfl (r_add (c := 1) rfl rfl (by rfl)) fun ac21 hf23 => ?_)
    refine seq_one (op_val (v := .int .i64 1) hf23 rfl rfl rfl rfl rfl rfl (r_move rfl) fun ac22 hf24 => ?_)
    refine seq_end ?_
    clear hf16 ac16 hf22 ac21 hf23
    refine then_normal ?_
    refine rounds_go ?_
    refine code_seq ?_
    refine seq_start (l := [0]) rfl ?_
    refine seq_one (op_val (v := .bool true) hf24 rfl rfl rfl rfl rfl rfl (r_lssC rfl rfl (by decide)) fun ac23 hf25 => ?_)
    refine seq_end ?_
    clear ac22 hf24
    refine then_normal ?_
    refine code_seq ?_
    refine code_if_true hf25 rfl ?_
    refine wp_skip ?_
    refine then_normal ?_
    refine code_seq ?_
    refine wp_block ?_
    refine code_seq ?_
    refine seq_start (l := [0, 1, 2, 3, 4]) rfl ?_
    refine seq_one (op_val (v := .int .i64 1) hf25 rfl rfl rfl rfl rfl rfl (r_move rfl) fun ac24 hf26 => ?_)
    refine seq_one (op_val (v := .pointer (some ⟨b3, 1, none⟩)) hf26 rfl rfl rfl rfl rfl rfl (r_indexAddrS (i := 1) sl_60 rfl rfl rfl (by decide) rfl) fun ac25 hf27 => ?_)
    refine seq_one (op_val (v := .func (.func 50) #[] #[.pointer (some ⟨b2, 0, none⟩)]) hf27 rfl rfl rfl rfl rfl rfl (r_load ag_31 rfl (hI5.at 2 rfl) rfl) fun ac26 hf28 => ?_)
    refine seq_one (op_val (v := .int .i64 1) hf28 rfl rfl rfl rfl rfl rfl (r_assign rfl) fun ac27 hf29 => ?_)
    refine seq_one (op_val (v := .func (.func 50) #[] #[.pointer (some ⟨b2, 0, none⟩)]) hf29 rfl rfl rfl rfl rfl rfl (r_assign rfl) fun ac28 hf30 => ?_)
    refine seq_end ?_
    clear ac23 hf25 ac24 hf26 ac25 hf27 ac26 hf28 ac27 hf29
    refine then_normal ?_
    refine code_seq ?_
    refine seq_start (l := [0, 1, 2]) rfl ?_
    refine seq_one (op_val (v := .func (.func 50) #[] #[.pointer (some ⟨b2, 0, none⟩)]) hf30 rfl rfl rfl rfl rfl rfl (r_move rfl) fun ac29 hf31 => ?_)
    refine seq_one (op_callvP (v := .bool (inR x1 1 4096)) (cap := [.pointer (some ⟨b2, 0, none⟩)]) hf31 rfl rfl rfl rfl rfl ca_50 (rule2_walk x0 x1 x2 x3 x4 x5 x6 x7 x8 x9 x10 x11 x12 x13 x14 x15 x16 x17 x18 x19 x20 x21 x22 x23 x24 x25 x26 x27 x28 x29 x31 x32 x33 x34 x35 x36 x30 ink b2 _ (Has.cons (hI5.at 1 rfl) Has.nil)) hI5 fun ac30 wd4 hI6 hf32 => ?_)
    refine seq_one (op_val (v := .bool (!(inR x1 1 4096))) hf32 rfl rfl rfl rfl rfl rfl (r_not rfl) fun ac31 hf33 => ?_)
    refine seq_end ?_
    clear ac28 hf30 ac29 wd3 hI5 hf31 ac30 hf32
    refine then_normal ?_
    refine code_if hf33 rfl (fun c15_2 => ?_) (fun c15_2 => ?_)
    · have hf34 := hf33.know 15 (u := .bool true) rfl (congrArg Value.bool c15_2)
      refine code_seq ?_
      refine seq_start (l := [0, 1, 2, 3]) rfl ?_
      refine seq_one (op_val (v := .int .i64 1) hf34 rfl rfl rfl rfl rfl rfl (r_move rfl) fun ac32 hf35 => ?_)
      refine seq_one (op_val (v := .int .i64 2) hf35 rfl rfl rfl rfl rfl rfl (r_add (c := 2) rfl rfl (by rfl)) fun ac33 hf36 => ?_)
      refine seq_one (op_val (v := .int .u8 2) hf36 rfl rfl rfl rfl rfl rfl (r_conv (c := 2) ui_3 ui_5 rfl (by rfl)) fun ac34 hf37 => ?_)
      refine seq_one (op_val (v := .int .u8 2) hf37 rfl rfl rfl rfl rfl rfl (r_assign rfl) fun ac35 hf38 => ?_)
      refine seq_end ?_
      clear hf33 ac31 hf34 ac32 hf35 ac33 hf36 ac34 hf37
      refine then_normal ?_
      refine wp_ret ?_
      refine block_ret ?_
      refine then_ret ?_
      refine then_ret ?_
      refine block_ret ?_
      refine then_ret ?_
      refine post1 rfl hf38 rfl ⟨?_, hI6.done (fresh_keys (ks := [b1, b2, b3]) rfl (fk_cons hb1 (fk_cons hb2 (fk_cons hb3 fk_nil))))⟩
      unfold wrongF
      simp only [c15_1, c15_2, cond_true, cond_false]
    · have hf39 := hf33.know 15 (u := .bool false) rfl (congrArg Value.bool c15_2)
      refine wp_skip ?_
      refine block_normal ?_
      refine then_normal ?_
      refine seq_start (l := [0, 1]) rfl ?_
      refine seq_one (op_val (v := .int .i64 2) hf39 rfl rfl rfl rfl rfl rfl (r_add (c := 2) rfl rfl (by rfl)) fun ac36 hf40 => ?_)
      refine seq_one (op_val (v := .int .i64 2) hf40 rfl rfl rfl rfl rfl rfl (r_move rfl) fun ac37 hf41 => ?_)
      refine seq_end ?_
      clear hf33 ac31 hf39 ac36 hf40
      refine then_normal ?_
      refine rounds_go ?_
      refine code_seq ?_
      refine seq_start (l := [0]) rfl ?_
      refine seq_one (op_val (v := .bool true) hf41 rfl rfl rfl rfl rfl rfl (r_lssC rfl rfl (by decide)) fun ac38 hf42 => ?_)
      refine seq_end ?_
      clear ac37 hf41
      refine then_normal ?_
      refine code_seq ?_
      refine code_if_true hf42 rfl ?_
      refine wp_skip ?_
      refine then_normal ?_
      refine code_seq ?_
      refine wp_block ?_
      refine code_seq ?_
      refine seq_start (l := [0, 1, 2, 3, 4]) rfl ?_
      refine seq_one (op_val (v := .int .i64 2) hf42 rfl rfl rfl rfl rfl rfl (r_move rfl) fun ac39 hf43 => ?_)
      refine seq_one (op_val (v := .pointer (some ⟨b3, 2, none⟩)) hf43 rfl rfl rfl rfl rfl rfl (r_indexAddrS (i := 2) sl_60 rfl rfl rfl (by decide) rfl) fun ac40 hf44 => ?_)
      refine seq_one (op_val (v := .func (.func 51) #[] #[.pointer (some ⟨b2, 0, none⟩)]) hf44 rfl rfl rfl rfl rfl rfl (r_load ag_31 rfl (hI6.at 2 rfl) rfl) fun ac41 hf45 => ?_)
      refine seq_one (op_val (v := .int .i64 2) hf45 rfl rfl rfl rfl rfl rfl (r_assign rfl) fun ac42 hf46 => ?_)
      refine seq_one (op_val (v := .func (.func 51) #[] #[.pointer (some ⟨b2, 0, none⟩)]) hf46 rfl rfl rfl rfl rfl rfl (r_assign rfl) fun ac43 hf47 => ?_)
      refine seq_end ?_
      clear ac38 hf42 ac39 hf43 ac40 hf44 ac41 hf45 ac42 hf46
      refine then_normal ?_
      refine code_seq ?_
      refine seq_start (l := [0, 1, 2]) rfl ?_
      refine seq_one (op_val (v := .func (.func 51) #[] #[.pointer (some ⟨b2, 0, none⟩)]) hf47 rfl rfl rfl rfl rfl rfl (r_move rfl) fun ac44 hf48 => ?_)
      refine seq_one (op_callvP (v := .bool (inR x2 0 10)) (cap := [.pointer (some ⟨b2, 0, none⟩)]) hf48 rfl rfl rfl rfl rfl ca_51 (rule3_walk x0 x1 x2 x3 x4 x5 x6 x7 x8 x9 x10 x11 x12 x13 x14 x15 x16 x17 x18 x19 x20 x21 x22 x23 x24 x25 x26 x27 x28 x29 x31 x32 x33 x34 x35 x36 x30 ink b2 _ (Has.cons (hI6.at 1 rfl) Has.nil)) hI6 fun ac45 wd5 hI7 hf49 => ?_)
      refine seq_one (op_val (v := .bool (!(inR x2 0 10))) hf49 rfl rfl rfl rfl rfl rfl (r_not rfl) fun ac46 hf50 => ?_)
      refine seq_end ?_
      clear ac43 hf47 ac44 wd4 hI6 hf48 ac45 hf49
      refine then_normal ?_
      refine code_if hf50 rfl (fun c15_3 => ?_) (fun c15_3 => ?_)
      · have hf51 := hf50.know 15 (u := .bool true) rfl (congrArg Value.bool c15_3)
        refine code_seq ?_
        refine seq_start (l := [0, 1, 2, 3]) rfl ?_
        refine seq_one (op_val (v := .int .i64 2) hf51 rfl rfl rfl rfl rfl rfl (r_move rfl) fun ac47 hf52 => ?_)
        refine seq_one (op_val (v := .int .i64 3) hf52 rfl rfl rfl rfl rfl rfl (r_add (c := 3) rfl rfl (by rfl)) fun ac48 hf53 => ?_)
        refine seq_one (op_val (v := .int .u8 3) hf53 rfl rfl rfl rfl rfl rfl (r_conv (c := 3) ui_3 ui_5 rfl (by rfl)) fun ac49 hf54 => ?_)
        refine seq_one (op_val (v := .int .u8 3) hf54 rfl rfl rfl rfl rfl rfl (r_assign rfl) fun ac50 hf55 => ?_)
        refine seq_end ?_
        clear hf50 ac46 hf51 ac47 hf52 ac48 hf53 ac49 hf54
        refine then_normal ?_
        refine wp_ret ?_
        refine block_ret ?_
        refine then_ret ?_
        refine then_ret ?_
        refine block_ret ?_
        refine then_ret ?_
        refine post1 rfl hf55 rfl ⟨?_, hI7.done (fresh_keys (ks := [b1, b2, b3]) rfl (fk_cons hb1 (fk_cons hb2 (fk_cons hb3 fk_nil))))⟩
        unfold wrongF
        simp only [c15_1, c15_2, c15_3, cond_true, cond_false]
      · have hf56 := hf50.know 15 (u := .bool false) rfl (congrArg Value.bool c15_3)
        refine wp_skip ?_
        refine block_normal ?_
        refine then_normal ?_
        refine seq_start (l := [0, 1]) rfl ?_
        refine seq_one (op_val (v := .int .i64 3) hf56 rfl rfl rfl rfl rfl rfl (r_add (c := 3) rfl rfl (by rfl)) fun ac51 hf57 => ?_)
        refine seq_one (op_val (v := .int .i64 3) hf57 rfl rfl rfl rfl rfl rfl (r_move rfl) fun ac52 hf58 => ?_)
        refine seq_end ?_
        clear hf50 ac46 hf56 ac51 hf57
        refine then_normal ?_
        refine rounds_go ?_
        refine code_seq ?_
        refine seq_start (l := [0]) rfl ?_
        refine seq_one (op_val (v := .bool true) hf58 rfl rfl rfl rfl rfl rfl (r_lssC rfl rfl (by decide)) fun ac53 hf59 => ?_)
        refine seq_end ?_
        clear ac52 hf58
        refine then_normal ?_
        refine code_seq ?_
        refine code_if_true hf59 rfl ?_
        refine wp_skip ?_
        refine then_normal ?_
        refine code_seq ?_
        refine wp_block ?_
        refine code_seq ?_
        refine seq_start (l := [0, 1, 2, 3, 4]) rfl ?_
        refine seq_one (op_val (v := .int .i64 3) hf59 rfl rfl rfl rfl rfl rfl (r_move rfl) fun ac54 hf60 => ?_)
        refine seq_one (op_val (v := .pointer (some ⟨b3, 3, none⟩)) hf60 rfl rfl rfl rfl rfl rfl (r_indexAddrS (i := 3) sl_60 rfl rfl rfl (by decide) rfl) fun ac55 hf61 => ?_)
        refine seq_one (op_val (v := .func (.func 52) #[] #[.pointer (some ⟨b2, 0, none⟩)]) hf61 rfl rfl rfl rfl rfl rfl (r_load ag_31 rfl (hI7.at 2 rfl) rfl) fun ac56 hf62 => ?_)
        refine seq_one (op_val (v := .int .i64 3) hf62 rfl rfl rfl rfl rfl rfl (r_assign rfl) fun ac57 hf63 => ?_)
        refine seq_one (op_val (v := .func (.func 52) #[] #[.pointer (some ⟨b2, 0, none⟩)]) hf63 rfl rfl rfl rfl rfl rfl (r_assign rfl) fun ac58 hf64 => ?_)
        refine seq_end ?_
        clear ac53 hf59 ac54 hf60 ac55 hf61 ac56 hf62 ac57 hf63
        refine then_normal ?_
        refine code_seq ?_
        refine seq_start (l := [0, 1, 2]) rfl ?_
        refine seq_one (op_val (v := .func (.func 52) #[] #[.pointer (some ⟨b2, 0, none⟩)]) hf64 rfl rfl rfl rfl rfl rfl (r_move rfl) fun ac59 hf65 => ?_)
        refine seq_one (op_callvP (v := .bool (inR x3 1 x0 && inR x4 1 x0)) (cap := [.pointer (some ⟨b2, 0, none⟩)]) hf65 rfl rfl rfl rfl rfl ca_52 (rule4_walk x0 x1 x2 x3 x4 x5 x6 x7 x8 x9 x10 x11 x12 x13 x14 x15 x16 x17 x18 x19 x20 x21 x22 x23 x24 x25 x26 x27 x28 x29 x31 x32 x33 x34 x35 x36 x30 ink b2 _ (Has.cons (hI7.at 1 rfl) Has.nil)) hI7 fun ac60 wd6 hI8 hf66 => ?_)
        refine seq_one (op_val (v := .bool (!(inR x3 1 x0 && inR x4 1 x0))) hf66 rfl rfl rfl rfl rfl rfl (r_not rfl) fun ac61 hf67 => ?_)
        refine seq_end ?_
        clear ac58 hf64 ac59 wd5 hI7 hf65 ac60 hf66
        refine then_normal ?_
        refine code_if hf67 rfl (fun c15_4 => ?_) (fun c15_4 => ?_)
        · have hf68 := hf67.know 15 (u := .bool true) rfl (congrArg Value.bool c15_4)
          refine code_seq ?_
          refine seq_start (l := [0, 1, 2, 3]) rfl ?_
          refine seq_one (op_val (v := .int .i64 3) hf68 rfl rfl rfl rfl rfl rfl (r_move rfl) fun ac62 hf69 => ?_)
          refine seq_one (op_val (v := .int .i64 4) hf69 rfl rfl rfl rfl rfl rfl (r_add (c := 4) rfl rfl (by rfl)) fun ac63 hf70 => ?_)
          refine seq_one (op_val (v := .int .u8 4) hf70 rfl rfl rfl rfl rfl rfl (r_conv (c := 4) ui_3 ui_5 rfl (by rfl)) fun ac64 hf71 => ?_)
          refine seq_one (op_val (v := .int .u8 4) hf71 rfl rfl rfl rfl rfl rfl (r_assign rfl) fun ac65 hf72 => ?_)
          refine seq_end ?_
          clear hf67 ac61 hf68 ac62 hf69 ac63 hf70 ac64 hf71
          refine then_normal ?_
          refine wp_ret ?_
          refine block_ret ?_
          refine then_ret ?_
          refine then_ret ?_
          refine block_ret ?_
          refine then_ret ?_
          refine post1 rfl hf72 rfl ⟨?_, hI8.done (fresh_keys (ks := [b1, b2, b3]) rfl (fk_cons hb1 (fk_cons hb2 (fk_cons hb3 fk_nil))))⟩
          unfold wrongF
          simp only [c15_1, c15_2, c15_3, c15_4, cond_true, cond_false]
        · have hf73 := hf67.know 15 (u := .bool false) rfl (congrArg Value.bool c15_4)
          refine wp_skip ?_
          refine block_normal ?_
          refine then_normal ?_
          refine seq_start (l := [0, 1]) rfl ?_
          refine seq_one (op_val (v := .int .i64 4) hf73 rfl rfl rfl rfl rfl rfl (r_add (c := 4) rfl rfl (by rfl)) fun ac66 hf74 => ?_)
          refine seq_one (op_val (v := .int .i64 4) hf74 rfl rfl rfl rfl rfl rfl (r_move rfl) fun ac67 hf75 => ?_)
          refine seq_end ?_
          clear hf67 ac61 hf73 ac66 hf74
          refine then_normal ?_
          refine rounds_go ?_
          refine code_seq ?_
          refine seq_start (l := [0]) rfl ?_
          refine seq_one (op_val (v := .bool true) hf75 rfl rfl rfl rfl rfl rfl (r_lssC rfl rfl (by decide)) fun ac68 hf76 => ?_)
          refine seq_end ?_
          clear ac67 hf75
          refine then_normal ?_
          refine code_seq ?_
          refine code_if_true hf76 rfl ?_
          refine wp_skip ?_
          refine then_normal ?_
          refine code_seq ?_
          refine wp_block ?_
          refine code_seq ?_
          refine seq_start (l := [0, 1, 2, 3, 4]) rfl ?_
          refine seq_one (op_val (v := .int .i64 4) hf76 rfl rfl rfl rfl rfl rfl (r_move rfl) fun ac69 hf77 => ?_)
          refine seq_one (op_val (v := .pointer (some ⟨b3, 4, none⟩)) hf77 rfl rfl rfl rfl rfl rfl (r_indexAddrS (i := 4) sl_60 rfl rfl rfl (by decide) rfl) fun ac70 hf78 => ?_)
          refine seq_one (op_val (v := .func (.func 53) #[] #[.pointer (some ⟨b2, 0, none⟩)]) hf78 rfl rfl rfl rfl rfl rfl (r_load ag_31 rfl (hI8.at 2 rfl) rfl) fun ac71 hf79 => ?_)
          refine seq_one (op_val (v := .int .i64 4) hf79 rfl rfl rfl rfl rfl rfl (r_assign rfl) fun ac72 hf80 => ?_)
          refine seq_one (op_val (v := .func (.func 53) #[] #[.pointer (some ⟨b2, 0, none⟩)]) hf80 rfl rfl rfl rfl rfl rfl (r_assign rfl) fun ac73 hf81 => ?_)
          refine seq_end ?_
          clear ac68 hf76 ac69 hf77 ac70 hf78 ac71 hf79 ac72 hf80
          refine then_normal ?_
          refine code_seq ?_
          refine seq_start (l := [0, 1, 2]) rfl ?_
          refine seq_one (op_val (v := .func (.func 53) #[] #[.pointer (some ⟨b2, 0, none⟩)]) hf81 rfl rfl rfl rfl rfl rfl (r_move rfl) fun ac74 hf82 => ?_)
          refine seq_one (op_callvP (v := .bool (paceF x5 x6 x8 x9 && decide (x5 ≥ 64))) (cap := [.pointer (some ⟨b2, 0, none⟩)]) hf82 rfl rfl rfl rfl rfl ca_53 (rule5_walk x0 x1 x2 x3 x4 x5 x6 x7 x8 x9 x10 x11 x12 x13 x14 x15 x16 x17 x18 x19 x20 x21 x22 x23 x24 x25 x26 x27 x28 x29 x31 x32 x33 x34 x35 x36 x30 ink b2 _ (Has.cons (hI8.at 1 rfl) Has.nil)) hI8 fun ac75 wd7 hI9 hf83 => ?_)
          refine seq_one (op_val (v := .bool (!(paceF x5 x6 x8 x9 && decide (x5 ≥ 64)))) hf83 rfl rfl rfl rfl rfl rfl (r_not rfl) fun ac76 hf84 => ?_)
          refine seq_end ?_
          clear ac73 hf81 ac74 wd6 hI8 hf82 ac75 hf83
          refine then_normal ?_
          refine code_if hf84 rfl (fun c15_5 => ?_) (fun c15_5 => ?_)
          · have hf85 := hf84.know 15 (u := .bool true) rfl (congrArg Value.bool c15_5)
            refine code_seq ?_
            refine seq_start (l := [0, 1, 2, 3]) rfl ?_
            refine seq_one (op_val (v := .int .i64 4) hf85 rfl rfl rfl rfl rfl rfl (r_move rfl) fun ac77 hf86 => ?_)
            refine seq_one (op_val (v := .int .i64 5) hf86 rfl rfl rfl rfl rfl rfl (r_add (c := 5) rfl rfl (by rfl)) fun ac78 hf87 => ?_)
            refine seq_one (op_val (v := .int .u8 5) hf87 rfl rfl rfl rfl rfl rfl (r_conv (c := 5) ui_3 ui_5 rfl (by rfl)) fun ac79 hf88 => ?_)
            refine seq_one (op_val (v := .int .u8 5) hf88 rfl rfl rfl rfl rfl rfl (r_assign rfl) fun ac80 hf89 => ?_)
            refine seq_end ?_
            clear hf84 ac76 hf85 ac77 hf86 ac78 hf87 ac79 hf88
            refine then_normal ?_
            refine wp_ret ?_
            refine block_ret ?_
            refine then_ret ?_
            refine then_ret ?_
            refine block_ret ?_
            refine then_ret ?_
            refine post1 rfl hf89 rfl ⟨?_, hI9.done (fresh_keys (ks := [b1, b2, b3]) rfl (fk_cons hb1 (fk_cons hb2 (fk_cons hb3 fk_nil))))⟩
            unfold wrongF
            simp only [c15_1, c15_2, c15_3, c15_4, c15_5, cond_true, cond_false]
          · have hf90 := hf84.know 15 (u := .bool false) rfl (congrArg Value.bool c15_5)
            refine wp_skip ?_
            refine block_normal ?_
            refine then_normal ?_
            refine seq_start (l := [0, 1]) rfl ?_
            refine seq_one (op_val (v := .int .i64 5) hf90 rfl rfl rfl rfl rfl rfl (r_add (c := 5) rfl rfl (by rfl)) fun ac81 hf91 => ?_)
            refine seq_one (op_val (v := .int .i64 5) hf91 rfl rfl rfl rfl rfl rfl (r_move rfl) fun ac82 hf92 => ?_)
            refine seq_end ?_
            clear hf84 ac76 hf90 ac81 hf91
            refine then_normal ?_
            refine rounds_go ?_
            refine code_seq ?_
            refine seq_start (l := [0]) rfl ?_
            refine seq_one (op_val (v := .bool true) hf92 rfl rfl rfl rfl rfl rfl (r_lssC rfl rfl (by decide)) fun ac83 hf93 => ?_)
            refine seq_end ?_
            clear ac82 hf92
            refine then_normal ?_
            refine code_seq ?_
            refine code_if_true hf93 rfl ?_
            refine wp_skip ?_
            refine then_normal ?_
            refine code_seq ?_
            refine wp_block ?_
            refine code_seq ?_
            refine seq_start (l := [0, 1, 2, 3, 4]) rfl ?_
            refine seq_one (op_val (v := .int .i64 5) hf93 rfl rfl rfl rfl rfl rfl (r_move rfl) fun ac84 hf94 => ?_)
            refine seq_one (op_val (v := .pointer (some ⟨b3, 5, none⟩)) hf94 rfl rfl rfl rfl rfl rfl (r_indexAddrS (i := 5) sl_60 rfl rfl rfl (by decide) rfl) fun ac85 hf95 => ?_)
            refine seq_one (op_val (v := .func (.func 55) #[] #[.pointer (some ⟨b2, 0, none⟩)]) hf95 rfl rfl rfl rfl rfl rfl (r_load ag_31 rfl (hI9.at 2 rfl) rfl) fun ac86 hf96 => ?_)
            refine seq_one (op_val (v := .int .i64 5) hf96 rfl rfl rfl rfl rfl rfl (r_assign rfl) fun ac87 hf97 => ?_)
            refine seq_one (op_val (v := .func (.func 55) #[] #[.pointer (some ⟨b2, 0, none⟩)]) hf97 rfl rfl rfl rfl rfl rfl (r_assign rfl) fun ac88 hf98 => ?_)
            refine seq_end ?_
            clear ac83 hf93 ac84 hf94 ac85 hf95 ac86 hf96 ac87 hf97
            refine then_normal ?_
            refine code_seq ?_
            refine seq_start (l := [0, 1, 2]) rfl ?_
            refine seq_one (op_val (v := .func (.func 55) #[] #[.pointer (some ⟨b2, 0, none⟩)]) hf98 rfl rfl rfl rfl rfl rfl (r_move rfl) fun ac89 hf99 => ?_)
            refine seq_one (op_callvP (v := .bool (inR x10 1024 1048576 && inR x11 1024 1048576 && inR x12 1024 1048576)) (cap := [.pointer (some ⟨b2, 0, none⟩)]) hf99 rfl rfl rfl rfl rfl ca_55 (rule6_walk x0 x1 x2 x3 x4 x5 x6 x7 x8 x9 x10 x11 x12 x13 x14 x15 x16 x17 x18 x19 x20 x21 x22 x23 x24 x25 x26 x27 x28 x29 x31 x32 x33 x34 x35 x36 x30 ink b2 _ (Has.cons (hI9.at 1 rfl) Has.nil)) hI9 fun ac90 wd8 hI10 hf100 => ?_)
            refine seq_one (op_val (v := .bool (!(inR x10 1024 1048576 && inR x11 1024 1048576 && inR x12 1024 1048576))) hf100 rfl rfl rfl rfl rfl rfl (r_not rfl) fun ac91 hf101 => ?_)
            refine seq_end ?_
            clear ac88 hf98 ac89 wd7 hI9 hf99 ac90 hf100
            refine then_normal ?_
            refine code_if hf101 rfl (fun c15_6 => ?_) (fun c15_6 => ?_)
            · have hf102 := hf101.know 15 (u := .bool true) rfl (congrArg Value.bool c15_6)
              refine code_seq ?_
              refine seq_start (l := [0, 1, 2, 3]) rfl ?_
              refine seq_one (op_val (v := .int .i64 5) hf102 rfl rfl rfl rfl rfl rfl (r_move rfl) fun ac92 hf103 => ?_)
              refine seq_one (op_val (v := .int .i64 6) hf103 rfl rfl rfl rfl rfl rfl (r_add (c := 6) rfl rfl (by rfl)) fun ac93 hf104 => ?_)
              refine seq_one (op_val (v := .int .u8 6) hf104 rfl rfl rfl rfl rfl rfl (r_conv (c := 6) ui_3 ui_5 rfl (by rfl)) fun ac94 hf105 => ?_)
              refine seq_one (op_val (v := .int .u8 6) hf105 rfl rfl rfl rfl rfl rfl (r_assign rfl) fun ac95 hf106 => ?_)
              refine seq_end ?_
              clear hf101 ac91 hf102 ac92 hf103 ac93 hf104 ac94 hf105
              refine then_normal ?_
              refine wp_ret ?_
              refine block_ret ?_
              refine then_ret ?_
              refine then_ret ?_
              refine block_ret ?_
              refine then_ret ?_
              refine post1 rfl hf106 rfl ⟨?_, hI10.done (fresh_keys (ks := [b1, b2, b3]) rfl (fk_cons hb1 (fk_cons hb2 (fk_cons hb3 fk_nil))))⟩
              unfold wrongF
              simp only [c15_1, c15_2, c15_3, c15_4, c15_5, c15_6, cond_true, cond_false]
            · have hf107 := hf101.know 15 (u := .bool false) rfl (congrArg Value.bool c15_6)
              refine wp_skip ?_
              refine block_normal ?_
              refine then_normal ?_
              refine seq_start (l := [0, 1]) rfl ?_
              refine seq_one (op_val (v := .int .i64 6) hf107 rfl rfl rfl rfl rfl rfl (r_add (c := 6) rfl rfl (by rfl)) fun ac96 hf108 => ?_)
              refine seq_one (op_val (v := .int .i64 6) hf108 rfl rfl rfl rfl rfl rfl (r_move rfl) fun ac97 hf109 => ?_)
              refine seq_end ?_
              clear hf101 ac91 hf107 ac96 hf108
              refine then_normal ?_
              refine rounds_go ?_
              refine code_seq ?_
              refine seq_start (l := [0]) rfl ?_
              refine seq_one (op_val (v := .bool true) hf109 rfl rfl rfl rfl rfl rfl (r_lssC rfl rfl (by decide)) fun ac98 hf110 => ?_)
              refine seq_end ?_
              clear ac97 hf109
              refine then_normal ?_
              refine code_seq ?_
              refine code_if_true hf110 rfl ?_
              refine wp_skip ?_
              refine then_normal ?_
              refine code_seq ?_
              refine wp_block ?_
              refine code_seq ?_
              refine seq_start (l := [0, 1, 2, 3, 4]) rfl ?_
              refine seq_one (op_val (v := .int .i64 6) hf110 rfl rfl rfl rfl rfl rfl (r_move rfl) fun ac99 hf111 => ?_)
              refine seq_one (op_val (v := .pointer (some ⟨b3, 6, none⟩)) hf111 rfl rfl rfl rfl rfl rfl (r_indexAddrS (i := 6) sl_60 rfl rfl rfl (by decide) rfl) fun ac100 hf112 => ?_)
              refine seq_one (op_val (v := .func (.func 56) #[] #[.pointer (some ⟨b2, 0, none⟩)]) hf112 rfl rfl rfl rfl rfl rfl (r_load ag_31 rfl (hI10.at 2 rfl) rfl) fun ac101 hf113 => ?_)
              refine seq_one (op_val (v := .int .i64 6) hf113 rfl rfl rfl rfl rfl rfl (r_assign rfl) fun ac102 hf114 => ?_)
              refine seq_one (op_val (v := .func (.func 56) #[] #[.pointer (some ⟨b2, 0, none⟩)]) hf114 rfl rfl rfl rfl rfl rfl (r_assign rfl) fun ac103 hf115 => ?_)
              refine seq_end ?_
              clear ac98 hf110 ac99 hf111 ac100 hf112 ac101 hf113 ac102 hf114
              refine then_normal ?_
              refine code_seq ?_
              refine seq_start (l := [0, 1, 2]) rfl ?_
              refine seq_one (op_val (v := .func (.func 56) #[] #[.pointer (some ⟨b2, 0, none⟩)]) hf115 rfl rfl rfl rfl rfl rfl (r_move rfl) fun ac104 hf116 => ?_)
              refine seq_one (op_callvP (v := .bool (rightF [x13, x14, x15, x16, x17, x18, x19, x20, x21, x22, x23, x24, x25, x26, x27, x28])) (cap := [.pointer (some ⟨b2, 0, none⟩)]) hf116 rfl rfl rfl rfl rfl ca_56 (rule7_walk x0 x1 x2 x3 x4 x5 x6 x7 x8 x9 x10 x11 x12 x13 x14 x15 x16 x17 x18 x19 x20 x21 x22 x23 x24 x25 x26 x27 x28 x29 x31 x32 x33 x34 x35 x36 x30 ink b2 _ (Has.cons (hI10.at 1 rfl) Has.nil)) hI10 fun ac105 wd9 hI11 hf117 => ?_)
              refine seq_one (op_val (v := .bool (!(rightF [x13, x14, x15, x16, x17, x18, x19, x20, x21, x22, x23, x24, x25, x26, x27, x28]))) hf117 rfl rfl rfl rfl rfl rfl (r_not rfl) fun ac106 hf118 => ?_)
              refine seq_end ?_
              clear ac103 hf115 ac104 wd8 hI10 hf116 ac105 hf117
              refine then_normal ?_
              refine code_if hf118 rfl (fun c15_7 => ?_) (fun c15_7 => ?_)
              · have hf119 := hf118.know 15 (u := .bool true) rfl (congrArg Value.bool c15_7)
                refine code_seq ?_
                refine seq_start (l := [0, 1, 2, 3]) rfl ?_
                refine seq_one (op_val (v := .int .i64 6) hf119 rfl rfl rfl rfl rfl rfl (r_move rfl) fun ac107 hf120 => ?_)
                refine seq_one (op_val (v := .int .i64 7) hf120 rfl rfl rfl rfl rfl rfl (r_add (c := 7) rfl rfl (by rfl)) fun ac108 hf121 => ?_)
                refine seq_one (op_val (v := .int .u8 7) hf121 rfl rfl rfl rfl rfl rfl (r_conv (c := 7) ui_3 ui_5 rfl (by rfl)) fun ac109 hf122 => ?_)
                refine seq_one (op_val (v := .int .u8 7) hf122 rfl rfl rfl rfl rfl rfl (r_assign rfl) fun ac110 hf123 => ?_)
                refine seq_end ?_
                clear hf118 ac106 hf119 ac107 hf120 ac108 hf121 ac109 hf122
                refine then_normal ?_
                refine wp_ret ?_
                refine block_ret ?_
                refine then_ret ?_
                refine then_ret ?_
                refine block_ret ?_
                refine then_ret ?_
                refine post1 rfl hf123 rfl ⟨?_, hI11.done (fresh_keys (ks := [b1, b2, b3]) rfl (fk_cons hb1 (fk_cons hb2 (fk_cons hb3 fk_nil))))⟩
                unfold wrongF
                simp only [c15_1, c15_2, c15_3, c15_4, c15_5, c15_6, c15_7, cond_true, cond_false]
              · have hf124 := hf118.know 15 (u := .bool false) rfl (congrArg Value.bool c15_7)
                refine wp_skip ?_
                refine block_normal ?_
                refine then_normal ?_
                refine seq_start (l := [0, 1]) rfl ?_
                refine seq_one (op_val (v := .int .i64 7) hf124 rfl rfl rfl rfl rfl rfl (r_add (c := 7) rfl rfl (by rfl)) fun ac111 hf125 => ?_)
                refine seq_one (op_val (v := .int .i64 7) hf125 rfl rfl rfl rfl rfl rfl (r_move rfl) fun ac112 hf126 => ?_)
                refine seq_end ?_
                clear hf118 ac106 hf124 ac111 hf125
                refine then_normal ?_
                refine rounds_go ?_
                refine code_seq ?_
                refine seq_start (l := [0]) rfl ?_
                refine seq_one (op_val (v := .bool true) hf126 rfl rfl rfl rfl rfl rfl (r_lssC rfl rfl (by decide)) fun ac113 hf127 => ?_)
                refine seq_end ?_
                clear ac112 hf126
                refine then_normal ?_
                refine code_seq ?_
                refine code_if_true hf127 rfl ?_
                refine wp_skip ?_
                refine then_normal ?_
                refine code_seq ?_
                refine wp_block ?_
                refine code_seq ?_
                refine seq_start (l := [0, 1, 2, 3, 4]) rfl ?_
                refine seq_one (op_val (v := .int .i64 7) hf127 rfl rfl rfl rfl rfl rfl (r_move rfl) fun ac114 hf128 => ?_)
                refine seq_one (op_val (v := .pointer (some ⟨b3, 7, none⟩)) hf128 rfl rfl rfl rfl rfl rfl (r_indexAddrS (i := 7) sl_60 rfl rfl rfl (by decide) rfl) fun ac115 hf129 => ?_)
                refine seq_one (op_val (v := .func (.func 57) #[] #[.pointer (some ⟨b2, 0, none⟩)]) hf129 rfl rfl rfl rfl rfl rfl (r_load ag_31 rfl (hI11.at 2 rfl) rfl) fun ac116 hf130 => ?_)
                refine seq_one (op_val (v := .int .i64 7) hf130 rfl rfl rfl rfl rfl rfl (r_assign rfl) fun ac117 hf131 => ?_)
                refine seq_one (op_val (v := .func (.func 57) #[] #[.pointer (some ⟨b2, 0, none⟩)]) hf131 rfl rfl rfl rfl rfl rfl (r_assign rfl) fun ac118 hf132 => ?_)
                refine seq_end ?_
                clear ac113 hf127 ac114 hf128 ac115 hf129 ac116 hf130 ac117 hf131
                refine then_normal ?_
                refine code_seq ?_
                refine seq_start (l := [0, 1, 2]) rfl ?_
                refine seq_one (op_val (v := .func (.func 57) #[] #[.pointer (some ⟨b2, 0, none⟩)]) hf132 rfl rfl rfl rfl rfl rfl (r_move rfl) fun ac119 hf133 => ?_)
                refine seq_one (op_callvP (v := .bool (decide (x29 ≤ 1125899906842624))) (cap := [.pointer (some ⟨b2, 0, none⟩)]) hf133 rfl rfl rfl rfl rfl ca_57 (rule8_walk x0 x1 x2 x3 x4 x5 x6 x7 x8 x9 x10 x11 x12 x13 x14 x15 x16 x17 x18 x19 x20 x21 x22 x23 x24 x25 x26 x27 x28 x29 x31 x32 x33 x34 x35 x36 x30 ink b2 _ (Has.cons (hI11.at 1 rfl) Has.nil)) hI11 fun ac120 wd10 hI12 hf134 => ?_)
                refine seq_one (op_val (v := .bool (!(decide (x29 ≤ 1125899906842624)))) hf134 rfl rfl rfl rfl rfl rfl (r_not rfl) fun ac121 hf135 => ?_)
                refine seq_end ?_
                clear ac118 hf132 ac119 wd9 hI11 hf133 ac120 hf134
                refine then_normal ?_
                refine code_if hf135 rfl (fun c15_8 => ?_) (fun c15_8 => ?_)
                · have hf136 := hf135.know 15 (u := .bool true) rfl (congrArg Value.bool c15_8)
                  refine code_seq ?_
                  refine seq_start (l := [0, 1, 2, 3]) rfl ?_
                  refine seq_one (op_val (v := .int .i64 7) hf136 rfl rfl rfl rfl rfl rfl (r_move rfl) fun ac122 hf137 => ?_)
                  refine seq_one (op_val (v := .int .i64 8) hf137 rfl rfl rfl rfl rfl rfl (r_add (c := 8) rfl rfl (by rfl)) fun ac123 hf138 => ?_)
                  refine seq_one (op_val (v := .int .u8 8) hf138 rfl rfl rfl rfl rfl rfl (r_conv (c := 8) ui_3 ui_5 rfl (by rfl)) fun ac124 hf139 => ?_)
                  refine seq_one (op_val (v := .int .u8 8) hf139 rfl rfl rfl rfl rfl rfl (r_assign rfl) fun ac125 hf140 => ?_)
                  refine seq_end ?_
                  clear hf135 ac121 hf136 ac122 hf137 ac123 hf138 ac124 hf139
                  refine then_normal ?_
                  refine wp_ret ?_
                  refine block_ret ?_
                  refine then_ret ?_
                  refine then_ret ?_
                  refine block_ret ?_
                  refine then_ret ?_
                  refine post1 rfl hf140 rfl ⟨?_, hI12.done (fresh_keys (ks := [b1, b2, b3]) rfl (fk_cons hb1 (fk_cons hb2 (fk_cons hb3 fk_nil))))⟩
                  unfold wrongF
                  simp only [c15_1, c15_2, c15_3, c15_4, c15_5, c15_6, c15_7, c15_8, cond_true, cond_false]
                · have hf141 := hf135.know 15 (u := .bool false) rfl (congrArg Value.bool c15_8)
                  refine wp_skip ?_
                  refine block_normal ?_
                  refine then_normal ?_
                  refine seq_start (l := [0, 1]) rfl ?_
                  refine seq_one (op_val (v := .int .i64 8) hf141 rfl rfl rfl rfl rfl rfl (r_add (c := 8) rfl rfl (by rfl)) fun ac126 hf142 => ?_)
                  refine seq_one (op_val (v := .int .i64 8) hf142 rfl rfl rfl rfl rfl rfl (r_move rfl) fun ac127 hf143 => ?_)
                  refine seq_end ?_
                  clear hf135 ac121 hf141 ac126 hf142
                  refine then_normal ?_
                  refine rounds_go ?_
                  refine code_seq ?_
                  refine seq_start (l := [0]) rfl ?_
                  refine seq_one (op_val (v := .bool true) hf143 rfl rfl rfl rfl rfl rfl (r_lssC rfl rfl (by decide)) fun ac128 hf144 => ?_)
                  refine seq_end ?_
                  clear ac127 hf143
                  refine then_normal ?_
                  refine code_seq ?_
                  refine code_if_true hf144 rfl ?_
                  refine wp_skip ?_
                  refine then_normal ?_
                  refine code_seq ?_
                  refine wp_block ?_
                  refine code_seq ?_
                  refine seq_start (l := [0, 1, 2, 3, 4]) rfl ?_
                  refine seq_one (op_val (v := .int .i64 8) hf144 rfl rfl rfl rfl rfl rfl (r_move rfl) fun ac129 hf145 => ?_)
                  refine seq_one (op_val (v := .pointer (some ⟨b3, 8, none⟩)) hf145 rfl rfl rfl rfl rfl rfl (r_indexAddrS (i := 8) sl_60 rfl rfl rfl (by decide) rfl) fun ac130 hf146 => ?_)
                  refine seq_one (op_val (v := .func (.func 58) #[] #[.pointer (some ⟨b2, 0, none⟩)]) hf146 rfl rfl rfl rfl rfl rfl (r_load ag_31 rfl (hI12.at 2 rfl) rfl) fun ac131 hf147 => ?_)
                  refine seq_one (op_val (v := .int .i64 8) hf147 rfl rfl rfl rfl rfl rfl (r_assign rfl) fun ac132 hf148 => ?_)
                  refine seq_one (op_val (v := .func (.func 58) #[] #[.pointer (some ⟨b2, 0, none⟩)]) hf148 rfl rfl rfl rfl rfl rfl (r_assign rfl) fun ac133 hf149 => ?_)
                  refine seq_end ?_
                  clear ac128 hf144 ac129 hf145 ac130 hf146 ac131 hf147 ac132 hf148
                  refine then_normal ?_
                  refine code_seq ?_
                  refine seq_start (l := [0, 1, 2]) rfl ?_
                  refine seq_one (op_val (v := .func (.func 58) #[] #[.pointer (some ⟨b2, 0, none⟩)]) hf149 rfl rfl rfl rfl rfl rfl (r_move rfl) fun ac134 hf150 => ?_)
                  refine seq_one (op_callvP (v := .bool (inR x32 2 4096 && decide (x33 ≥ 1) && decide (x33 ≤ 1099511627776))) (cap := [.pointer (some ⟨b2, 0, none⟩)]) hf150 rfl rfl rfl rfl rfl ca_58 (rule9_walk x0 x1 x2 x3 x4 x5 x6 x7 x8 x9 x10 x11 x12 x13 x14 x15 x16 x17 x18 x19 x20 x21 x22 x23 x24 x25 x26 x27 x28 x29 x31 x32 x33 x34 x35 x36 x30 ink b2 _ (Has.cons (hI12.at 1 rfl) Has.nil)) hI12 fun ac135 wd11 hI13 hf151 => ?_)
                  refine seq_one (op_val (v := .bool (!(inR x32 2 4096 && decide (x33 ≥ 1) && decide (x33 ≤ 1099511627776)))) hf151 rfl rfl rfl rfl rfl rfl (r_not rfl) fun ac136 hf152 => ?_)
                  refine seq_end ?_
                  clear ac133 hf149 ac134 wd10 hI12 hf150 ac135 hf151
                  refine then_normal ?_
                  refine code_if hf152 rfl (fun c15_9 => ?_) (fun c15_9 => ?_)
                  · have hf153 := hf152.know 15 (u := .bool true) rfl (congrArg Value.bool c15_9)
                    refine code_seq ?_
                    refine seq_start (l := [0, 1, 2, 3]) rfl ?_
                    refine seq_one (op_val (v := .int .i64 8) hf153 rfl rfl rfl rfl rfl rfl (r_move rfl) fun ac137 hf154 => ?_)
                    refine seq_one (op_val (v := .int .i64 9) hf154 rfl rfl rfl rfl rfl rfl (r_add (c := 9) rfl rfl (by rfl)) fun ac138 hf155 => ?_)
                    refine seq_one (op_val (v := .int .u8 9) hf155 rfl rfl rfl rfl rfl rfl (r_conv (c := 9) ui_3 ui_5 rfl (by rfl)) fun ac139 hf156 => ?_)
                    refine seq_one (op_val (v := .int .u8 9) hf156 rfl rfl rfl rfl rfl rfl (r_assign rfl) fun ac140 hf157 => ?_)
                    refine seq_end ?_
                    clear hf152 ac136 hf153 ac137 hf154 ac138 hf155 ac139 hf156
                    refine then_normal ?_
                    refine wp_ret ?_
                    refine block_ret ?_
                    refine then_ret ?_
                    refine then_ret ?_
                    refine block_ret ?_
                    refine then_ret ?_
                    refine post1 rfl hf157 rfl ⟨?_, hI13.done (fresh_keys (ks := [b1, b2, b3]) rfl (fk_cons hb1 (fk_cons hb2 (fk_cons hb3 fk_nil))))⟩
                    unfold wrongF
                    simp only [c15_1, c15_2, c15_3, c15_4, c15_5, c15_6, c15_7, c15_8, c15_9, cond_true, cond_false]
                  · have hf158 := hf152.know 15 (u := .bool false) rfl (congrArg Value.bool c15_9)
                    refine wp_skip ?_
                    refine block_normal ?_
                    refine then_normal ?_
                    refine seq_start (l := [0, 1]) rfl ?_
                    refine seq_one (op_val (v := .int .i64 9) hf158 rfl rfl rfl rfl rfl rfl (r_add (c := 9) rfl rfl (by rfl)) fun ac141 hf159 => ?_)
                    refine seq_one (op_val (v := .int .i64 9) hf159 rfl rfl rfl rfl rfl rfl (r_move rfl) fun ac142 hf160 => ?_)
                    refine seq_end ?_
                    clear hf152 ac136 hf158 ac141 hf159
                    refine then_normal ?_
                    refine rounds_go ?_
                    refine code_seq ?_
                    refine seq_start (l := [0]) rfl ?_
                    refine seq_one (op_val (v := .bool true) hf160 rfl rfl rfl rfl rfl rfl (r_lssC rfl rfl (by decide)) fun ac143 hf161 => ?_)
                    refine seq_end ?_
                    clear ac142 hf160
                    refine then_normal ?_
                    refine code_seq ?_
                    refine code_if_true hf161 rfl ?_
                    refine wp_skip ?_
                    refine then_normal ?_
                    refine code_seq ?_
                    refine wp_block ?_
                    refine code_seq ?_
                    refine seq_start (l := [0, 1, 2, 3, 4]) rfl ?_
                    refine seq_one (op_val (v := .int .i64 9) hf161 rfl rfl rfl rfl rfl rfl (r_move rfl) fun ac144 hf162 => ?_)
                    refine seq_one (op_val (v := .pointer (some ⟨b3, 9, none⟩)) hf162 rfl rfl rfl rfl rfl rfl (r_indexAddrS (i := 9) sl_60 rfl rfl rfl (by decide) rfl) fun ac145 hf163 => ?_)
                    refine seq_one (op_val (v := .func (.func 59) #[] #[.pointer (some ⟨b2, 0, none⟩)]) hf163 rfl rfl rfl rfl rfl rfl (r_load ag_31 rfl (hI13.at 2 rfl) rfl) fun ac146 hf164 => ?_)
                    refine seq_one (op_val (v := .int .i64 9) hf164 rfl rfl rfl rfl rfl rfl (r_assign rfl) fun ac147 hf165 => ?_)
                    refine seq_one (op_val (v := .func (.func 59) #[] #[.pointer (some ⟨b2, 0, none⟩)]) hf165 rfl rfl rfl rfl rfl rfl (r_assign rfl) fun ac148 hf166 => ?_)
                    refine seq_end ?_
                    clear ac143 hf161 ac144 hf162 ac145 hf163 ac146 hf164 ac147 hf165
                    refine then_normal ?_
                    refine code_seq ?_
                    refine seq_start (l := [0, 1, 2]) rfl ?_
                    refine seq_one (op_val (v := .func (.func 59) #[] #[.pointer (some ⟨b2, 0, none⟩)]) hf166 rfl rfl rfl rfl rfl rfl (r_move rfl) fun ac149 hf167 => ?_)
                    refine seq_one (op_callvP (v := .bool (inR x34 1 4096)) (cap := [.pointer (some ⟨b2, 0, none⟩)]) hf167 rfl rfl rfl rfl rfl ca_59 (rule10_walk x0 x1 x2 x3 x4 x5 x6 x7 x8 x9 x10 x11 x12 x13 x14 x15 x16 x17 x18 x19 x20 x21 x22 x23 x24 x25 x26 x27 x28 x29 x31 x32 x33 x34 x35 x36 x30 ink b2 _ (Has.cons (hI13.at 1 rfl) Has.nil)) hI13 fun ac150 wd12 hI14 hf168 => ?_)
                    refine seq_one (op_val (v := .bool (!(inR x34 1 4096))) hf168 rfl rfl rfl rfl rfl rfl (r_not rfl) fun ac151 hf169 => ?_)
                    refine seq_end ?_
                    clear ac148 hf166 ac149 wd11 hI13 hf167 ac150 hf168
                    refine then_normal ?_
                    refine code_if hf169 rfl (fun c15_10 => ?_) (fun c15_10 => ?_)
                    · have hf170 := hf169.know 15 (u := .bool true) rfl (congrArg Value.bool c15_10)
                      refine code_seq ?_
                      refine seq_start (l := [0, 1, 2, 3]) rfl ?_
                      refine seq_one (op_val (v := .int .i64 9) hf170 rfl rfl rfl rfl rfl rfl (r_move rfl) fun ac152 hf171 => ?_)
                      refine seq_one (op_val (v := .int .i64 10) hf171 rfl rfl rfl rfl rfl rfl (r_add (c := 10) rfl rfl (by rfl)) fun ac153 hf172 => ?_)
                      refine seq_one (op_val (v := .int .u8 10) hf172 rfl rfl rfl rfl rfl rfl (r_conv (c := 10) ui_3 ui_5 rfl (by rfl)) fun ac154 hf173 => ?_)
                      refine seq_one (op_val (v := .int .u8 10) hf173 rfl rfl rfl rfl rfl rfl (r_assign rfl) fun ac155 hf174 => ?_)
                      refine seq_end ?_
                      clear hf169 ac151 hf170 ac152 hf171 ac153 hf172 ac154 hf173
                      refine then_normal ?_
                      refine wp_ret ?_
                      refine block_ret ?_
                      refine then_ret ?_
                      refine then_ret ?_
                      refine block_ret ?_
                      refine then_ret ?_
                      refine post1 rfl hf174 rfl ⟨?_, hI14.done (fresh_keys (ks := [b1, b2, b3]) rfl (fk_cons hb1 (fk_cons hb2 (fk_cons hb3 fk_nil))))⟩
                      unfold wrongF
                      simp only [c15_1, c15_2, c15_3, c15_4, c15_5, c15_6, c15_7, c15_8, c15_9, c15_10, cond_true, cond_false]
                    · have hf175 := hf169.know 15 (u := .bool false) rfl (congrArg Value.bool c15_10)
                      refine wp_skip ?_
                      refine block_normal ?_
                      refine then_normal ?_
                      refine seq_start (l := [0, 1]) rfl ?_
                      refine seq_one (op_val (v := .int .i64 10) hf175 rfl rfl rfl rfl rfl rfl (r_add (c := 10) rfl rfl (by rfl)) fun ac156 hf176 => ?_)
                      refine seq_one (op_val (v := .int .i64 10) hf176 rfl rfl rfl rfl rfl rfl (r_move rfl) fun ac157 hf177 => ?_)
                      refine seq_end ?_
                      clear hf169 ac151 hf175 ac156 hf176
                      refine then_normal ?_
                      refine rounds_go ?_
                      refine code_seq ?_
                      refine seq_start (l := [0]) rfl ?_
                      refine seq_one (op_val (v := .bool true) hf177 rfl rfl rfl rfl rfl rfl (r_lssC rfl rfl (by decide)) fun ac158 hf178 => ?_)
                      refine seq_end ?_
                      clear ac157 hf177
                      refine then_normal ?_
                      refine code_seq ?_
                      refine code_if_true hf178 rfl ?_
                      refine wp_skip ?_
                      refine then_normal ?_
                      refine code_seq ?_
                      refine wp_block ?_
                      refine code_seq ?_
                      refine seq_start (l := [0, 1, 2, 3, 4]) rfl ?_
                      refine seq_one (op_val (v := .int .i64 10) hf178 rfl rfl rfl rfl rfl rfl (r_move rfl) fun ac159 hf179 => ?_)
                      refine seq_one (op_val (v := .pointer (some ⟨b3, 10, none⟩)) hf179 rfl rfl rfl rfl rfl rfl (r_indexAddrS (i := 10) sl_60 rfl rfl rfl (by decide) rfl) fun ac160 hf180 => ?_)
                      refine seq_one (op_val (v := .func (.func 60) #[] #[.pointer (some ⟨b2, 0, none⟩)]) hf180 rfl rfl rfl rfl rfl rfl (r_load ag_31 rfl (hI14.at 2 rfl) rfl) fun ac161 hf181 => ?_)
                      refine seq_one (op_val (v := .int .i64 10) hf181 rfl rfl rfl rfl rfl rfl (r_assign rfl) fun ac162 hf182 => ?_)
                      refine seq_one (op_val (v := .func (.func 60) #[] #[.pointer (some ⟨b2, 0, none⟩)]) hf182 rfl rfl rfl rfl rfl rfl (r_assign rfl) fun ac163 hf183 => ?_)
                      refine seq_end ?_
                      clear ac158 hf178 ac159 hf179 ac160 hf180 ac161 hf181 ac162 hf182
                      refine then_normal ?_
                      refine code_seq ?_
                      refine seq_start (l := [0, 1, 2]) rfl ?_
                      refine seq_one (op_val (v := .func (.func 60) #[] #[.pointer (some ⟨b2, 0, none⟩)]) hf183 rfl rfl rfl rfl rfl rfl (r_move rfl) fun ac164 hf184 => ?_)
                      refine seq_one (op_callvP (v := .bool (inR x35 64 65536 && inR x36 1 64)) (cap := [.pointer (some ⟨b2, 0, none⟩)]) hf184 rfl rfl rfl rfl rfl ca_60 (rule11_walk x0 x1 x2 x3 x4 x5 x6 x7 x8 x9 x10 x11 x12 x13 x14 x15 x16 x17 x18 x19 x20 x21 x22 x23 x24 x25 x26 x27 x28 x29 x31 x32 x33 x34 x35 x36 x30 ink b2 _ (Has.cons (hI14.at 1 rfl) Has.nil)) hI14 fun ac165 wd13 hI15 hf185 => ?_)
                      refine seq_one (op_val (v := .bool (!(inR x35 64 65536 && inR x36 1 64))) hf185 rfl rfl rfl rfl rfl rfl (r_not rfl) fun ac166 hf186 => ?_)
                      refine seq_end ?_
                      clear ac163 hf183 ac164 wd12 hI14 hf184 ac165 hf185
                      refine then_normal ?_
                      refine code_if hf186 rfl (fun c15_11 => ?_) (fun c15_11 => ?_)
                      · have hf187 := hf186.know 15 (u := .bool true) rfl (congrArg Value.bool c15_11)
                        refine code_seq ?_
                        refine seq_start (l := [0, 1, 2, 3]) rfl ?_
                        refine seq_one (op_val (v := .int .i64 10) hf187 rfl rfl rfl rfl rfl rfl (r_move rfl) fun ac167 hf188 => ?_)
                        refine seq_one (op_val (v := .int .i64 11) hf188 rfl rfl rfl rfl rfl rfl (r_add (c := 11) rfl rfl (by rfl)) fun ac168 hf189 => ?_)
                        refine seq_one (op_val (v := .int .u8 11) hf189 rfl rfl rfl rfl rfl rfl (r_conv (c := 11) ui_3 ui_5 rfl (by rfl)) fun ac169 hf190 => ?_)
                        refine seq_one (op_val (v := .int .u8 11) hf190 rfl rfl rfl rfl rfl rfl (r_assign rfl) fun ac170 hf191 => ?_)
                        refine seq_end ?_
                        clear hf186 ac166 hf187 ac167 hf188 ac168 hf189 ac169 hf190
                        refine then_normal ?_
                        refine wp_ret ?_
                        refine block_ret ?_
                        refine then_ret ?_
                        refine then_ret ?_
                        refine block_ret ?_
                        refine then_ret ?_
                        refine post1 rfl hf191 rfl ⟨?_, hI15.done (fresh_keys (ks := [b1, b2, b3]) rfl (fk_cons hb1 (fk_cons hb2 (fk_cons hb3 fk_nil))))⟩
                        unfold wrongF
                        simp only [c15_1, c15_2, c15_3, c15_4, c15_5, c15_6, c15_7, c15_8, c15_9, c15_10, c15_11, cond_true, cond_false]
                      · have hf192 := hf186.know 15 (u := .bool false) rfl (congrArg Value.bool c15_11)
                        refine wp_skip ?_
                        refine block_normal ?_
                        refine then_normal ?_
                        refine seq_start (l := [0, 1]) rfl ?_
                        refine seq_one (op_val (v := .int .i64 11) hf192 rfl rfl rfl rfl rfl rfl (r_add (c := 11) rfl rfl (by rfl)) fun ac171 hf193 => ?_)
                        refine seq_one (op_val (v := .int .i64 11) hf193 rfl rfl rfl rfl rfl rfl (r_move rfl) fun ac172 hf194 => ?_)
                        refine seq_end ?_
                        clear hf186 ac166 hf192 ac171 hf193
                        refine then_normal ?_
                        refine rounds_go ?_
                        refine code_seq ?_
                        refine seq_start (l := [0]) rfl ?_
                        refine seq_one (op_val (v := .bool false) hf194 rfl rfl rfl rfl rfl rfl (r_lssC rfl rfl (by decide)) fun ac173 hf195 => ?_)
                        refine seq_end ?_
                        clear ac172 hf194
                        refine then_normal ?_
                        refine code_seq ?_
                        refine code_if_false hf195 rfl ?_
                        refine wp_exit ?_
                        refine then_exit ?_
                        refine then_exit ?_
                        refine block_here ?_
                        refine then_normal ?_
                        refine code_seq ?_
                        refine seq_start (l := [0]) rfl ?_
                        refine seq_one (op_val (v := .int .u8 0) hf195 rfl rfl rfl rfl rfl rfl (r_assign rfl) fun ac174 hf196 => ?_)
                        refine seq_end ?_
                        clear ac173 hf195
                        refine then_normal ?_
                        refine wp_ret ?_
                        refine post1 rfl hf196 rfl ⟨?_, hI15.done (fresh_keys (ks := [b1, b2, b3]) rfl (fk_cons hb1 (fk_cons hb2 (fk_cons hb3 fk_nil))))⟩
                        unfold wrongF
                        simp only [c15_1, c15_2, c15_3, c15_4, c15_5, c15_6, c15_7, c15_8, c15_9, c15_10, c15_11, cond_true, cond_false]
set_option maxHeartbeats 8000000 in
theorem cright_pur (x0 x1 x2 x3 x4 x5 x6 x7 x8 x9 x10 x11 x12 x13 x14 x15 x16 x17 x18 x19 x20 x21 x22 x23 x24 x25 x26 x27 x28 x29 x31 x32 x33 x34 x35 x36 : Int) (x30 : Bool) (ink : InK .u8 [x13, x14, x15, x16, x17, x18, x19, x20, x21, x22, x23, x24, x25, x26, x27, x28]) : Pur Tryd.prog 26 [.agg #[.int .i64 x0, .int .i64 x1, .int .i64 x2, .int .i64 x3, .int .i64 x4, .int .i64 x5, .int .i64 x6, .int .u64 x7, .int .u64 x8, .int .u64 x9, .int .i64 x10, .int .i64 x11, .int .i64 x12, .int .u8 x13, .int .u8 x14, .int .u8 x15, .int .u8 x16, .int .u8 x17, .int .u8 x18, .int .u8 x19, .int .u8 x20, .int .u8 x21, .int .u8 x22, .int .u8 x23, .int .u8 x24, .int .u8 x25, .int .u8 x26, .int .u8 x27, .int .u8 x28, .int .u64 x29, .bool x30, .int .u64 x31, .int .i64 x32, .int .u64 x33, .int .i64 x34, .int .i64 x35, .int .i64 x36]] (.bool (wrongF x0 x1 x2 x3 x4 x5 x6 x8 x9 x10 x11 x12 [x13, x14, x15, x16, x17, x18, x19, x20, x21, x22, x23, x24, x25, x26, x27, x28] x29 x32 x33 x34 x35 x36 == 0)) := by
  intro w
  have hI1 := Inv.start w
  refine enter (n := 6) Tryd.func26 rfl rfl rfl ?_
  intro ac1 hf1
  refine code_seq ?_
  refine seq_start (l := [0, 1]) rfl ?_
  refine seq_one (op_box hf1 rfl rfl rfl rfl hI1 fun ac2 b1 wd1 hb1 hI2 hf2 => ?_)
  have hI3 : Inv w [(b1, #[.int .i64 x0, .int .i64 x1, .int .i64 x2, .int .i64 x3, .int .i64 x4, .int .i64 x5, .int .i64 x6, .int .u64 x7, .int .u64 x8, .int .u64 x9, .int .i64 x10, .int .i64 x11, .int .i64 x12, .int .u8 x13, .int .u8 x14, .int .u8 x15, .int .u8 x16, .int .u8 x17, .int .u8 x18, .int .u8 x19, .int .u8 x20, .int .u8 x21, .int .u8 x22, .int .u8 x23, .int .u8 x24, .int .u8 x25, .int .u8 x26, .int .u8 x27, .int .u8 x28, .int .u64 x29, .bool x30, .int .u64 x31, .int .i64 x32, .int .u64 x33, .int .i64 x34, .int .i64 x35, .int .i64 x36], 41)] wd1 := hI2
  refine seq_one (op_val (v := .bool false) hf2 rfl rfl rfl rfl rfl rfl (r_assign rfl) fun ac3 hf3 => ?_)
  refine seq_end ?_
  clear ac1 hI1 hf1 hI2 ac2 hf2
  refine then_normal ?_
  refine code_seq ?_
  refine seq_start (l := [0, 1, 2, 3]) rfl ?_
  refine seq_one (op_val (v := .agg #[.int .i64 x0, .int .i64 x1, .int .i64 x2, .int .i64 x3, .int .i64 x4, .int .i64 x5, .int .i64 x6, .int .u64 x7, .int .u64 x8, .int .u64 x9, .int .i64 x10, .int .i64 x11, .int .i64 x12, .int .u8 x13, .int .u8 x14, .int .u8 x15, .int .u8 x16, .int .u8 x17, .int .u8 x18, .int .u8 x19, .int .u8 x20, .int .u8 x21, .int .u8 x22, .int .u8 x23, .int .u8 x24, .int .u8 x25, .int .u8 x26, .int .u8 x27, .int .u8 x28, .int .u64 x29, .bool x30, .int .u64 x31, .int .i64 x32, .int .u64 x33, .int .i64 x34, .int .i64 x35, .int .i64 x36]) hf3 rfl rfl rfl rfl rfl rfl (r_loadW ag_41 sz_41 rfl (hI3.at 0 rfl) rfl) fun ac4 hf4 => ?_)
  refine seq_one (op_pure hf4 rfl rfl rfl rfl ca_24 (wrong_pur x0 x1 x2 x3 x4 x5 x6 x7 x8 x9 x10 x11 x12 x13 x14 x15 x16 x17 x18 x19 x20 x21 x22 x23 x24 x25 x26 x27 x28 x29 x31 x32 x33 x34 x35 x36 x30 ink) hI3 fun ac5 wd2 hI4 hf5 => ?_)
  refine seq_one (op_val (v := .bool ((wrongF x0 x1 x2 x3 x4 x5 x6 x8 x9 x10 x11 x12 [x13, x14, x15, x16, x17, x18, x19, x20, x21, x22, x23, x24, x25, x26, x27, x28] x29 x32 x33 x34 x35 x36) == 0)) hf5 rfl rfl rfl rfl rfl rfl (r_eql rfl rfl) fun ac6 hf6 => ?_)
  refine seq_one (op_val (v := .bool ((wrongF x0 x1 x2 x3 x4 x5 x6 x8 x9 x10 x11 x12 [x13, x14, x15, x16, x17, x18, x19, x20, x21, x22, x23, x24, x25, x26, x27, x28] x29 x32 x33 x34 x35 x36) == 0)) hf6 rfl rfl rfl rfl rfl rfl (r_assign rfl) fun ac7 hf7 => ?_)
  refine seq_end ?_
  clear ac3 hf3 ac4 wd1 hI3 hf4 ac5 hf5 ac6 hf6
  refine then_normal ?_
  refine wp_ret ?_
  refine post1 rfl hf7 rfl ⟨?_, hI4.done (fresh_keys (ks := [b1]) rfl (fk_cons hb1 fk_nil))⟩
  rfl
end Go.Proofs.YtakkookpjhaekaaDoor
