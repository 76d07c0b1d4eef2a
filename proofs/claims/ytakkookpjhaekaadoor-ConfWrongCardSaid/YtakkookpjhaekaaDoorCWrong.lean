/-
  One number of a configuration spoilt: what a call comes to.
-/
import Derived.Test.YtakkookpjhaekaaDoorCAwake
namespace Go.Proofs.YtakkookpjhaekaaDoor
set_option linter.unusedVariables false
set_option linter.unusedSimpArgs false
set_option maxRecDepth 100000
open Go.RowKit
theorem Inv.unreadB {w w' : World} {A B : List Blk} (h : Inv w (A ++ B) w') (h0 : Has B w) : Inv w A w' :=
  ⟨h.os, h.tape, h.output, h.size, fun k hk hn => by
    by_cases hb : ∃ x ∈ B, x.1 = k
    · obtain ⟨x, hx, rfl⟩ := hb
      obtain ⟨i, hi, e⟩ := List.mem_iff_getElem.1 hx
      rw [h.blk x (List.mem_append_right _ hx), h0 i x (by rw [List.getElem?_eq_getElem hi, e])]
    · exact h.old k hk (fun x hx => (List.mem_append.1 hx).elim (hn x) (fun hx e => hb ⟨x, hx, e⟩)), fun x hx => h.blk x (List.mem_append_left _ hx), (List.pairwise_append.1 h.nodup).1⟩
theorem Inv.ne {w0 w : World} {hs : List Blk} (h : Inv w0 hs w) {i j : Nat} {x y : Blk} (hi : hs[i]? = some x) (hj : hs[j]? = some y) (hij : i ≠ j) : x.1 ≠ y.1 := by
  obtain ⟨hi', rfl⟩ := List.getElem?_eq_some_iff.1 hi
  obtain ⟨hj', rfl⟩ := List.getElem?_eq_some_iff.1 hj
  have hp := List.pairwise_iff_getElem.1 h.nodup
  rcases Nat.lt_or_gt_of_ne hij with g | g
  · exact hp i j hi' hj' g
  · exact (hp j i hj' hi' g).symm
theorem sp_wf {k j n c : Int} (hn : (Lit.int .u8 n).wf = true) (hc : (Lit.int .u8 c).wf = true) : (Lit.int .u8 (if k = j then n else c)).wf = true := by split; exact hn; exact hc
def sp (k j n c : Int) : Int := if k = j then n else c
def nF (b : Bool) : Int := bif b then 1073741824 else 0
set_option maxHeartbeats 8000000 in
theorem spoil_1 (x0 x1 x2 x3 x4 x5 x6 x7 x8 x9 x10 x11 x12 x13 x14 x15 x16 x17 x18 x19 x20 x21 x22 x23 x24 x25 x26 x27 x28 x29 x31 x32 x33 x34 x35 x36 : Int) (x30 : Bool) (ab : Bool) (b c : Nat) (hne : b ≠ c) (w : World) (h0_ : Has [(b, #[Value.int .i64 x0, Value.int .i64 x1, Value.int .i64 x2, Value.int .i64 x3, Value.int .i64 x4, Value.int .i64 x5, Value.int .i64 x6, Value.int .u64 x7, Value.int .u64 x8, Value.int .u64 x9, Value.int .i64 x10, Value.int .i64 x11, Value.int .i64 x12, Value.int .u8 x13, Value.int .u8 x14, Value.int .u8 x15, Value.int .u8 x16, Value.int .u8 x17, Value.int .u8 x18, Value.int .u8 x19, Value.int .u8 x20, Value.int .u8 x21, Value.int .u8 x22, Value.int .u8 x23, Value.int .u8 x24, Value.int .u8 x25, Value.int .u8 x26, Value.int .u8 x27, Value.int .u8 x28, Value.int .u64 x29, Value.bool x30, Value.int .u64 x31, Value.int .i64 x32, Value.int .u64 x33, Value.int .i64 x34, Value.int .i64 x35, Value.int .i64 x36], 41), (c, #[Value.bool ab], 4)] w) : Calls Tryd.prog 32 [.pointer (some ⟨b, 0, none⟩), .int .u8 1, .pointer (some ⟨c, 0, none⟩)].toArray w fun e w' => e = .returned (.tuple #[]) ∧ Inv w [(b, #[Value.int .i64 (sp 1 1 (nF ab) x0), Value.int .i64 (sp 1 2 (nF ab) x1), Value.int .i64 (sp 1 3 ((nF ab) - 1) x2), Value.int .i64 (sp 1 4 (nF ab) x3), Value.int .i64 x4, Value.int .i64 x5, Value.int .i64 (sp 1 5 (nF ab) x6), Value.int .u64 x7, Value.int .u64 x8, Value.int .u64 x9, Value.int .i64 (sp 1 6 (nF ab) x10), Value.int .i64 x11, Value.int .i64 x12, Value.int .u8 x13, Value.int .u8 x14, Value.int .u8 x15, Value.int .u8 x16, Value.int .u8 x17, Value.int .u8 x18, Value.int .u8 x19, Value.int .u8 (sp 1 7 4 x20), Value.int .u8 x21, Value.int .u8 x22, Value.int .u8 x23, Value.int .u8 x24, Value.int .u8 x25, Value.int .u8 x26, Value.int .u8 x27, Value.int .u8 x28, Value.int .u64 (sp 1 8 1125899906842625 x29), Value.bool x30, Value.int .u64 x31, Value.int .i64 (sp 1 9 (nF ab) x32), Value.int .u64 x33, Value.int .i64 (sp 1 10 (nF ab) x34), Value.int .i64 x35, Value.int .i64 (sp 1 11 (nF ab) x36)], 41)] w' := by
  have hI1 := Inv.startS h0_ (by simp [hne])
  refine enter (n := 77) Tryd.func32 rfl rfl rfl ?_
  intro ac1 hf1
  refine code_seq ?_
  refine seq_start (l := [0]) rfl ?_
  refine seq_one (op_val (v := .int .i64 0) hf1 rfl rfl rfl rfl rfl rfl (r_assign rfl) fun ac2 hf2 => ?_)
  refine seq_end ?_
  clear ac1 hf1
  refine then_normal ?_
  refine code_seq ?_
  refine code_seq ?_
  refine seq_start (l := [0]) rfl ?_
  refine seq_one (op_val (v := .bool ab) hf2 rfl rfl rfl rfl rfl rfl (r_load ag_4 rfl (hI1.at 1 rfl) rfl) fun ac3 hf3 => ?_)
  refine seq_end ?_
  clear ac2 hf2
  refine then_normal ?_
  refine code_if hf3 rfl (fun c6_1 => ?_) (fun c6_1 => ?_)
  · have hf4 := hf3.know 6 (u := .bool true) rfl (congrArg Value.bool c6_1)
    refine seq_start (l := [0]) rfl ?_
    refine seq_one (op_val (v := .int .i64 1073741824) hf4 rfl rfl rfl rfl rfl rfl (r_assign rfl) fun ac4 hf5 => ?_)
    refine seq_end ?_
    clear hf3 ac3 hf4
    refine then_normal ?_
    refine code_seq ?_
    refine seq_start (l := [0]) rfl ?_
    refine seq_one (op_val (v := .int .u8 1) hf5 rfl rfl rfl rfl rfl rfl (r_move rfl) fun ac5 hf6 => ?_)
    refine seq_end ?_
    clear ac4 hf5
    refine then_normal ?_
    refine wp_block ?_
    refine code_seq ?_
    refine seq_start (l := [0, 1]) rfl ?_
    refine seq_one (op_val (v := .bool true) hf6 rfl rfl rfl rfl rfl rfl (r_eqlC rfl rfl (by decide)) fun ac6 hf7 => ?_)
    refine seq_one (op_val (v := .bool true) hf7 rfl rfl rfl rfl rfl rfl (r_assign rfl) fun ac7 hf8 => ?_)
    refine seq_end ?_
    clear ac5 hf6 ac6 hf7
    refine then_normal ?_
    refine code_if_true hf8 rfl ?_
    refine seq_start (l := [0, 1, 2, 3, 4]) rfl ?_
    refine seq_one (op_val (v := .pointer (some ⟨b, 0, none⟩)) hf8 rfl rfl rfl rfl rfl rfl (r_move rfl) fun ac8 hf9 => ?_)
    refine seq_one (op_val (v := .int .i64 1073741824) hf9 rfl rfl rfl rfl rfl rfl (r_move rfl) fun ac9 hf10 => ?_)
    refine seq_one (op_val (v := .pointer (some ⟨b, 0, none⟩)) hf10 rfl rfl rfl rfl rfl rfl (r_nilCheck rfl) fun ac10 hf11 => ?_)
    refine seq_one (op_val (v := .pointer (some ⟨b, 0, none⟩)) hf11 rfl rfl rfl rfl rfl rfl (r_fieldAddr fi_41_0 rfl rfl) fun ac11 hf12 => ?_)
    refine seq_one (op_store (cs' := #[Value.int .i64 1073741824, Value.int .i64 x1, Value.int .i64 x2, Value.int .i64 x3, Value.int .i64 x4, Value.int .i64 x5, Value.int .i64 x6, Value.int .u64 x7, Value.int .u64 x8, Value.int .u64 x9, Value.int .i64 x10, Value.int .i64 x11, Value.int .i64 x12, Value.int .u8 x13, Value.int .u8 x14, Value.int .u8 x15, Value.int .u8 x16, Value.int .u8 x17, Value.int .u8 x18, Value.int .u8 x19, Value.int .u8 x20, Value.int .u8 x21, Value.int .u8 x22, Value.int .u8 x23, Value.int .u8 x24, Value.int .u8 x25, Value.int .u8 x26, Value.int .u8 x27, Value.int .u8 x28, Value.int .u64 x29, Value.bool x30, Value.int .u64 x31, Value.int .i64 x32, Value.int .u64 x33, Value.int .i64 x34, Value.int .i64 x35, Value.int .i64 x36]) 0 hf12 rfl rfl rfl rfl rfl sz_3 hI1 rfl (ltb rfl) (by kernel_rfl) fun wd1 hI2 => ?_)
    have hI3 : Inv w [(b, #[Value.int .i64 1073741824, Value.int .i64 x1, Value.int .i64 x2, Value.int .i64 x3, Value.int .i64 x4, Value.int .i64 x5, Value.int .i64 x6, Value.int .u64 x7, Value.int .u64 x8, Value.int .u64 x9, Value.int .i64 x10, Value.int .i64 x11, Value.int .i64 x12, Value.int .u8 x13, Value.int .u8 x14, Value.int .u8 x15, Value.int .u8 x16, Value.int .u8 x17, Value.int .u8 x18, Value.int .u8 x19, Value.int .u8 x20, Value.int .u8 x21, Value.int .u8 x22, Value.int .u8 x23, Value.int .u8 x24, Value.int .u8 x25, Value.int .u8 x26, Value.int .u8 x27, Value.int .u8 x28, Value.int .u64 x29, Value.bool x30, Value.int .u64 x31, Value.int .i64 x32, Value.int .u64 x33, Value.int .i64 x34, Value.int .i64 x35, Value.int .i64 x36], 41), (c, #[Value.bool ab], 4)] wd1 := hI2
    refine seq_end ?_
    clear ac7 hf8 ac8 hf9 ac9 hf10 ac10 hf11 hI1 hI2
    refine block_normal ?_
    refine post0 rfl hf12 ⟨rfl, ?_⟩
    have hI4 := Inv.unreadB (A := [(b, #[Value.int .i64 1073741824, Value.int .i64 x1, Value.int .i64 x2, Value.int .i64 x3, Value.int .i64 x4, Value.int .i64 x5, Value.int .i64 x6, Value.int .u64 x7, Value.int .u64 x8, Value.int .u64 x9, Value.int .i64 x10, Value.int .i64 x11, Value.int .i64 x12, Value.int .u8 x13, Value.int .u8 x14, Value.int .u8 x15, Value.int .u8 x16, Value.int .u8 x17, Value.int .u8 x18, Value.int .u8 x19, Value.int .u8 x20, Value.int .u8 x21, Value.int .u8 x22, Value.int .u8 x23, Value.int .u8 x24, Value.int .u8 x25, Value.int .u8 x26, Value.int .u8 x27, Value.int .u8 x28, Value.int .u64 x29, Value.bool x30, Value.int .u64 x31, Value.int .i64 x32, Value.int .u64 x33, Value.int .i64 x34, Value.int .i64 x35, Value.int .i64 x36], 41)]) (B := [(c, #[.bool ab], 4)]) hI3 (fun i x hx => h0_ (i + 1) x hx)
    rw [c6_1]
    exact hI4
  · have hf13 := hf3.know 6 (u := .bool false) rfl (congrArg Value.bool c6_1)
    refine wp_skip ?_
    refine then_normal ?_
    refine code_seq ?_
    refine seq_start (l := [0]) rfl ?_
    refine seq_one (op_val (v := .int .u8 1) hf13 rfl rfl rfl rfl rfl rfl (r_move rfl) fun ac12 hf14 => ?_)
    refine seq_end ?_
    clear hf3 ac3 hf13
    refine then_normal ?_
    refine wp_block ?_
    refine code_seq ?_
    refine seq_start (l := [0, 1]) rfl ?_
    refine seq_one (op_val (v := .bool true) hf14 rfl rfl rfl rfl rfl rfl (r_eqlC rfl rfl (by decide)) fun ac13 hf15 => ?_)
    refine seq_one (op_val (v := .bool true) hf15 rfl rfl rfl rfl rfl rfl (r_assign rfl) fun ac14 hf16 => ?_)
    refine seq_end ?_
    clear ac12 hf14 ac13 hf15
    refine then_normal ?_
    refine code_if_true hf16 rfl ?_
    refine seq_start (l := [0, 1, 2, 3, 4]) rfl ?_
    refine seq_one (op_val (v := .pointer (some ⟨b, 0, none⟩)) hf16 rfl rfl rfl rfl rfl rfl (r_move rfl) fun ac15 hf17 => ?_)
    refine seq_one (op_val (v := .int .i64 0) hf17 rfl rfl rfl rfl rfl rfl (r_move rfl) fun ac16 hf18 => ?_)
    refine seq_one (op_val (v := .pointer (some ⟨b, 0, none⟩)) hf18 rfl rfl rfl rfl rfl rfl (r_nilCheck rfl) fun ac17 hf19 => ?_)
    refine seq_one (op_val (v := .pointer (some ⟨b, 0, none⟩)) hf19 rfl rfl rfl rfl rfl rfl (r_fieldAddr fi_41_0 rfl rfl) fun ac18 hf20 => ?_)
    refine seq_one (op_store (cs' := #[Value.int .i64 0, Value.int .i64 x1, Value.int .i64 x2, Value.int .i64 x3, Value.int .i64 x4, Value.int .i64 x5, Value.int .i64 x6, Value.int .u64 x7, Value.int .u64 x8, Value.int .u64 x9, Value.int .i64 x10, Value.int .i64 x11, Value.int .i64 x12, Value.int .u8 x13, Value.int .u8 x14, Value.int .u8 x15, Value.int .u8 x16, Value.int .u8 x17, Value.int .u8 x18, Value.int .u8 x19, Value.int .u8 x20, Value.int .u8 x21, Value.int .u8 x22, Value.int .u8 x23, Value.int .u8 x24, Value.int .u8 x25, Value.int .u8 x26, Value.int .u8 x27, Value.int .u8 x28, Value.int .u64 x29, Value.bool x30, Value.int .u64 x31, Value.int .i64 x32, Value.int .u64 x33, Value.int .i64 x34, Value.int .i64 x35, Value.int .i64 x36]) 0 hf20 rfl rfl rfl rfl rfl sz_3 hI1 rfl (ltb rfl) (by kernel_rfl) fun wd2 hI5 => ?_)
    have hI6 : Inv w [(b, #[Value.int .i64 0, Value.int .i64 x1, Value.int .i64 x2, Value.int .i64 x3, Value.int .i64 x4, Value.int .i64 x5, Value.int .i64 x6, Value.int .u64 x7, Value.int .u64 x8, Value.int .u64 x9, Value.int .i64 x10, Value.int .i64 x11, Value.int .i64 x12, Value.int .u8 x13, Value.int .u8 x14, Value.int .u8 x15, Value.int .u8 x16, Value.int .u8 x17, Value.int .u8 x18, Value.int .u8 x19, Value.int .u8 x20, Value.int .u8 x21, Value.int .u8 x22, Value.int .u8 x23, Value.int .u8 x24, Value.int .u8 x25, Value.int .u8 x26, Value.int .u8 x27, Value.int .u8 x28, Value.int .u64 x29, Value.bool x30, Value.int .u64 x31, Value.int .i64 x32, Value.int .u64 x33, Value.int .i64 x34, Value.int .i64 x35, Value.int .i64 x36], 41), (c, #[Value.bool ab], 4)] wd2 := hI5
    refine seq_end ?_
    clear ac14 hf16 ac15 hf17 ac16 hf18 ac17 hf19 hI1 hI5
    refine block_normal ?_
    refine post0 rfl hf20 ⟨rfl, ?_⟩
    have hI7 := Inv.unreadB (A := [(b, #[Value.int .i64 0, Value.int .i64 x1, Value.int .i64 x2, Value.int .i64 x3, Value.int .i64 x4, Value.int .i64 x5, Value.int .i64 x6, Value.int .u64 x7, Value.int .u64 x8, Value.int .u64 x9, Value.int .i64 x10, Value.int .i64 x11, Value.int .i64 x12, Value.int .u8 x13, Value.int .u8 x14, Value.int .u8 x15, Value.int .u8 x16, Value.int .u8 x17, Value.int .u8 x18, Value.int .u8 x19, Value.int .u8 x20, Value.int .u8 x21, Value.int .u8 x22, Value.int .u8 x23, Value.int .u8 x24, Value.int .u8 x25, Value.int .u8 x26, Value.int .u8 x27, Value.int .u8 x28, Value.int .u64 x29, Value.bool x30, Value.int .u64 x31, Value.int .i64 x32, Value.int .u64 x33, Value.int .i64 x34, Value.int .i64 x35, Value.int .i64 x36], 41)]) (B := [(c, #[.bool ab], 4)]) hI6 (fun i x hx => h0_ (i + 1) x hx)
    rw [c6_1]
    exact hI7
set_option maxHeartbeats 8000000 in
theorem spoil_2 (x0 x1 x2 x3 x4 x5 x6 x7 x8 x9 x10 x11 x12 x13 x14 x15 x16 x17 x18 x19 x20 x21 x22 x23 x24 x25 x26 x27 x28 x29 x31 x32 x33 x34 x35 x36 : Int) (x30 : Bool) (ab : Bool) (b c : Nat) (hne : b ≠ c) (w : World) (h0_ : Has [(b, #[Value.int .i64 x0, Value.int .i64 x1, Value.int .i64 x2, Value.int .i64 x3, Value.int .i64 x4, Value.int .i64 x5, Value.int .i64 x6, Value.int .u64 x7, Value.int .u64 x8, Value.int .u64 x9, Value.int .i64 x10, Value.int .i64 x11, Value.int .i64 x12, Value.int .u8 x13, Value.int .u8 x14, Value.int .u8 x15, Value.int .u8 x16, Value.int .u8 x17, Value.int .u8 x18, Value.int .u8 x19, Value.int .u8 x20, Value.int .u8 x21, Value.int .u8 x22, Value.int .u8 x23, Value.int .u8 x24, Value.int .u8 x25, Value.int .u8 x26, Value.int .u8 x27, Value.int .u8 x28, Value.int .u64 x29, Value.bool x30, Value.int .u64 x31, Value.int .i64 x32, Value.int .u64 x33, Value.int .i64 x34, Value.int .i64 x35, Value.int .i64 x36], 41), (c, #[Value.bool ab], 4)] w) : Calls Tryd.prog 32 [.pointer (some ⟨b, 0, none⟩), .int .u8 2, .pointer (some ⟨c, 0, none⟩)].toArray w fun e w' => e = .returned (.tuple #[]) ∧ Inv w [(b, #[Value.int .i64 (sp 2 1 (nF ab) x0), Value.int .i64 (sp 2 2 (nF ab) x1), Value.int .i64 (sp 2 3 ((nF ab) - 1) x2), Value.int .i64 (sp 2 4 (nF ab) x3), Value.int .i64 x4, Value.int .i64 x5, Value.int .i64 (sp 2 5 (nF ab) x6), Value.int .u64 x7, Value.int .u64 x8, Value.int .u64 x9, Value.int .i64 (sp 2 6 (nF ab) x10), Value.int .i64 x11, Value.int .i64 x12, Value.int .u8 x13, Value.int .u8 x14, Value.int .u8 x15, Value.int .u8 x16, Value.int .u8 x17, Value.int .u8 x18, Value.int .u8 x19, Value.int .u8 (sp 2 7 4 x20), Value.int .u8 x21, Value.int .u8 x22, Value.int .u8 x23, Value.int .u8 x24, Value.int .u8 x25, Value.int .u8 x26, Value.int .u8 x27, Value.int .u8 x28, Value.int .u64 (sp 2 8 1125899906842625 x29), Value.bool x30, Value.int .u64 x31, Value.int .i64 (sp 2 9 (nF ab) x32), Value.int .u64 x33, Value.int .i64 (sp 2 10 (nF ab) x34), Value.int .i64 x35, Value.int .i64 (sp 2 11 (nF ab) x36)], 41)] w' := by
  have hI1 := Inv.startS h0_ (by simp [hne])
  refine enter (n := 77) Tryd.func32 rfl rfl rfl ?_
  intro ac1 hf1
  refine code_seq ?_
  refine seq_start (l := [0]) rfl ?_
  refine seq_one (op_val (v := .int .i64 0) hf1 rfl rfl rfl rfl rfl rfl (r_assign rfl) fun ac2 hf2 => ?_)
  refine seq_end ?_
  clear ac1 hf1
  refine then_normal ?_
  refine code_seq ?_
  refine code_seq ?_
  refine seq_start (l := [0]) rfl ?_
  refine seq_one (op_val (v := .bool ab) hf2 rfl rfl rfl rfl rfl rfl (r_load ag_4 rfl (hI1.at 1 rfl) rfl) fun ac3 hf3 => ?_)
  refine seq_end ?_
  clear ac2 hf2
  refine then_normal ?_
  refine code_if hf3 rfl (fun c6_1 => ?_) (fun c6_1 => ?_)
  · have hf4 := hf3.know 6 (u := .bool true) rfl (congrArg Value.bool c6_1)
    refine seq_start (l := [0]) rfl ?_
    refine seq_one (op_val (v := .int .i64 1073741824) hf4 rfl rfl rfl rfl rfl rfl (r_assign rfl) fun ac4 hf5 => ?_)
    refine seq_end ?_
    clear hf3 ac3 hf4
    refine then_normal ?_
    refine code_seq ?_
    refine seq_start (l := [0]) rfl ?_
    refine seq_one (op_val (v := .int .u8 2) hf5 rfl rfl rfl rfl rfl rfl (r_move rfl) fun ac5 hf6 => ?_)
    refine seq_end ?_
    clear ac4 hf5
    refine then_normal ?_
    refine wp_block ?_
    refine code_seq ?_
    refine seq_start (l := [0, 1]) rfl ?_
    refine seq_one (op_val (v := .bool false) hf6 rfl rfl rfl rfl rfl rfl (r_eqlC rfl rfl (by decide)) fun ac6 hf7 => ?_)
    refine seq_one (op_val (v := .bool false) hf7 rfl rfl rfl rfl rfl rfl (r_assign rfl) fun ac7 hf8 => ?_)
    refine seq_end ?_
    clear ac5 hf6 ac6 hf7
    refine then_normal ?_
    refine code_if_false hf8 rfl ?_
    refine code_seq ?_
    refine seq_start (l := [0, 1]) rfl ?_
    refine seq_one (op_val (v := .bool true) hf8 rfl rfl rfl rfl rfl rfl (r_eqlC rfl rfl (by decide)) fun ac8 hf9 => ?_)
    refine seq_one (op_val (v := .bool true) hf9 rfl rfl rfl rfl rfl rfl (r_assign rfl) fun ac9 hf10 => ?_)
    refine seq_end ?_
    clear ac7 hf8 ac8 hf9
    refine then_normal ?_
    refine code_if_true hf10 rfl ?_
    refine seq_start (l := [0, 1, 2, 3, 4]) rfl ?_
    refine seq_one (op_val (v := .pointer (some ⟨b, 0, none⟩)) hf10 rfl rfl rfl rfl rfl rfl (r_move rfl) fun ac10 hf11 => ?_)
    refine seq_one (op_val (v := .int .i64 1073741824) hf11 rfl rfl rfl rfl rfl rfl (r_move rfl) fun ac11 hf12 => ?_)
    refine seq_one (op_val (v := .pointer (some ⟨b, 0, none⟩)) hf12 rfl rfl rfl rfl rfl rfl (r_nilCheck rfl) fun ac12 hf13 => ?_)
    refine seq_one (op_val (v := .pointer (some ⟨b, 1, none⟩)) hf13 rfl rfl rfl rfl rfl rfl (r_fieldAddr fi_41_1 rfl rfl) fun ac13 hf14 => ?_)
    refine seq_one (op_store (cs' := #[Value.int .i64 x0, Value.int .i64 1073741824, Value.int .i64 x2, Value.int .i64 x3, Value.int .i64 x4, Value.int .i64 x5, Value.int .i64 x6, Value.int .u64 x7, Value.int .u64 x8, Value.int .u64 x9, Value.int .i64 x10, Value.int .i64 x11, Value.int .i64 x12, Value.int .u8 x13, Value.int .u8 x14, Value.int .u8 x15, Value.int .u8 x16, Value.int .u8 x17, Value.int .u8 x18, Value.int .u8 x19, Value.int .u8 x20, Value.int .u8 x21, Value.int .u8 x22, Value.int .u8 x23, Value.int .u8 x24, Value.int .u8 x25, Value.int .u8 x26, Value.int .u8 x27, Value.int .u8 x28, Value.int .u64 x29, Value.bool x30, Value.int .u64 x31, Value.int .i64 x32, Value.int .u64 x33, Value.int .i64 x34, Value.int .i64 x35, Value.int .i64 x36]) 0 hf14 rfl rfl rfl rfl rfl sz_3 hI1 rfl (ltb rfl) (by kernel_rfl) fun wd1 hI2 => ?_)
    have hI3 : Inv w [(b, #[Value.int .i64 x0, Value.int .i64 1073741824, Value.int .i64 x2, Value.int .i64 x3, Value.int .i64 x4, Value.int .i64 x5, Value.int .i64 x6, Value.int .u64 x7, Value.int .u64 x8, Value.int .u64 x9, Value.int .i64 x10, Value.int .i64 x11, Value.int .i64 x12, Value.int .u8 x13, Value.int .u8 x14, Value.int .u8 x15, Value.int .u8 x16, Value.int .u8 x17, Value.int .u8 x18, Value.int .u8 x19, Value.int .u8 x20, Value.int .u8 x21, Value.int .u8 x22, Value.int .u8 x23, Value.int .u8 x24, Value.int .u8 x25, Value.int .u8 x26, Value.int .u8 x27, Value.int .u8 x28, Value.int .u64 x29, Value.bool x30, Value.int .u64 x31, Value.int .i64 x32, Value.int .u64 x33, Value.int .i64 x34, Value.int .i64 x35, Value.int .i64 x36], 41), (c, #[Value.bool ab], 4)] wd1 := hI2
    refine seq_end ?_
    clear ac9 hf10 ac10 hf11 ac11 hf12 ac12 hf13 hI1 hI2
    refine block_normal ?_
    refine post0 rfl hf14 ⟨rfl, ?_⟩
    have hI4 := Inv.unreadB (A := [(b, #[Value.int .i64 x0, Value.int .i64 1073741824, Value.int .i64 x2, Value.int .i64 x3, Value.int .i64 x4, Value.int .i64 x5, Value.int .i64 x6, Value.int .u64 x7, Value.int .u64 x8, Value.int .u64 x9, Value.int .i64 x10, Value.int .i64 x11, Value.int .i64 x12, Value.int .u8 x13, Value.int .u8 x14, Value.int .u8 x15, Value.int .u8 x16, Value.int .u8 x17, Value.int .u8 x18, Value.int .u8 x19, Value.int .u8 x20, Value.int .u8 x21, Value.int .u8 x22, Value.int .u8 x23, Value.int .u8 x24, Value.int .u8 x25, Value.int .u8 x26, Value.int .u8 x27, Value.int .u8 x28, Value.int .u64 x29, Value.bool x30, Value.int .u64 x31, Value.int .i64 x32, Value.int .u64 x33, Value.int .i64 x34, Value.int .i64 x35, Value.int .i64 x36], 41)]) (B := [(c, #[.bool ab], 4)]) hI3 (fun i x hx => h0_ (i + 1) x hx)
    rw [c6_1]
    exact hI4
  · have hf15 := hf3.know 6 (u := .bool false) rfl (congrArg Value.bool c6_1)
    refine wp_skip ?_
    refine then_normal ?_
    refine code_seq ?_
    refine seq_start (l := [0]) rfl ?_
    refine seq_one (op_val (v := .int .u8 2) hf15 rfl rfl rfl rfl rfl rfl (r_move rfl) fun ac14 hf16 => ?_)
    refine seq_end ?_
    clear hf3 ac3 hf15
    refine then_normal ?_
    refine wp_block ?_
    refine code_seq ?_
    refine seq_start (l := [0, 1]) rfl ?_
    refine seq_one (op_val (v := .bool false) hf16 rfl rfl rfl rfl rfl rfl (r_eqlC rfl rfl (by decide)) fun ac15 hf17 => ?_)
    refine seq_one (op_val (v := .bool false) hf17 rfl rfl rfl rfl rfl rfl (r_assign rfl) fun ac16 hf18 => ?_)
    refine seq_end ?_
    clear ac14 hf16 ac15 hf17
    refine then_normal ?_
    refine code_if_false hf18 rfl ?_
    refine code_seq ?_
    refine seq_start (l := [0, 1]) rfl ?_
    refine seq_one (op_val (v := .bool true) hf18 rfl rfl rfl rfl rfl rfl (r_eqlC rfl rfl (by decide)) fun ac17 hf19 => ?_)
    refine seq_one (op_val (v := .bool true) hf19 rfl rfl rfl rfl rfl rfl (r_assign rfl) fun ac18 hf20 => ?_)
    refine seq_end ?_
    clear ac16 hf18 ac17 hf19
    refine then_normal ?_
    refine code_if_true hf20 rfl ?_
    refine seq_start (l := [0, 1, 2, 3, 4]) rfl ?_
    refine seq_one (op_val (v := .pointer (some ⟨b, 0, none⟩)) hf20 rfl rfl rfl rfl rfl rfl (r_move rfl) fun ac19 hf21 => ?_)
    refine seq_one (op_val (v := .int .i64 0) hf21 rfl rfl rfl rfl rfl rfl (r_move rfl) fun ac20 hf22 => ?_)
    refine seq_one (op_val (v := .pointer (some ⟨b, 0, none⟩)) hf22 rfl rfl rfl rfl rfl rfl (r_nilCheck rfl) fun ac21 hf23 => ?_)
    refine seq_one (op_val (v := .pointer (some ⟨b, 1, none⟩)) hf23 rfl rfl rfl rfl rfl rfl (r_fieldAddr fi_41_1 rfl rfl) fun ac22 hf24 => ?_)
    refine seq_one (op_store (cs' := #[Value.int .i64 x0, Value.int .i64 0, Value.int .i64 x2, Value.int .i64 x3, Value.int .i64 x4, Value.int .i64 x5, Value.int .i64 x6, Value.int .u64 x7, Value.int .u64 x8, Value.int .u64 x9, Value.int .i64 x10, Value.int .i64 x11, Value.int .i64 x12, Value.int .u8 x13, Value.int .u8 x14, Value.int .u8 x15, Value.int .u8 x16, Value.int .u8 x17, Value.int .u8 x18, Value.int .u8 x19, Value.int .u8 x20, Value.int .u8 x21, Value.int .u8 x22, Value.int .u8 x23, Value.int .u8 x24, Value.int .u8 x25, Value.int .u8 x26, Value.int .u8 x27, Value.int .u8 x28, Value.int .u64 x29, Value.bool x30, Value.int .u64 x31, Value.int .i64 x32, Value.int .u64 x33, Value.int .i64 x34, Value.int .i64 x35, Value.int .i64 x36]) 0 hf24 rfl rfl rfl rfl rfl sz_3 hI1 rfl (ltb rfl) (by kernel_rfl) fun wd2 hI5 => ?_)
    have hI6 : Inv w [(b, #[Value.int .i64 x0, Value.int .i64 0, Value.int .i64 x2, Value.int .i64 x3, Value.int .i64 x4, Value.int .i64 x5, Value.int .i64 x6, Value.int .u64 x7, Value.int .u64 x8, Value.int .u64 x9, Value.int .i64 x10, Value.int .i64 x11, Value.int .i64 x12, Value.int .u8 x13, Value.int .u8 x14, Value.int .u8 x15, Value.int .u8 x16, Value.int .u8 x17, Value.int .u8 x18, Value.int .u8 x19, Value.int .u8 x20, Value.int .u8 x21, Value.int .u8 x22, Value.int .u8 x23, Value.int .u8 x24, Value.int .u8 x25, Value.int .u8 x26, Value.int .u8 x27, Value.int .u8 x28, Value.int .u64 x29, Value.bool x30, Value.int .u64 x31, Value.int .i64 x32, Value.int .u64 x33, Value.int .i64 x34, Value.int .i64 x35, Value.int .i64 x36], 41), (c, #[Value.bool ab], 4)] wd2 := hI5
    refine seq_end ?_
    clear ac18 hf20 ac19 hf21 ac20 hf22 ac21 hf23 hI1 hI5
    refine block_normal ?_
    refine post0 rfl hf24 ⟨rfl, ?_⟩
    have hI7 := Inv.unreadB (A := [(b, #[Value.int .i64 x0, Value.int .i64 0, Value.int .i64 x2, Value.int .i64 x3, Value.int .i64 x4, Value.int .i64 x5, Value.int .i64 x6, Value.int .u64 x7, Value.int .u64 x8, Value.int .u64 x9, Value.int .i64 x10, Value.int .i64 x11, Value.int .i64 x12, Value.int .u8 x13, Value.int .u8 x14, Value.int .u8 x15, Value.int .u8 x16, Value.int .u8 x17, Value.int .u8 x18, Value.int .u8 x19, Value.int .u8 x20, Value.int .u8 x21, Value.int .u8 x22, Value.int .u8 x23, Value.int .u8 x24, Value.int .u8 x25, Value.int .u8 x26, Value.int .u8 x27, Value.int .u8 x28, Value.int .u64 x29, Value.bool x30, Value.int .u64 x31, Value.int .i64 x32, Value.int .u64 x33, Value.int .i64 x34, Value.int .i64 x35, Value.int .i64 x36], 41)]) (B := [(c, #[.bool ab], 4)]) hI6 (fun i x hx => h0_ (i + 1) x hx)
    rw [c6_1]
    exact hI7
set_option maxHeartbeats 8000000 in
theorem spoil_3 (x0 x1 x2 x3 x4 x5 x6 x7 x8 x9 x10 x11 x12 x13 x14 x15 x16 x17 x18 x19 x20 x21 x22 x23 x24 x25 x26 x27 x28 x29 x31 x32 x33 x34 x35 x36 : Int) (x30 : Bool) (ab : Bool) (b c : Nat) (hne : b ≠ c) (w : World) (h0_ : Has [(b, #[Value.int .i64 x0, Value.int .i64 x1, Value.int .i64 x2, Value.int .i64 x3, Value.int .i64 x4, Value.int .i64 x5, Value.int .i64 x6, Value.int .u64 x7, Value.int .u64 x8, Value.int .u64 x9, Value.int .i64 x10, Value.int .i64 x11, Value.int .i64 x12, Value.int .u8 x13, Value.int .u8 x14, Value.int .u8 x15, Value.int .u8 x16, Value.int .u8 x17, Value.int .u8 x18, Value.int .u8 x19, Value.int .u8 x20, Value.int .u8 x21, Value.int .u8 x22, Value.int .u8 x23, Value.int .u8 x24, Value.int .u8 x25, Value.int .u8 x26, Value.int .u8 x27, Value.int .u8 x28, Value.int .u64 x29, Value.bool x30, Value.int .u64 x31, Value.int .i64 x32, Value.int .u64 x33, Value.int .i64 x34, Value.int .i64 x35, Value.int .i64 x36], 41), (c, #[Value.bool ab], 4)] w) : Calls Tryd.prog 32 [.pointer (some ⟨b, 0, none⟩), .int .u8 3, .pointer (some ⟨c, 0, none⟩)].toArray w fun e w' => e = .returned (.tuple #[]) ∧ Inv w [(b, #[Value.int .i64 (sp 3 1 (nF ab) x0), Value.int .i64 (sp 3 2 (nF ab) x1), Value.int .i64 (sp 3 3 ((nF ab) - 1) x2), Value.int .i64 (sp 3 4 (nF ab) x3), Value.int .i64 x4, Value.int .i64 x5, Value.int .i64 (sp 3 5 (nF ab) x6), Value.int .u64 x7, Value.int .u64 x8, Value.int .u64 x9, Value.int .i64 (sp 3 6 (nF ab) x10), Value.int .i64 x11, Value.int .i64 x12, Value.int .u8 x13, Value.int .u8 x14, Value.int .u8 x15, Value.int .u8 x16, Value.int .u8 x17, Value.int .u8 x18, Value.int .u8 x19, Value.int .u8 (sp 3 7 4 x20), Value.int .u8 x21, Value.int .u8 x22, Value.int .u8 x23, Value.int .u8 x24, Value.int .u8 x25, Value.int .u8 x26, Value.int .u8 x27, Value.int .u8 x28, Value.int .u64 (sp 3 8 1125899906842625 x29), Value.bool x30, Value.int .u64 x31, Value.int .i64 (sp 3 9 (nF ab) x32), Value.int .u64 x33, Value.int .i64 (sp 3 10 (nF ab) x34), Value.int .i64 x35, Value.int .i64 (sp 3 11 (nF ab) x36)], 41)] w' := by
  have hI1 := Inv.startS h0_ (by simp [hne])
  refine enter (n := 77) Tryd.func32 rfl rfl rfl ?_
  intro ac1 hf1
  refine code_seq ?_
  refine seq_start (l := [0]) rfl ?_
  refine seq_one (op_val (v := .int .i64 0) hf1 rfl rfl rfl rfl rfl rfl (r_assign rfl) fun ac2 hf2 => ?_)
  refine seq_end ?_
  clear ac1 hf1
  refine then_normal ?_
  refine code_seq ?_
  refine code_seq ?_
  refine seq_start (l := [0]) rfl ?_
  refine seq_one (op_val (v := .bool ab) hf2 rfl rfl rfl rfl rfl rfl (r_load ag_4 rfl (hI1.at 1 rfl) rfl) fun ac3 hf3 => ?_)
  refine seq_end ?_
  clear ac2 hf2
  refine then_normal ?_
  refine code_if hf3 rfl (fun c6_1 => ?_) (fun c6_1 => ?_)
  · have hf4 := hf3.know 6 (u := .bool true) rfl (congrArg Value.bool c6_1)
    refine seq_start (l := [0]) rfl ?_
    refine seq_one (op_val (v := .int .i64 1073741824) hf4 rfl rfl rfl rfl rfl rfl (r_assign rfl) fun ac4 hf5 => ?_)
    refine seq_end ?_
    clear hf3 ac3 hf4
    refine then_normal ?_
    refine code_seq ?_
    refine seq_start (l := [0]) rfl ?_
    refine seq_one (op_val (v := .int .u8 3) hf5 rfl rfl rfl rfl rfl rfl (r_move rfl) fun ac5 hf6 => ?_)
    refine seq_end ?_
    clear ac4 hf5
    refine then_normal ?_
    refine wp_block ?_
    refine code_seq ?_
    refine seq_start (l := [0, 1]) rfl ?_
    refine seq_one (op_val (v := .bool false) hf6 rfl rfl rfl rfl rfl rfl (r_eqlC rfl rfl (by decide)) fun ac6 hf7 => ?_)
    refine seq_one (op_val (v := .bool false) hf7 rfl rfl rfl rfl rfl rfl (r_assign rfl) fun ac7 hf8 => ?_)
    refine seq_end ?_
    clear ac5 hf6 ac6 hf7
    refine then_normal ?_
    refine code_if_false hf8 rfl ?_
    refine code_seq ?_
    refine seq_start (l := [0, 1]) rfl ?_
    refine seq_one (op_val (v := .bool false) hf8 rfl rfl rfl rfl rfl rfl (r_eqlC rfl rfl (by decide)) fun ac8 hf9 => ?_)
    refine seq_one (op_val (v := .bool false) hf9 rfl rfl rfl rfl rfl rfl (r_assign rfl) fun ac9 hf10 => ?_)
    refine seq_end ?_
    clear ac7 hf8 ac8 hf9
    refine then_normal ?_
    refine code_if_false hf10 rfl ?_
    refine code_seq ?_
    refine seq_start (l := [0, 1]) rfl ?_
    refine seq_one (op_val (v := .bool true) hf10 rfl rfl rfl rfl rfl rfl (r_eqlC rfl rfl (by decide)) fun ac10 hf11 => ?_)
    refine seq_one (op_val (v := .bool true) hf11 rfl rfl rfl rfl rfl rfl (r_assign rfl) fun ac11 hf12 => ?_)
    refine seq_end ?_
    clear ac9 hf10 ac10 hf11
    refine then_normal ?_
    refine code_if_true hf12 rfl ?_
    refine seq_start (l := [0, 1, 2, 3, 4, 5]) rfl ?_
    refine seq_one (op_val (v := .pointer (some ⟨b, 0, none⟩)) hf12 rfl rfl rfl rfl rfl rfl (r_move rfl) fun ac12 hf13 => ?_)
    refine seq_one (op_val (v := .int .i64 1073741824) hf13 rfl rfl rfl rfl rfl rfl (r_move rfl) fun ac13 hf14 => ?_)
    refine seq_one (op_val (v := .int .i64 1073741823) hf14 rfl rfl rfl rfl rfl rfl (r_sub (c := 1073741823) rfl rfl (by rfl)) fun ac14 hf15 => ?_)
    refine seq_one (op_val (v := .pointer (some ⟨b, 0, none⟩)) hf15 rfl rfl rfl rfl rfl rfl (r_nilCheck rfl) fun ac15 hf16 => ?_)
    refine seq_one (op_val (v := .pointer (some ⟨b, 2, none⟩)) hf16 rfl rfl rfl rfl rfl rfl (r_fieldAddr fi_41_2 rfl rfl) fun ac16 hf17 => ?_)
    refine seq_one (op_store (cs' := #[Value.int .i64 x0, Value.int .i64 x1, Value.int .i64 1073741823, Value.int .i64 x3, Value.int .i64 x4, Value.int .i64 x5, Value.int .i64 x6, Value.int .u64 x7, Value.int .u64 x8, Value.int .u64 x9, Value.int .i64 x10, Value.int .i64 x11, Value.int .i64 x12, Value.int .u8 x13, Value.int .u8 x14, Value.int .u8 x15, Value.int .u8 x16, Value.int .u8 x17, Value.int .u8 x18, Value.int .u8 x19, Value.int .u8 x20, Value.int .u8 x21, Value.int .u8 x22, Value.int .u8 x23, Value.int .u8 x24, Value.int .u8 x25, Value.int .u8 x26, Value.int .u8 x27, Value.int .u8 x28, Value.int .u64 x29, Value.bool x30, Value.int .u64 x31, Value.int .i64 x32, Value.int .u64 x33, Value.int .i64 x34, Value.int .i64 x35, Value.int .i64 x36]) 0 hf17 rfl rfl rfl rfl rfl sz_3 hI1 rfl (ltb rfl) (by kernel_rfl) fun wd1 hI2 => ?_)
    have hI3 : Inv w [(b, #[Value.int .i64 x0, Value.int .i64 x1, Value.int .i64 1073741823, Value.int .i64 x3, Value.int .i64 x4, Value.int .i64 x5, Value.int .i64 x6, Value.int .u64 x7, Value.int .u64 x8, Value.int .u64 x9, Value.int .i64 x10, Value.int .i64 x11, Value.int .i64 x12, Value.int .u8 x13, Value.int .u8 x14, Value.int .u8 x15, Value.int .u8 x16, Value.int .u8 x17, Value.int .u8 x18, Value.int .u8 x19, Value.int .u8 x20, Value.int .u8 x21, Value.int .u8 x22, Value.int .u8 x23, Value.int .u8 x24, Value.int .u8 x25, Value.int .u8 x26, Value.int .u8 x27, Value.int .u8 x28, Value.int .u64 x29, Value.bool x30, Value.int .u64 x31, Value.int .i64 x32, Value.int .u64 x33, Value.int .i64 x34, Value.int .i64 x35, Value.int .i64 x36], 41), (c, #[Value.bool ab], 4)] wd1 := hI2
    refine seq_end ?_
    clear ac11 hf12 ac12 hf13 ac13 hf14 ac14 hf15 ac15 hf16 hI1 hI2
    refine block_normal ?_
    refine post0 rfl hf17 ⟨rfl, ?_⟩
    have hI4 := Inv.unreadB (A := [(b, #[Value.int .i64 x0, Value.int .i64 x1, Value.int .i64 1073741823, Value.int .i64 x3, Value.int .i64 x4, Value.int .i64 x5, Value.int .i64 x6, Value.int .u64 x7, Value.int .u64 x8, Value.int .u64 x9, Value.int .i64 x10, Value.int .i64 x11, Value.int .i64 x12, Value.int .u8 x13, Value.int .u8 x14, Value.int .u8 x15, Value.int .u8 x16, Value.int .u8 x17, Value.int .u8 x18, Value.int .u8 x19, Value.int .u8 x20, Value.int .u8 x21, Value.int .u8 x22, Value.int .u8 x23, Value.int .u8 x24, Value.int .u8 x25, Value.int .u8 x26, Value.int .u8 x27, Value.int .u8 x28, Value.int .u64 x29, Value.bool x30, Value.int .u64 x31, Value.int .i64 x32, Value.int .u64 x33, Value.int .i64 x34, Value.int .i64 x35, Value.int .i64 x36], 41)]) (B := [(c, #[.bool ab], 4)]) hI3 (fun i x hx => h0_ (i + 1) x hx)
    rw [c6_1]
    exact hI4
  · have hf18 := hf3.know 6 (u := .bool false) rfl (congrArg Value.bool c6_1)
    refine wp_skip ?_
    refine then_normal ?_
    refine code_seq ?_
    refine seq_start (l := [0]) rfl ?_
    refine seq_one (op_val (v := .int .u8 3) hf18 rfl rfl rfl rfl rfl rfl (r_move rfl) fun ac17 hf19 => ?_)
    refine seq_end ?_
    clear hf3 ac3 hf18
    refine then_normal ?_
    refine wp_block ?_
    refine code_seq ?_
    refine seq_start (l := [0, 1]) rfl ?_
    refine seq_one (op_val (v := .bool false) hf19 rfl rfl rfl rfl rfl rfl (r_eqlC rfl rfl (by decide)) fun ac18 hf20 => ?_)
    refine seq_one (op_val (v := .bool false) hf20 rfl rfl rfl rfl rfl rfl (r_assign rfl) fun ac19 hf21 => ?_)
    refine seq_end ?_
    clear ac17 hf19 ac18 hf20
    refine then_normal ?_
    refine code_if_false hf21 rfl ?_
    refine code_seq ?_
    refine seq_start (l := [0, 1]) rfl ?_
    refine seq_one (op_val (v := .bool false) hf21 rfl rfl rfl rfl rfl rfl (r_eqlC rfl rfl (by decide)) fun ac20 hf22 => ?_)
    refine seq_one (op_val (v := .bool false) hf22 rfl rfl rfl rfl rfl rfl (r_assign rfl) fun ac21 hf23 => ?_)
    refine seq_end ?_
    clear ac19 hf21 ac20 hf22
    refine then_normal ?_
    refine code_if_false hf23 rfl ?_
    refine code_seq ?_
    refine seq_start (l := [0, 1]) rfl ?_
    refine seq_one (op_val (v := .bool true) hf23 rfl rfl rfl rfl rfl rfl (r_eqlC rfl rfl (by decide)) fun ac22 hf24 => ?_)
    refine seq_one (op_val (v := .bool true) hf24 rfl rfl rfl rfl rfl rfl (r_assign rfl) fun ac23 hf25 => ?_)
    refine seq_end ?_
    clear ac21 hf23 ac22 hf24
    refine then_normal ?_
    refine code_if_true hf25 rfl ?_
    refine seq_start (l := [0, 1, 2, 3, 4, 5]) rfl ?_
    refine seq_one (op_val (v := .pointer (some ⟨b, 0, none⟩)) hf25 rfl rfl rfl rfl rfl rfl (r_move rfl) fun ac24 hf26 => ?_)
    refine seq_one (op_val (v := .int .i64 0) hf26 rfl rfl rfl rfl rfl rfl (r_move rfl) fun ac25 hf27 => ?_)
    refine seq_one (op_val (v := .int .i64 (-1)) hf27 rfl rfl rfl rfl rfl rfl (r_sub (c := (-1)) rfl rfl (by rfl)) fun ac26 hf28 => ?_)
    refine seq_one (op_val (v := .pointer (some ⟨b, 0, none⟩)) hf28 rfl rfl rfl rfl rfl rfl (r_nilCheck rfl) fun ac27 hf29 => ?_)
    refine seq_one (op_val (v := .pointer (some ⟨b, 2, none⟩)) hf29 rfl rfl rfl rfl rfl rfl (r_fieldAddr fi_41_2 rfl rfl) fun ac28 hf30 => ?_)
    refine seq_one (op_store (cs' := #[Value.int .i64 x0, Value.int .i64 x1, Value.int .i64 (-1), Value.int .i64 x3, Value.int .i64 x4, Value.int .i64 x5, Value.int .i64 x6, Value.int .u64 x7, Value.int .u64 x8, Value.int .u64 x9, Value.int .i64 x10, Value.int .i64 x11, Value.int .i64 x12, Value.int .u8 x13, Value.int .u8 x14, Value.int .u8 x15, Value.int .u8 x16, Value.int .u8 x17, Value.int .u8 x18, Value.int .u8 x19, Value.int .u8 x20, Value.int .u8 x21, Value.int .u8 x22, Value.int .u8 x23, Value.int .u8 x24, Value.int .u8 x25, Value.int .u8 x26, Value.int .u8 x27, Value.int .u8 x28, Value.int .u64 x29, Value.bool x30, Value.int .u64 x31, Value.int .i64 x32, Value.int .u64 x33, Value.int .i64 x34, Value.int .i64 x35, Value.int .i64 x36]) 0 hf30 rfl rfl rfl rfl rfl sz_3 hI1 rfl (ltb rfl) (by kernel_rfl) fun wd2 hI5 => ?_)
    have hI6 : Inv w [(b, #[Value.int .i64 x0, Value.int .i64 x1, Value.int .i64 (-1), Value.int .i64 x3, Value.int .i64 x4, Value.int .i64 x5, Value.int .i64 x6, Value.int .u64 x7, Value.int .u64 x8, Value.int .u64 x9, Value.int .i64 x10, Value.int .i64 x11, Value.int .i64 x12, Value.int .u8 x13, Value.int .u8 x14, Value.int .u8 x15, Value.int .u8 x16, Value.int .u8 x17, Value.int .u8 x18, Value.int .u8 x19, Value.int .u8 x20, Value.int .u8 x21, Value.int .u8 x22, Value.int .u8 x23, Value.int .u8 x24, Value.int .u8 x25, Value.int .u8 x26, Value.int .u8 x27, Value.int .u8 x28, Value.int .u64 x29, Value.bool x30, Value.int .u64 x31, Value.int .i64 x32, Value.int .u64 x33, Value.int .i64 x34, Value.int .i64 x35, Value.int .i64 x36], 41), (c, #[Value.bool ab], 4)] wd2 := hI5
    refine seq_end ?_
    clear ac23 hf25 ac24 hf26 ac25 hf27 ac26 hf28 ac27 hf29 hI1 hI5
    refine block_normal ?_
    refine post0 rfl hf30 ⟨rfl, ?_⟩
    have hI7 := Inv.unreadB (A := [(b, #[Value.int .i64 x0, Value.int .i64 x1, Value.int .i64 (-1), Value.int .i64 x3, Value.int .i64 x4, Value.int .i64 x5, Value.int .i64 x6, Value.int .u64 x7, Value.int .u64 x8, Value.int .u64 x9, Value.int .i64 x10, Value.int .i64 x11, Value.int .i64 x12, Value.int .u8 x13, Value.int .u8 x14, Value.int .u8 x15, Value.int .u8 x16, Value.int .u8 x17, Value.int .u8 x18, Value.int .u8 x19, Value.int .u8 x20, Value.int .u8 x21, Value.int .u8 x22, Value.int .u8 x23, Value.int .u8 x24, Value.int .u8 x25, Value.int .u8 x26, Value.int .u8 x27, Value.int .u8 x28, Value.int .u64 x29, Value.bool x30, Value.int .u64 x31, Value.int .i64 x32, Value.int .u64 x33, Value.int .i64 x34, Value.int .i64 x35, Value.int .i64 x36], 41)]) (B := [(c, #[.bool ab], 4)]) hI6 (fun i x hx => h0_ (i + 1) x hx)
    rw [c6_1]
    exact hI7
set_option maxHeartbeats 8000000 in
theorem spoil_4 (x0 x1 x2 x3 x4 x5 x6 x7 x8 x9 x10 x11 x12 x13 x14 x15 x16 x17 x18 x19 x20 x21 x22 x23 x24 x25 x26 x27 x28 x29 x31 x32 x33 x34 x35 x36 : Int) (x30 : Bool) (ab : Bool) (b c : Nat) (hne : b ≠ c) (w : World) (h0_ : Has [(b, #[Value.int .i64 x0, Value.int .i64 x1, Value.int .i64 x2, Value.int .i64 x3, Value.int .i64 x4, Value.int .i64 x5, Value.int .i64 x6, Value.int .u64 x7, Value.int .u64 x8, Value.int .u64 x9, Value.int .i64 x10, Value.int .i64 x11, Value.int .i64 x12, Value.int .u8 x13, Value.int .u8 x14, Value.int .u8 x15, Value.int .u8 x16, Value.int .u8 x17, Value.int .u8 x18, Value.int .u8 x19, Value.int .u8 x20, Value.int .u8 x21, Value.int .u8 x22, Value.int .u8 x23, Value.int .u8 x24, Value.int .u8 x25, Value.int .u8 x26, Value.int .u8 x27, Value.int .u8 x28, Value.int .u64 x29, Value.bool x30, Value.int .u64 x31, Value.int .i64 x32, Value.int .u64 x33, Value.int .i64 x34, Value.int .i64 x35, Value.int .i64 x36], 41), (c, #[Value.bool ab], 4)] w) : Calls Tryd.prog 32 [.pointer (some ⟨b, 0, none⟩), .int .u8 4, .pointer (some ⟨c, 0, none⟩)].toArray w fun e w' => e = .returned (.tuple #[]) ∧ Inv w [(b, #[Value.int .i64 (sp 4 1 (nF ab) x0), Value.int .i64 (sp 4 2 (nF ab) x1), Value.int .i64 (sp 4 3 ((nF ab) - 1) x2), Value.int .i64 (sp 4 4 (nF ab) x3), Value.int .i64 x4, Value.int .i64 x5, Value.int .i64 (sp 4 5 (nF ab) x6), Value.int .u64 x7, Value.int .u64 x8, Value.int .u64 x9, Value.int .i64 (sp 4 6 (nF ab) x10), Value.int .i64 x11, Value.int .i64 x12, Value.int .u8 x13, Value.int .u8 x14, Value.int .u8 x15, Value.int .u8 x16, Value.int .u8 x17, Value.int .u8 x18, Value.int .u8 x19, Value.int .u8 (sp 4 7 4 x20), Value.int .u8 x21, Value.int .u8 x22, Value.int .u8 x23, Value.int .u8 x24, Value.int .u8 x25, Value.int .u8 x26, Value.int .u8 x27, Value.int .u8 x28, Value.int .u64 (sp 4 8 1125899906842625 x29), Value.bool x30, Value.int .u64 x31, Value.int .i64 (sp 4 9 (nF ab) x32), Value.int .u64 x33, Value.int .i64 (sp 4 10 (nF ab) x34), Value.int .i64 x35, Value.int .i64 (sp 4 11 (nF ab) x36)], 41)] w' := by
  have hI1 := Inv.startS h0_ (by simp [hne])
  refine enter (n := 77) Tryd.func32 rfl rfl rfl ?_
  intro ac1 hf1
  refine code_seq ?_
  refine seq_start (l := [0]) rfl ?_
  refine seq_one (op_val (v := .int .i64 0) hf1 rfl rfl rfl rfl rfl rfl (r_assign rfl) fun ac2 hf2 => ?_)
  refine seq_end ?_
  clear ac1 hf1
  refine then_normal ?_
  refine code_seq ?_
  refine code_seq ?_
  refine seq_start (l := [0]) rfl ?_
  refine seq_one (op_val (v := .bool ab) hf2 rfl rfl rfl rfl rfl rfl (r_load ag_4 rfl (hI1.at 1 rfl) rfl) fun ac3 hf3 => ?_)
  refine seq_end ?_
  clear ac2 hf2
  refine then_normal ?_
  refine code_if hf3 rfl (fun c6_1 => ?_) (fun c6_1 => ?_)
  · have hf4 := hf3.know 6 (u := .bool true) rfl (congrArg Value.bool c6_1)
    refine seq_start (l := [0]) rfl ?_
    refine seq_one (op_val (v := .int .i64 1073741824) hf4 rfl rfl rfl rfl rfl rfl (r_assign rfl) fun ac4 hf5 => ?_)
    refine seq_end ?_
    clear hf3 ac3 hf4
    refine then_normal ?_
    refine code_seq ?_
    refine seq_start (l := [0]) rfl ?_
    refine seq_one (op_val (v := .int .u8 4) hf5 rfl rfl rfl rfl rfl rfl (r_move rfl) fun ac5 hf6 => ?_)
    refine seq_end ?_
    clear ac4 hf5
    refine then_normal ?_
    refine wp_block ?_
    refine code_seq ?_
    refine seq_start (l := [0, 1]) rfl ?_
    refine seq_one (op_val (v := .bool false) hf6 rfl rfl rfl rfl rfl rfl (r_eqlC rfl rfl (by decide)) fun ac6 hf7 => ?_)
    refine seq_one (op_val (v := .bool false) hf7 rfl rfl rfl rfl rfl rfl (r_assign rfl) fun ac7 hf8 => ?_)
    refine seq_end ?_
    clear ac5 hf6 ac6 hf7
    refine then_normal ?_
    refine code_if_false hf8 rfl ?_
    refine code_seq ?_
    refine seq_start (l := [0, 1]) rfl ?_
    refine seq_one (op_val (v := .bool false) hf8 rfl rfl rfl rfl rfl rfl (r_eqlC rfl rfl (by decide)) fun ac8 hf9 => ?_)
    refine seq_one (op_val (v := .bool false) hf9 rfl rfl rfl rfl rfl rfl (r_assign rfl) fun ac9 hf10 => ?_)
    refine seq_end ?_
    clear ac7 hf8 ac8 hf9
    refine then_normal ?_
    refine code_if_false hf10 rfl ?_
    refine code_seq ?_
    refine seq_start (l := [0, 1]) rfl ?_
    refine seq_one (op_val (v := .bool false) hf10 rfl rfl rfl rfl rfl rfl (r_eqlC rfl rfl (by decide)) fun ac10 hf11 => ?_)
    refine seq_one (op_val (v := .bool false) hf11 rfl rfl rfl rfl rfl rfl (r_assign rfl) fun ac11 hf12 => ?_)
    refine seq_end ?_
    clear ac9 hf10 ac10 hf11
    refine then_normal ?_
    refine code_if_false hf12 rfl ?_
    refine code_seq ?_
    refine seq_start (l := [0, 1]) rfl ?_
    refine seq_one (op_val (v := .bool true) hf12 rfl rfl rfl rfl rfl rfl (r_eqlC rfl rfl (by decide)) fun ac12 hf13 => ?_)
    refine seq_one (op_val (v := .bool true) hf13 rfl rfl rfl rfl rfl rfl (r_assign rfl) fun ac13 hf14 => ?_)
    refine seq_end ?_
    clear ac11 hf12 ac12 hf13
    refine then_normal ?_
    refine code_if_true hf14 rfl ?_
    refine seq_start (l := [0, 1, 2, 3, 4]) rfl ?_
    refine seq_one (op_val (v := .pointer (some ⟨b, 0, none⟩)) hf14 rfl rfl rfl rfl rfl rfl (r_move rfl) fun ac14 hf15 => ?_)
    refine seq_one (op_val (v := .int .i64 1073741824) hf15 rfl rfl rfl rfl rfl rfl (r_move rfl) fun ac15 hf16 => ?_)
    refine seq_one (op_val (v := .pointer (some ⟨b, 0, none⟩)) hf16 rfl rfl rfl rfl rfl rfl (r_nilCheck rfl) fun ac16 hf17 => ?_)
    refine seq_one (op_val (v := .pointer (some ⟨b, 3, none⟩)) hf17 rfl rfl rfl rfl rfl rfl (r_fieldAddr fi_41_3 rfl rfl) fun ac17 hf18 => ?_)
    refine seq_one (op_store (cs' := #[Value.int .i64 x0, Value.int .i64 x1, Value.int .i64 x2, Value.int .i64 1073741824, Value.int .i64 x4, Value.int .i64 x5, Value.int .i64 x6, Value.int .u64 x7, Value.int .u64 x8, Value.int .u64 x9, Value.int .i64 x10, Value.int .i64 x11, Value.int .i64 x12, Value.int .u8 x13, Value.int .u8 x14, Value.int .u8 x15, Value.int .u8 x16, Value.int .u8 x17, Value.int .u8 x18, Value.int .u8 x19, Value.int .u8 x20, Value.int .u8 x21, Value.int .u8 x22, Value.int .u8 x23, Value.int .u8 x24, Value.int .u8 x25, Value.int .u8 x26, Value.int .u8 x27, Value.int .u8 x28, Value.int .u64 x29, Value.bool x30, Value.int .u64 x31, Value.int .i64 x32, Value.int .u64 x33, Value.int .i64 x34, Value.int .i64 x35, Value.int .i64 x36]) 0 hf18 rfl rfl rfl rfl rfl sz_3 hI1 rfl (ltb rfl) (by kernel_rfl) fun wd1 hI2 => ?_)
    have hI3 : Inv w [(b, #[Value.int .i64 x0, Value.int .i64 x1, Value.int .i64 x2, Value.int .i64 1073741824, Value.int .i64 x4, Value.int .i64 x5, Value.int .i64 x6, Value.int .u64 x7, Value.int .u64 x8, Value.int .u64 x9, Value.int .i64 x10, Value.int .i64 x11, Value.int .i64 x12, Value.int .u8 x13, Value.int .u8 x14, Value.int .u8 x15, Value.int .u8 x16, Value.int .u8 x17, Value.int .u8 x18, Value.int .u8 x19, Value.int .u8 x20, Value.int .u8 x21, Value.int .u8 x22, Value.int .u8 x23, Value.int .u8 x24, Value.int .u8 x25, Value.int .u8 x26, Value.int .u8 x27, Value.int .u8 x28, Value.int .u64 x29, Value.bool x30, Value.int .u64 x31, Value.int .i64 x32, Value.int .u64 x33, Value.int .i64 x34, Value.int .i64 x35, Value.int .i64 x36], 41), (c, #[Value.bool ab], 4)] wd1 := hI2
    refine seq_end ?_
    clear ac13 hf14 ac14 hf15 ac15 hf16 ac16 hf17 hI1 hI2
    refine block_normal ?_
    refine post0 rfl hf18 ⟨rfl, ?_⟩
    have hI4 := Inv.unreadB (A := [(b, #[Value.int .i64 x0, Value.int .i64 x1, Value.int .i64 x2, Value.int .i64 1073741824, Value.int .i64 x4, Value.int .i64 x5, Value.int .i64 x6, Value.int .u64 x7, Value.int .u64 x8, Value.int .u64 x9, Value.int .i64 x10, Value.int .i64 x11, Value.int .i64 x12, Value.int .u8 x13, Value.int .u8 x14, Value.int .u8 x15, Value.int .u8 x16, Value.int .u8 x17, Value.int .u8 x18, Value.int .u8 x19, Value.int .u8 x20, Value.int .u8 x21, Value.int .u8 x22, Value.int .u8 x23, Value.int .u8 x24, Value.int .u8 x25, Value.int .u8 x26, Value.int .u8 x27, Value.int .u8 x28, Value.int .u64 x29, Value.bool x30, Value.int .u64 x31, Value.int .i64 x32, Value.int .u64 x33, Value.int .i64 x34, Value.int .i64 x35, Value.int .i64 x36], 41)]) (B := [(c, #[.bool ab], 4)]) hI3 (fun i x hx => h0_ (i + 1) x hx)
    rw [c6_1]
    exact hI4
  · have hf19 := hf3.know 6 (u := .bool false) rfl (congrArg Value.bool c6_1)
    refine wp_skip ?_
    refine then_normal ?_
    refine code_seq ?_
    refine seq_start (l := [0]) rfl ?_
    refine seq_one (op_val (v := .int .u8 4) hf19 rfl rfl rfl rfl rfl rfl (r_move rfl) fun ac18 hf20 => ?_)
    refine seq_end ?_
    clear hf3 ac3 hf19
    refine then_normal ?_
    refine wp_block ?_
    refine code_seq ?_
    refine seq_start (l := [0, 1]) rfl ?_
    refine seq_one (op_val (v := .bool false) hf20 rfl rfl rfl rfl rfl rfl (r_eqlC rfl rfl (by decide)) fun ac19 hf21 => ?_)
    refine seq_one (op_val (v := .bool false) hf21 rfl rfl rfl rfl rfl rfl (r_assign rfl) fun ac20 hf22 => ?_)
    refine seq_end ?_
    clear ac18 hf20 ac19 hf21
    refine then_normal ?_
    refine code_if_false hf22 rfl ?_
    refine code_seq ?_
    refine seq_start (l := [0, 1]) rfl ?_
    refine seq_one (op_val (v := .bool false) hf22 rfl rfl rfl rfl rfl rfl (r_eqlC rfl rfl (by decide)) fun ac21 hf23 => ?_)
    refine seq_one (op_val (v := .bool false) hf23 rfl rfl rfl rfl rfl rfl (r_assign rfl) fun ac22 hf24 => ?_)
    refine seq_end ?_
    clear ac20 hf22 ac21 hf23
    refine then_normal ?_
    refine code_if_false hf24 rfl ?_
    refine code_seq ?_
    refine seq_start (l := [0, 1]) rfl ?_
    refine seq_one (op_val (v := .bool false) hf24 rfl rfl rfl rfl rfl rfl (r_eqlC rfl rfl (by decide)) fun ac23 hf25 => ?_)
    refine seq_one (op_val (v := .bool false) hf25 rfl rfl rfl rfl rfl rfl (r_assign rfl) fun ac24 hf26 => ?_)
    refine seq_end ?_
    clear ac22 hf24 ac23 hf25
    refine then_normal ?_
    refine code_if_false hf26 rfl ?_
    refine code_seq ?_
    refine seq_start (l := [0, 1]) rfl ?_
    refine seq_one (op_val (v := .bool true) hf26 rfl rfl rfl rfl rfl rfl (r_eqlC rfl rfl (by decide)) fun ac25 hf27 => ?_)
    refine seq_one (op_val (v := .bool true) hf27 rfl rfl rfl rfl rfl rfl (r_assign rfl) fun ac26 hf28 => ?_)
    refine seq_end ?_
    clear ac24 hf26 ac25 hf27
    refine then_normal ?_
    refine code_if_true hf28 rfl ?_
    refine seq_start (l := [0, 1, 2, 3, 4]) rfl ?_
    refine seq_one (op_val (v := .pointer (some ⟨b, 0, none⟩)) hf28 rfl rfl rfl rfl rfl rfl (r_move rfl) fun ac27 hf29 => ?_)
    refine seq_one (op_val (v := .int .i64 0) hf29 rfl rfl rfl rfl rfl rfl (r_move rfl) fun ac28 hf30 => ?_)
    refine seq_one (op_val (v := .pointer (some ⟨b, 0, none⟩)) hf30 rfl rfl rfl rfl rfl rfl (r_nilCheck rfl) fun ac29 hf31 => ?_)
    refine seq_one (op_val (v := .pointer (some ⟨b, 3, none⟩)) hf31 rfl rfl rfl rfl rfl rfl (r_fieldAddr fi_41_3 rfl rfl) fun ac30 hf32 => ?_)
    refine seq_one (op_store (cs' := #[Value.int .i64 x0, Value.int .i64 x1, Value.int .i64 x2, Value.int .i64 0, Value.int .i64 x4, Value.int .i64 x5, Value.int .i64 x6, Value.int .u64 x7, Value.int .u64 x8, Value.int .u64 x9, Value.int .i64 x10, Value.int .i64 x11, Value.int .i64 x12, Value.int .u8 x13, Value.int .u8 x14, Value.int .u8 x15, Value.int .u8 x16, Value.int .u8 x17, Value.int .u8 x18, Value.int .u8 x19, Value.int .u8 x20, Value.int .u8 x21, Value.int .u8 x22, Value.int .u8 x23, Value.int .u8 x24, Value.int .u8 x25, Value.int .u8 x26, Value.int .u8 x27, Value.int .u8 x28, Value.int .u64 x29, Value.bool x30, Value.int .u64 x31, Value.int .i64 x32, Value.int .u64 x33, Value.int .i64 x34, Value.int .i64 x35, Value.int .i64 x36]) 0 hf32 rfl rfl rfl rfl rfl sz_3 hI1 rfl (ltb rfl) (by kernel_rfl) fun wd2 hI5 => ?_)
    have hI6 : Inv w [(b, #[Value.int .i64 x0, Value.int .i64 x1, Value.int .i64 x2, Value.int .i64 0, Value.int .i64 x4, Value.int .i64 x5, Value.int .i64 x6, Value.int .u64 x7, Value.int .u64 x8, Value.int .u64 x9, Value.int .i64 x10, Value.int .i64 x11, Value.int .i64 x12, Value.int .u8 x13, Value.int .u8 x14, Value.int .u8 x15, Value.int .u8 x16, Value.int .u8 x17, Value.int .u8 x18, Value.int .u8 x19, Value.int .u8 x20, Value.int .u8 x21, Value.int .u8 x22, Value.int .u8 x23, Value.int .u8 x24, Value.int .u8 x25, Value.int .u8 x26, Value.int .u8 x27, Value.int .u8 x28, Value.int .u64 x29, Value.bool x30, Value.int .u64 x31, Value.int .i64 x32, Value.int .u64 x33, Value.int .i64 x34, Value.int .i64 x35, Value.int .i64 x36], 41), (c, #[Value.bool ab], 4)] wd2 := hI5
    refine seq_end ?_
    clear ac26 hf28 ac27 hf29 ac28 hf30 ac29 hf31 hI1 hI5
    refine block_normal ?_
    refine post0 rfl hf32 ⟨rfl, ?_⟩
    have hI7 := Inv.unreadB (A := [(b, #[Value.int .i64 x0, Value.int .i64 x1, Value.int .i64 x2, Value.int .i64 0, Value.int .i64 x4, Value.int .i64 x5, Value.int .i64 x6, Value.int .u64 x7, Value.int .u64 x8, Value.int .u64 x9, Value.int .i64 x10, Value.int .i64 x11, Value.int .i64 x12, Value.int .u8 x13, Value.int .u8 x14, Value.int .u8 x15, Value.int .u8 x16, Value.int .u8 x17, Value.int .u8 x18, Value.int .u8 x19, Value.int .u8 x20, Value.int .u8 x21, Value.int .u8 x22, Value.int .u8 x23, Value.int .u8 x24, Value.int .u8 x25, Value.int .u8 x26, Value.int .u8 x27, Value.int .u8 x28, Value.int .u64 x29, Value.bool x30, Value.int .u64 x31, Value.int .i64 x32, Value.int .u64 x33, Value.int .i64 x34, Value.int .i64 x35, Value.int .i64 x36], 41)]) (B := [(c, #[.bool ab], 4)]) hI6 (fun i x hx => h0_ (i + 1) x hx)
    rw [c6_1]
    exact hI7
set_option maxHeartbeats 8000000 in
theorem spoil_5 (x0 x1 x2 x3 x4 x5 x6 x7 x8 x9 x10 x11 x12 x13 x14 x15 x16 x17 x18 x19 x20 x21 x22 x23 x24 x25 x26 x27 x28 x29 x31 x32 x33 x34 x35 x36 : Int) (x30 : Bool) (ab : Bool) (b c : Nat) (hne : b ≠ c) (w : World) (h0_ : Has [(b, #[Value.int .i64 x0, Value.int .i64 x1, Value.int .i64 x2, Value.int .i64 x3, Value.int .i64 x4, Value.int .i64 x5, Value.int .i64 x6, Value.int .u64 x7, Value.int .u64 x8, Value.int .u64 x9, Value.int .i64 x10, Value.int .i64 x11, Value.int .i64 x12, Value.int .u8 x13, Value.int .u8 x14, Value.int .u8 x15, Value.int .u8 x16, Value.int .u8 x17, Value.int .u8 x18, Value.int .u8 x19, Value.int .u8 x20, Value.int .u8 x21, Value.int .u8 x22, Value.int .u8 x23, Value.int .u8 x24, Value.int .u8 x25, Value.int .u8 x26, Value.int .u8 x27, Value.int .u8 x28, Value.int .u64 x29, Value.bool x30, Value.int .u64 x31, Value.int .i64 x32, Value.int .u64 x33, Value.int .i64 x34, Value.int .i64 x35, Value.int .i64 x36], 41), (c, #[Value.bool ab], 4)] w) : Calls Tryd.prog 32 [.pointer (some ⟨b, 0, none⟩), .int .u8 5, .pointer (some ⟨c, 0, none⟩)].toArray w fun e w' => e = .returned (.tuple #[]) ∧ Inv w [(b, #[Value.int .i64 (sp 5 1 (nF ab) x0), Value.int .i64 (sp 5 2 (nF ab) x1), Value.int .i64 (sp 5 3 ((nF ab) - 1) x2), Value.int .i64 (sp 5 4 (nF ab) x3), Value.int .i64 x4, Value.int .i64 x5, Value.int .i64 (sp 5 5 (nF ab) x6), Value.int .u64 x7, Value.int .u64 x8, Value.int .u64 x9, Value.int .i64 (sp 5 6 (nF ab) x10), Value.int .i64 x11, Value.int .i64 x12, Value.int .u8 x13, Value.int .u8 x14, Value.int .u8 x15, Value.int .u8 x16, Value.int .u8 x17, Value.int .u8 x18, Value.int .u8 x19, Value.int .u8 (sp 5 7 4 x20), Value.int .u8 x21, Value.int .u8 x22, Value.int .u8 x23, Value.int .u8 x24, Value.int .u8 x25, Value.int .u8 x26, Value.int .u8 x27, Value.int .u8 x28, Value.int .u64 (sp 5 8 1125899906842625 x29), Value.bool x30, Value.int .u64 x31, Value.int .i64 (sp 5 9 (nF ab) x32), Value.int .u64 x33, Value.int .i64 (sp 5 10 (nF ab) x34), Value.int .i64 x35, Value.int .i64 (sp 5 11 (nF ab) x36)], 41)] w' := by
  have hI1 := Inv.startS h0_ (by simp [hne])
  refine enter (n := 77) Tryd.func32 rfl rfl rfl ?_
  intro ac1 hf1
  refine code_seq ?_
  refine seq_start (l := [0]) rfl ?_
  refine seq_one (op_val (v := .int .i64 0) hf1 rfl rfl rfl rfl rfl rfl (r_assign rfl) fun ac2 hf2 => ?_)
  refine seq_end ?_
  clear ac1 hf1
  refine then_normal ?_
  refine code_seq ?_
  refine code_seq ?_
  refine seq_start (l := [0]) rfl ?_
  refine seq_one (op_val (v := .bool ab) hf2 rfl rfl rfl rfl rfl rfl (r_load ag_4 rfl (hI1.at 1 rfl) rfl) fun ac3 hf3 => ?_)
  refine seq_end ?_
  clear ac2 hf2
  refine then_normal ?_
  refine code_if hf3 rfl (fun c6_1 => ?_) (fun c6_1 => ?_)
  · have hf4 := hf3.know 6 (u := .bool true) rfl (congrArg Value.bool c6_1)
    refine seq_start (l := [0]) rfl ?_
    refine seq_one (op_val (v := .int .i64 1073741824) hf4 rfl rfl rfl rfl rfl rfl (r_assign rfl) fun ac4 hf5 => ?_)
    refine seq_end ?_
    clear hf3 ac3 hf4
    refine then_normal ?_
    refine code_seq ?_
    refine seq_start (l := [0]) rfl ?_
    refine seq_one (op_val (v := .int .u8 5) hf5 rfl rfl rfl rfl rfl rfl (r_move rfl) fun ac5 hf6 => ?_)
    refine seq_end ?_
    clear ac4 hf5
    refine then_normal ?_
    refine wp_block ?_
    refine code_seq ?_
    refine seq_start (l := [0, 1]) rfl ?_
    refine seq_one (op_val (v := .bool false) hf6 rfl rfl rfl rfl rfl rfl (r_eqlC rfl rfl (by decide)) fun ac6 hf7 => ?_)
    refine seq_one (op_val (v := .bool false) hf7 rfl rfl rfl rfl rfl rfl (r_assign rfl) fun ac7 hf8 => ?_)
    refine seq_end ?_
    clear ac5 hf6 ac6 hf7
    refine then_normal ?_
    refine code_if_false hf8 rfl ?_
    refine code_seq ?_
    refine seq_start (l := [0, 1]) rfl ?_
    refine seq_one (op_val (v := .bool false) hf8 rfl rfl rfl rfl rfl rfl (r_eqlC rfl rfl (by decide)) fun ac8 hf9 => ?_)
    refine seq_one (op_val (v := .bool false) hf9 rfl rfl rfl rfl rfl rfl (r_assign rfl) fun ac9 hf10 => ?_)
    refine seq_end ?_
    clear ac7 hf8 ac8 hf9
    refine then_normal ?_
    refine code_if_false hf10 rfl ?_
    refine code_seq ?_
    refine seq_start (l := [0, 1]) rfl ?_
    refine seq_one (op_val (v := .bool false) hf10 rfl rfl rfl rfl rfl rfl (r_eqlC rfl rfl (by decide)) fun ac10 hf11 => ?_)
    refine seq_one (op_val (v := .bool false) hf11 rfl rfl rfl rfl rfl rfl (r_assign rfl) fun ac11 hf12 => ?_)
    refine seq_end ?_
    clear ac9 hf10 ac10 hf11
    refine then_normal ?_
    refine code_if_false hf12 rfl ?_
    refine code_seq ?_
    refine seq_start (l := [0, 1]) rfl ?_
    refine seq_one (op_val (v := .bool false) hf12 rfl rfl rfl rfl rfl rfl (r_eqlC rfl rfl (by decide)) fun ac12 hf13 => ?_)
    refine seq_one (op_val (v := .bool false) hf13 rfl rfl rfl rfl rfl rfl (r_assign rfl) fun ac13 hf14 => ?_)
    refine seq_end ?_
    clear ac11 hf12 ac12 hf13
    refine then_normal ?_
    refine code_if_false hf14 rfl ?_
    refine code_seq ?_
    refine seq_start (l := [0, 1]) rfl ?_
    refine seq_one (op_val (v := .bool true) hf14 rfl rfl rfl rfl rfl rfl (r_eqlC rfl rfl (by decide)) fun ac14 hf15 => ?_)
    refine seq_one (op_val (v := .bool true) hf15 rfl rfl rfl rfl rfl rfl (r_assign rfl) fun ac15 hf16 => ?_)
    refine seq_end ?_
    clear ac13 hf14 ac14 hf15
    refine then_normal ?_
    refine code_if_true hf16 rfl ?_
    refine seq_start (l := [0, 1, 2, 3, 4, 5]) rfl ?_
    refine seq_one (op_val (v := .pointer (some ⟨b, 0, none⟩)) hf16 rfl rfl rfl rfl rfl rfl (r_move rfl) fun ac16 hf17 => ?_)
    refine seq_one (op_val (v := .int .i64 1073741824) hf17 rfl rfl rfl rfl rfl rfl (r_move rfl) fun ac17 hf18 => ?_)
    refine seq_one (op_val (v := .pointer (some ⟨b, 0, none⟩)) hf18 rfl rfl rfl rfl rfl rfl (r_nilCheck rfl) fun ac18 hf19 => ?_)
    refine seq_one (op_val (v := .pointer (some ⟨b, 5, none⟩)) hf19 rfl rfl rfl rfl rfl rfl (r_fieldAddr fi_41_5 rfl rfl) fun ac19 hf20 => ?_)
    refine seq_one (op_val (v := .pointer (some ⟨b, 6, none⟩)) hf20 rfl rfl rfl rfl rfl rfl (r_fieldAddr fi_38_1 rfl rfl) fun ac20 hf21 => ?_)
    refine seq_one (op_store (cs' := #[Value.int .i64 x0, Value.int .i64 x1, Value.int .i64 x2, Value.int .i64 x3, Value.int .i64 x4, Value.int .i64 x5, Value.int .i64 1073741824, Value.int .u64 x7, Value.int .u64 x8, Value.int .u64 x9, Value.int .i64 x10, Value.int .i64 x11, Value.int .i64 x12, Value.int .u8 x13, Value.int .u8 x14, Value.int .u8 x15, Value.int .u8 x16, Value.int .u8 x17, Value.int .u8 x18, Value.int .u8 x19, Value.int .u8 x20, Value.int .u8 x21, Value.int .u8 x22, Value.int .u8 x23, Value.int .u8 x24, Value.int .u8 x25, Value.int .u8 x26, Value.int .u8 x27, Value.int .u8 x28, Value.int .u64 x29, Value.bool x30, Value.int .u64 x31, Value.int .i64 x32, Value.int .u64 x33, Value.int .i64 x34, Value.int .i64 x35, Value.int .i64 x36]) 0 hf21 rfl rfl rfl rfl rfl sz_3 hI1 rfl (ltb rfl) (by kernel_rfl) fun wd1 hI2 => ?_)
    have hI3 : Inv w [(b, #[Value.int .i64 x0, Value.int .i64 x1, Value.int .i64 x2, Value.int .i64 x3, Value.int .i64 x4, Value.int .i64 x5, Value.int .i64 1073741824, Value.int .u64 x7, Value.int .u64 x8, Value.int .u64 x9, Value.int .i64 x10, Value.int .i64 x11, Value.int .i64 x12, Value.int .u8 x13, Value.int .u8 x14, Value.int .u8 x15, Value.int .u8 x16, Value.int .u8 x17, Value.int .u8 x18, Value.int .u8 x19, Value.int .u8 x20, Value.int .u8 x21, Value.int .u8 x22, Value.int .u8 x23, Value.int .u8 x24, Value.int .u8 x25, Value.int .u8 x26, Value.int .u8 x27, Value.int .u8 x28, Value.int .u64 x29, Value.bool x30, Value.int .u64 x31, Value.int .i64 x32, Value.int .u64 x33, Value.int .i64 x34, Value.int .i64 x35, Value.int .i64 x36], 41), (c, #[Value.bool ab], 4)] wd1 := hI2
    refine seq_end ?_
    clear ac15 hf16 ac16 hf17 ac17 hf18 ac18 hf19 ac19 hf20 hI1 hI2
    refine block_normal ?_
    refine post0 rfl hf21 ⟨rfl, ?_⟩
    have hI4 := Inv.unreadB (A := [(b, #[Value.int .i64 x0, Value.int .i64 x1, Value.int .i64 x2, Value.int .i64 x3, Value.int .i64 x4, Value.int .i64 x5, Value.int .i64 1073741824, Value.int .u64 x7, Value.int .u64 x8, Value.int .u64 x9, Value.int .i64 x10, Value.int .i64 x11, Value.int .i64 x12, Value.int .u8 x13, Value.int .u8 x14, Value.int .u8 x15, Value.int .u8 x16, Value.int .u8 x17, Value.int .u8 x18, Value.int .u8 x19, Value.int .u8 x20, Value.int .u8 x21, Value.int .u8 x22, Value.int .u8 x23, Value.int .u8 x24, Value.int .u8 x25, Value.int .u8 x26, Value.int .u8 x27, Value.int .u8 x28, Value.int .u64 x29, Value.bool x30, Value.int .u64 x31, Value.int .i64 x32, Value.int .u64 x33, Value.int .i64 x34, Value.int .i64 x35, Value.int .i64 x36], 41)]) (B := [(c, #[.bool ab], 4)]) hI3 (fun i x hx => h0_ (i + 1) x hx)
    rw [c6_1]
    exact hI4
  · have hf22 := hf3.know 6 (u := .bool false) rfl (congrArg Value.bool c6_1)
    refine wp_skip ?_
    refine then_normal ?_
    refine code_seq ?_
    refine seq_start (l := [0]) rfl ?_
    refine seq_one (op_val (v := .int .u8 5) hf22 rfl rfl rfl rfl rfl rfl (r_move rfl) fun ac21 hf23 => ?_)
    refine seq_end ?_
    clear hf3 ac3 hf22
    refine then_normal ?_
    refine wp_block ?_
    refine code_seq ?_
    refine seq_start (l := [0, 1]) rfl ?_
    refine seq_one (op_val (v := .bool false) hf23 rfl rfl rfl rfl rfl rfl (r_eqlC rfl rfl (by decide)) fun ac22 hf24 => ?_)
    refine seq_one (op_val (v := .bool false) hf24 rfl rfl rfl rfl rfl rfl (r_assign rfl) fun ac23 hf25 => ?_)
    refine seq_end ?_
    clear ac21 hf23 ac22 hf24
    refine then_normal ?_
    refine code_if_false hf25 rfl ?_
    refine code_seq ?_
    refine seq_start (l := [0, 1]) rfl ?_
    refine seq_one (op_val (v := .bool false) hf25 rfl rfl rfl rfl rfl rfl (r_eqlC rfl rfl (by decide)) fun ac24 hf26 => ?_)
    refine seq_one (op_val (v := .bool false) hf26 rfl rfl rfl rfl rfl rfl (r_assign rfl) fun ac25 hf27 => ?_)
    refine seq_end ?_
    clear ac23 hf25 ac24 hf26
    refine then_normal ?_
    refine code_if_false hf27 rfl ?_
    refine code_seq ?_
    refine seq_start (l := [0, 1]) rfl ?_
    refine seq_one (op_val (v := .bool false) hf27 rfl rfl rfl rfl rfl rfl (r_eqlC rfl rfl (by decide)) fun ac26 hf28 => ?_)
    refine seq_one (op_val (v := .bool false) hf28 rfl rfl rfl rfl rfl rfl (r_assign rfl) fun ac27 hf29 => ?_)
    refine seq_end ?_
    clear ac25 hf27 ac26 hf28
    refine then_normal ?_
    refine code_if_false hf29 rfl ?_
    refine code_seq ?_
    refine seq_start (l := [0, 1]) rfl ?_
    refine seq_one (op_val (v := .bool false) hf29 rfl rfl rfl rfl rfl rfl (r_eqlC rfl rfl (by decide)) fun ac28 hf30 => ?_)
    refine seq_one (op_val (v := .bool false) hf30 rfl rfl rfl rfl rfl rfl (r_assign rfl) fun ac29 hf31 => ?_)
    refine seq_end ?_
    clear ac27 hf29 ac28 hf30
    refine then_normal ?_
    refine code_if_false hf31 rfl ?_
    refine code_seq ?_
    refine seq_start (l := [0, 1]) rfl ?_
    refine seq_one (op_val (v := .bool true) hf31 rfl rfl rfl rfl rfl rfl (r_eqlC rfl rfl (by decide)) fun ac30 hf32 => ?_)
    refine seq_one (op_val (v := .bool true) hf32 rfl rfl rfl rfl rfl rfl (r_assign rfl) fun ac31 hf33 => ?_)
    refine seq_end ?_
    clear ac29 hf31 ac30 hf32
    refine then_normal ?_
    refine code_if_true hf33 rfl ?_
    refine seq_start (l := [0, 1, 2, 3, 4, 5]) rfl ?_
    refine seq_one (op_val (v := .pointer (some ⟨b, 0, none⟩)) hf33 rfl rfl rfl rfl rfl rfl (r_move rfl) fun ac32 hf34 => ?_)
    refine seq_one (op_val (v := .int .i64 0) hf34 rfl rfl rfl rfl rfl rfl (r_move rfl) fun ac33 hf35 => ?_)
    refine seq_one (op_val (v := .pointer (some ⟨b, 0, none⟩)) hf35 rfl rfl rfl rfl rfl rfl (r_nilCheck rfl) fun ac34 hf36 => ?_)
    refine seq_one (op_val (v := .pointer (some ⟨b, 5, none⟩)) hf36 rfl rfl rfl rfl rfl rfl (r_fieldAddr fi_41_5 rfl rfl) fun ac35 hf37 => ?_)
    refine seq_one (op_val (v := .pointer (some ⟨b, 6, none⟩)) hf37 rfl rfl rfl rfl rfl rfl (r_fieldAddr fi_38_1 rfl rfl) fun ac36 hf38 => ?_)
    refine seq_one (op_store (cs' := #[Value.int .i64 x0, Value.int .i64 x1, Value.int .i64 x2, Value.int .i64 x3, Value.int .i64 x4, Value.int .i64 x5, Value.int .i64 0, Value.int .u64 x7, Value.int .u64 x8, Value.int .u64 x9, Value.int .i64 x10, Value.int .i64 x11, Value.int .i64 x12, Value.int .u8 x13, Value.int .u8 x14, Value.int .u8 x15, Value.int .u8 x16, Value.int .u8 x17, Value.int .u8 x18, Value.int .u8 x19, Value.int .u8 x20, Value.int .u8 x21, Value.int .u8 x22, Value.int .u8 x23, Value.int .u8 x24, Value.int .u8 x25, Value.int .u8 x26, Value.int .u8 x27, Value.int .u8 x28, Value.int .u64 x29, Value.bool x30, Value.int .u64 x31, Value.int .i64 x32, Value.int .u64 x33, Value.int .i64 x34, Value.int .i64 x35, Value.int .i64 x36]) 0 hf38 rfl rfl rfl rfl rfl sz_3 hI1 rfl (ltb rfl) (by kernel_rfl) fun wd2 hI5 => ?_)
    have hI6 : Inv w [(b, #[Value.int .i64 x0, Value.int .i64 x1, Value.int .i64 x2, Value.int .i64 x3, Value.int .i64 x4, Value.int .i64 x5, Value.int .i64 0, Value.int .u64 x7, Value.int .u64 x8, Value.int .u64 x9, Value.int .i64 x10, Value.int .i64 x11, Value.int .i64 x12, Value.int .u8 x13, Value.int .u8 x14, Value.int .u8 x15, Value.int .u8 x16, Value.int .u8 x17, Value.int .u8 x18, Value.int .u8 x19, Value.int .u8 x20, Value.int .u8 x21, Value.int .u8 x22, Value.int .u8 x23, Value.int .u8 x24, Value.int .u8 x25, Value.int .u8 x26, Value.int .u8 x27, Value.int .u8 x28, Value.int .u64 x29, Value.bool x30, Value.int .u64 x31, Value.int .i64 x32, Value.int .u64 x33, Value.int .i64 x34, Value.int .i64 x35, Value.int .i64 x36], 41), (c, #[Value.bool ab], 4)] wd2 := hI5
    refine seq_end ?_
    clear ac31 hf33 ac32 hf34 ac33 hf35 ac34 hf36 ac35 hf37 hI1 hI5
    refine block_normal ?_
    refine post0 rfl hf38 ⟨rfl, ?_⟩
    have hI7 := Inv.unreadB (A := [(b, #[Value.int .i64 x0, Value.int .i64 x1, Value.int .i64 x2, Value.int .i64 x3, Value.int .i64 x4, Value.int .i64 x5, Value.int .i64 0, Value.int .u64 x7, Value.int .u64 x8, Value.int .u64 x9, Value.int .i64 x10, Value.int .i64 x11, Value.int .i64 x12, Value.int .u8 x13, Value.int .u8 x14, Value.int .u8 x15, Value.int .u8 x16, Value.int .u8 x17, Value.int .u8 x18, Value.int .u8 x19, Value.int .u8 x20, Value.int .u8 x21, Value.int .u8 x22, Value.int .u8 x23, Value.int .u8 x24, Value.int .u8 x25, Value.int .u8 x26, Value.int .u8 x27, Value.int .u8 x28, Value.int .u64 x29, Value.bool x30, Value.int .u64 x31, Value.int .i64 x32, Value.int .u64 x33, Value.int .i64 x34, Value.int .i64 x35, Value.int .i64 x36], 41)]) (B := [(c, #[.bool ab], 4)]) hI6 (fun i x hx => h0_ (i + 1) x hx)
    rw [c6_1]
    exact hI7
set_option maxHeartbeats 8000000 in
theorem spoil_6 (x0 x1 x2 x3 x4 x5 x6 x7 x8 x9 x10 x11 x12 x13 x14 x15 x16 x17 x18 x19 x20 x21 x22 x23 x24 x25 x26 x27 x28 x29 x31 x32 x33 x34 x35 x36 : Int) (x30 : Bool) (ab : Bool) (b c : Nat) (hne : b ≠ c) (w : World) (h0_ : Has [(b, #[Value.int .i64 x0, Value.int .i64 x1, Value.int .i64 x2, Value.int .i64 x3, Value.int .i64 x4, Value.int .i64 x5, Value.int .i64 x6, Value.int .u64 x7, Value.int .u64 x8, Value.int .u64 x9, Value.int .i64 x10, Value.int .i64 x11, Value.int .i64 x12, Value.int .u8 x13, Value.int .u8 x14, Value.int .u8 x15, Value.int .u8 x16, Value.int .u8 x17, Value.int .u8 x18, Value.int .u8 x19, Value.int .u8 x20, Value.int .u8 x21, Value.int .u8 x22, Value.int .u8 x23, Value.int .u8 x24, Value.int .u8 x25, Value.int .u8 x26, Value.int .u8 x27, Value.int .u8 x28, Value.int .u64 x29, Value.bool x30, Value.int .u64 x31, Value.int .i64 x32, Value.int .u64 x33, Value.int .i64 x34, Value.int .i64 x35, Value.int .i64 x36], 41), (c, #[Value.bool ab], 4)] w) : Calls Tryd.prog 32 [.pointer (some ⟨b, 0, none⟩), .int .u8 6, .pointer (some ⟨c, 0, none⟩)].toArray w fun e w' => e = .returned (.tuple #[]) ∧ Inv w [(b, #[Value.int .i64 (sp 6 1 (nF ab) x0), Value.int .i64 (sp 6 2 (nF ab) x1), Value.int .i64 (sp 6 3 ((nF ab) - 1) x2), Value.int .i64 (sp 6 4 (nF ab) x3), Value.int .i64 x4, Value.int .i64 x5, Value.int .i64 (sp 6 5 (nF ab) x6), Value.int .u64 x7, Value.int .u64 x8, Value.int .u64 x9, Value.int .i64 (sp 6 6 (nF ab) x10), Value.int .i64 x11, Value.int .i64 x12, Value.int .u8 x13, Value.int .u8 x14, Value.int .u8 x15, Value.int .u8 x16, Value.int .u8 x17, Value.int .u8 x18, Value.int .u8 x19, Value.int .u8 (sp 6 7 4 x20), Value.int .u8 x21, Value.int .u8 x22, Value.int .u8 x23, Value.int .u8 x24, Value.int .u8 x25, Value.int .u8 x26, Value.int .u8 x27, Value.int .u8 x28, Value.int .u64 (sp 6 8 1125899906842625 x29), Value.bool x30, Value.int .u64 x31, Value.int .i64 (sp 6 9 (nF ab) x32), Value.int .u64 x33, Value.int .i64 (sp 6 10 (nF ab) x34), Value.int .i64 x35, Value.int .i64 (sp 6 11 (nF ab) x36)], 41)] w' := by
  have hI1 := Inv.startS h0_ (by simp [hne])
  refine enter (n := 77) Tryd.func32 rfl rfl rfl ?_
  intro ac1 hf1
  refine code_seq ?_
  refine seq_start (l := [0]) rfl ?_
  refine seq_one (op_val (v := .int .i64 0) hf1 rfl rfl rfl rfl rfl rfl (r_assign rfl) fun ac2 hf2 => ?_)
  refine seq_end ?_
  clear ac1 hf1
  refine then_normal ?_
  refine code_seq ?_
  refine code_seq ?_
  refine seq_start (l := [0]) rfl ?_
  refine seq_one (op_val (v := .bool ab) hf2 rfl rfl rfl rfl rfl rfl (r_load ag_4 rfl (hI1.at 1 rfl) rfl) fun ac3 hf3 => ?_)
  refine seq_end ?_
  clear ac2 hf2
  refine then_normal ?_
  refine code_if hf3 rfl (fun c6_1 => ?_) (fun c6_1 => ?_)
  · have hf4 := hf3.know 6 (u := .bool true) rfl (congrArg Value.bool c6_1)
    refine seq_start (l := [0]) rfl ?_
    refine seq_one (op_val (v := .int .i64 1073741824) hf4 rfl rfl rfl rfl rfl rfl (r_assign rfl) fun ac4 hf5 => ?_)
    refine seq_end ?_
    clear hf3 ac3 hf4
    refine then_normal ?_
    refine code_seq ?_
    refine seq_start (l := [0]) rfl ?_
    refine seq_one (op_val (v := .int .u8 6) hf5 rfl rfl rfl rfl rfl rfl (r_move rfl) fun ac5 hf6 => ?_)
    refine seq_end ?_
    clear ac4 hf5
    refine then_normal ?_
    refine wp_block ?_
    refine code_seq ?_
    refine seq_start (l := [0, 1]) rfl ?_
    refine seq_one (op_val (v := .bool false) hf6 rfl rfl rfl rfl rfl rfl (r_eqlC rfl rfl (by decide)) fun ac6 hf7 => ?_)
    refine seq_one (op_val (v := .bool false) hf7 rfl rfl rfl rfl rfl rfl (r_assign rfl) fun ac7 hf8 => ?_)
    refine seq_end ?_
    clear ac5 hf6 ac6 hf7
    refine then_normal ?_
    refine code_if_false hf8 rfl ?_
    refine code_seq ?_
    refine seq_start (l := [0, 1]) rfl ?_
    refine seq_one (op_val (v := .bool false) hf8 rfl rfl rfl rfl rfl rfl (r_eqlC rfl rfl (by decide)) fun ac8 hf9 => ?_)
    refine seq_one (op_val (v := .bool false) hf9 rfl rfl rfl rfl rfl rfl (r_assign rfl) fun ac9 hf10 => ?_)
    refine seq_end ?_
    clear ac7 hf8 ac8 hf9
    refine then_normal ?_
    refine code_if_false hf10 rfl ?_
    refine code_seq ?_
    refine seq_start (l := [0, 1]) rfl ?_
    refine seq_one (op_val (v := .bool false) hf10 rfl rfl rfl rfl rfl rfl (r_eqlC rfl rfl (by decide)) fun ac10 hf11 => ?_)
    refine seq_one (op_val (v := .bool false) hf11 rfl rfl rfl rfl rfl rfl (r_assign rfl) fun ac11 hf12 => ?_)
    refine seq_end ?_
    clear ac9 hf10 ac10 hf11
    refine then_normal ?_
    refine code_if_false hf12 rfl ?_
    refine code_seq ?_
    refine seq_start (l := [0, 1]) rfl ?_
    refine seq_one (op_val (v := .bool false) hf12 rfl rfl rfl rfl rfl rfl (r_eqlC rfl rfl (by decide)) fun ac12 hf13 => ?_)
    refine seq_one (op_val (v := .bool false) hf13 rfl rfl rfl rfl rfl rfl (r_assign rfl) fun ac13 hf14 => ?_)
    refine seq_end ?_
    clear ac11 hf12 ac12 hf13
    refine then_normal ?_
    refine code_if_false hf14 rfl ?_
    refine code_seq ?_
    refine seq_start (l := [0, 1]) rfl ?_
    refine seq_one (op_val (v := .bool false) hf14 rfl rfl rfl rfl rfl rfl (r_eqlC rfl rfl (by decide)) fun ac14 hf15 => ?_)
    refine seq_one (op_val (v := .bool false) hf15 rfl rfl rfl rfl rfl rfl (r_assign rfl) fun ac15 hf16 => ?_)
    refine seq_end ?_
    clear ac13 hf14 ac14 hf15
    refine then_normal ?_
    refine code_if_false hf16 rfl ?_
    refine code_seq ?_
    refine seq_start (l := [0, 1]) rfl ?_
    refine seq_one (op_val (v := .bool true) hf16 rfl rfl rfl rfl rfl rfl (r_eqlC rfl rfl (by decide)) fun ac16 hf17 => ?_)
    refine seq_one (op_val (v := .bool true) hf17 rfl rfl rfl rfl rfl rfl (r_assign rfl) fun ac17 hf18 => ?_)
    refine seq_end ?_
    clear ac15 hf16 ac16 hf17
    refine then_normal ?_
    refine code_if_true hf18 rfl ?_
    refine seq_start (l := [0, 1, 2, 3, 4, 5, 6, 7]) rfl ?_
    refine seq_one (op_val (v := .pointer (some ⟨b, 0, none⟩)) hf18 rfl rfl rfl rfl rfl rfl (r_move rfl) fun ac18 hf19 => ?_)
    refine seq_one (op_val (v := .int .u8 6) hf19 rfl rfl rfl rfl rfl rfl (r_move rfl) fun ac19 hf20 => ?_)
    refine seq_one (op_val (v := .int .u8 0) hf20 rfl rfl rfl rfl rfl rfl (r_rem (c := 0) rfl rfl (by decide) (by rfl)) fun ac20 hf21 => ?_)
    refine seq_one (op_val (v := .int .i64 1073741824) hf21 rfl rfl rfl rfl rfl rfl (r_move rfl) fun ac21 hf22 => ?_)
    refine seq_one (op_val (v := .pointer (some ⟨b, 0, none⟩)) hf22 rfl rfl rfl rfl rfl rfl (r_nilCheck rfl) fun ac22 hf23 => ?_)
    refine seq_one (op_val (v := .pointer (some ⟨b, 10, none⟩)) hf23 rfl rfl rfl rfl rfl rfl (r_fieldAddr fi_41_6 rfl rfl) fun ac23 hf24 => ?_)
    refine seq_one (op_val (v := .pointer (some ⟨b, 10, none⟩)) hf24 rfl rfl rfl rfl rfl rfl (r_indexAddr (i := 0) ar_39 rfl rfl rfl (by decide) rfl) fun ac24 hf25 => ?_)
    refine seq_one (op_store (cs' := #[Value.int .i64 x0, Value.int .i64 x1, Value.int .i64 x2, Value.int .i64 x3, Value.int .i64 x4, Value.int .i64 x5, Value.int .i64 x6, Value.int .u64 x7, Value.int .u64 x8, Value.int .u64 x9, Value.int .i64 1073741824, Value.int .i64 x11, Value.int .i64 x12, Value.int .u8 x13, Value.int .u8 x14, Value.int .u8 x15, Value.int .u8 x16, Value.int .u8 x17, Value.int .u8 x18, Value.int .u8 x19, Value.int .u8 x20, Value.int .u8 x21, Value.int .u8 x22, Value.int .u8 x23, Value.int .u8 x24, Value.int .u8 x25, Value.int .u8 x26, Value.int .u8 x27, Value.int .u8 x28, Value.int .u64 x29, Value.bool x30, Value.int .u64 x31, Value.int .i64 x32, Value.int .u64 x33, Value.int .i64 x34, Value.int .i64 x35, Value.int .i64 x36]) 0 hf25 rfl rfl rfl rfl rfl sz_3 hI1 rfl (ltb rfl) (by kernel_rfl) fun wd1 hI2 => ?_)
    have hI3 : Inv w [(b, #[Value.int .i64 x0, Value.int .i64 x1, Value.int .i64 x2, Value.int .i64 x3, Value.int .i64 x4, Value.int .i64 x5, Value.int .i64 x6, Value.int .u64 x7, Value.int .u64 x8, Value.int .u64 x9, Value.int .i64 1073741824, Value.int .i64 x11, Value.int .i64 x12, Value.int .u8 x13, Value.int .u8 x14, Value.int .u8 x15, Value.int .u8 x16, Value.int .u8 x17, Value.int .u8 x18, Value.int .u8 x19, Value.int .u8 x20, Value.int .u8 x21, Value.int .u8 x22, Value.int .u8 x23, Value.int .u8 x24, Value.int .u8 x25, Value.int .u8 x26, Value.int .u8 x27, Value.int .u8 x28, Value.int .u64 x29, Value.bool x30, Value.int .u64 x31, Value.int .i64 x32, Value.int .u64 x33, Value.int .i64 x34, Value.int .i64 x35, Value.int .i64 x36], 41), (c, #[Value.bool ab], 4)] wd1 := hI2
    refine seq_end ?_
    clear ac17 hf18 ac18 hf19 ac19 hf20 ac20 hf21 ac21 hf22 ac22 hf23 ac23 hf24 hI1 hI2
    refine block_normal ?_
    refine post0 rfl hf25 ⟨rfl, ?_⟩
    have hI4 := Inv.unreadB (A := [(b, #[Value.int .i64 x0, Value.int .i64 x1, Value.int .i64 x2, Value.int .i64 x3, Value.int .i64 x4, Value.int .i64 x5, Value.int .i64 x6, Value.int .u64 x7, Value.int .u64 x8, Value.int .u64 x9, Value.int .i64 1073741824, Value.int .i64 x11, Value.int .i64 x12, Value.int .u8 x13, Value.int .u8 x14, Value.int .u8 x15, Value.int .u8 x16, Value.int .u8 x17, Value.int .u8 x18, Value.int .u8 x19, Value.int .u8 x20, Value.int .u8 x21, Value.int .u8 x22, Value.int .u8 x23, Value.int .u8 x24, Value.int .u8 x25, Value.int .u8 x26, Value.int .u8 x27, Value.int .u8 x28, Value.int .u64 x29, Value.bool x30, Value.int .u64 x31, Value.int .i64 x32, Value.int .u64 x33, Value.int .i64 x34, Value.int .i64 x35, Value.int .i64 x36], 41)]) (B := [(c, #[.bool ab], 4)]) hI3 (fun i x hx => h0_ (i + 1) x hx)
    rw [c6_1]
    exact hI4
  · have hf26 := hf3.know 6 (u := .bool false) rfl (congrArg Value.bool c6_1)
    refine wp_skip ?_
    refine then_normal ?_
    refine code_seq ?_
    refine seq_start (l := [0]) rfl ?_
    refine seq_one (op_val (v := .int .u8 6) hf26 rfl rfl rfl rfl rfl rfl (r_move rfl) fun ac25 hf27 => ?_)
    refine seq_end ?_
    clear hf3 ac3 hf26
    refine then_normal ?_
    refine wp_block ?_
    refine code_seq ?_
    refine seq_start (l := [0, 1]) rfl ?_
    refine seq_one (op_val (v := .bool false) hf27 rfl rfl rfl rfl rfl rfl (r_eqlC rfl rfl (by decide)) fun ac26 hf28 => ?_)
    refine seq_one (op_val (v := .bool false) hf28 rfl rfl rfl rfl rfl rfl (r_assign rfl) fun ac27 hf29 => ?_)
    refine seq_end ?_
    clear ac25 hf27 ac26 hf28
    refine then_normal ?_
    refine code_if_false hf29 rfl ?_
    refine code_seq ?_
    refine seq_start (l := [0, 1]) rfl ?_
    refine seq_one (op_val (v := .bool false) hf29 rfl rfl rfl rfl rfl rfl (r_eqlC rfl rfl (by decide)) fun ac28 hf30 => ?_)
    refine seq_one (op_val (v := .bool false) hf30 rfl rfl rfl rfl rfl rfl (r_assign rfl) fun ac29 hf31 => ?_)
    refine seq_end ?_
    clear ac27 hf29 ac28 hf30
    refine then_normal ?_
    refine code_if_false hf31 rfl ?_
    refine code_seq ?_
    refine seq_start (l := [0, 1]) rfl ?_
    refine seq_one (op_val (v := .bool false) hf31 rfl rfl rfl rfl rfl rfl (r_eqlC rfl rfl (by decide)) fun ac30 hf32 => ?_)
    refine seq_one (op_val (v := .bool false) hf32 rfl rfl rfl rfl rfl rfl (r_assign rfl) fun ac31 hf33 => ?_)
    refine seq_end ?_
    clear ac29 hf31 ac30 hf32
    refine then_normal ?_
    refine code_if_false hf33 rfl ?_
    refine code_seq ?_
    refine seq_start (l := [0, 1]) rfl ?_
    refine seq_one (op_val (v := .bool false) hf33 rfl rfl rfl rfl rfl rfl (r_eqlC rfl rfl (by decide)) fun ac32 hf34 => ?_)
    refine seq_one (op_val (v := .bool false) hf34 rfl rfl rfl rfl rfl rfl (r_assign rfl) fun ac33 hf35 => ?_)
    refine seq_end ?_
    clear ac31 hf33 ac32 hf34
    refine then_normal ?_
    refine code_if_false hf35 rfl ?_
    refine code_seq ?_
    refine seq_start (l := [0, 1]) rfl ?_
    refine seq_one (op_val (v := .bool false) hf35 rfl rfl rfl rfl rfl rfl (r_eqlC rfl rfl (by decide)) fun ac34 hf36 => ?_)
    refine seq_one (op_val (v := .bool false) hf36 rfl rfl rfl rfl rfl rfl (r_assign rfl) fun ac35 hf37 => ?_)
    refine seq_end ?_
    clear ac33 hf35 ac34 hf36
    refine then_normal ?_
    refine code_if_false hf37 rfl ?_
    refine code_seq ?_
    refine seq_start (l := [0, 1]) rfl ?_
    refine seq_one (op_val (v := .bool true) hf37 rfl rfl rfl rfl rfl rfl (r_eqlC rfl rfl (by decide)) fun ac36 hf38 => ?_)
    refine seq_one (op_val (v := .bool true) hf38 rfl rfl rfl rfl rfl rfl (r_assign rfl) fun ac37 hf39 => ?_)
    refine seq_end ?_
    clear ac35 hf37 ac36 hf38
    refine then_normal ?_
    refine code_if_true hf39 rfl ?_
    refine seq_start (l := [0, 1, 2, 3, 4, 5, 6, 7]) rfl ?_
    refine seq_one (op_val (v := .pointer (some ⟨b, 0, none⟩)) hf39 rfl rfl rfl rfl rfl rfl (r_move rfl) fun ac38 hf40 => ?_)
    refine seq_one (op_val (v := .int .u8 6) hf40 rfl rfl rfl rfl rfl rfl (r_move rfl) fun ac39 hf41 => ?_)
    refine seq_one (op_val (v := .int .u8 0) hf41 rfl rfl rfl rfl rfl rfl (r_rem (c := 0) rfl rfl (by decide) (by rfl)) fun ac40 hf42 => ?_)
    refine seq_one (op_val (v := .int .i64 0) hf42 rfl rfl rfl rfl rfl rfl (r_move rfl) fun ac41 hf43 => ?_)
    refine seq_one (op_val (v := .pointer (some ⟨b, 0, none⟩)) hf43 rfl rfl rfl rfl rfl rfl (r_nilCheck rfl) fun ac42 hf44 => ?_)
    refine seq_one (op_val (v := .pointer (some ⟨b, 10, none⟩)) hf44 rfl rfl rfl rfl rfl rfl (r_fieldAddr fi_41_6 rfl rfl) fun ac43 hf45 => ?_)
    refine seq_one (op_val (v := .pointer (some ⟨b, 10, none⟩)) hf45 rfl rfl rfl rfl rfl rfl (r_indexAddr (i := 0) ar_39 rfl rfl rfl (by decide) rfl) fun ac44 hf46 => ?_)
    refine seq_one (op_store (cs' := #[Value.int .i64 x0, Value.int .i64 x1, Value.int .i64 x2, Value.int .i64 x3, Value.int .i64 x4, Value.int .i64 x5, Value.int .i64 x6, Value.int .u64 x7, Value.int .u64 x8, Value.int .u64 x9, Value.int .i64 0, Value.int .i64 x11, Value.int .i64 x12, Value.int .u8 x13, Value.int .u8 x14, Value.int .u8 x15, Value.int .u8 x16, Value.int .u8 x17, Value.int .u8 x18, Value.int .u8 x19, Value.int .u8 x20, Value.int .u8 x21, Value.int .u8 x22, Value.int .u8 x23, Value.int .u8 x24, Value.int .u8 x25, Value.int .u8 x26, Value.int .u8 x27, Value.int .u8 x28, Value.int .u64 x29, Value.bool x30, Value.int .u64 x31, Value.int .i64 x32, Value.int .u64 x33, Value.int .i64 x34, Value.int .i64 x35, Value.int .i64 x36]) 0 hf46 rfl rfl rfl rfl rfl sz_3 hI1 rfl (ltb rfl) (by kernel_rfl) fun wd2 hI5 => ?_)
    have hI6 : Inv w [(b, #[Value.int .i64 x0, Value.int .i64 x1, Value.int .i64 x2, Value.int .i64 x3, Value.int .i64 x4, Value.int .i64 x5, Value.int .i64 x6, Value.int .u64 x7, Value.int .u64 x8, Value.int .u64 x9, Value.int .i64 0, Value.int .i64 x11, Value.int .i64 x12, Value.int .u8 x13, Value.int .u8 x14, Value.int .u8 x15, Value.int .u8 x16, Value.int .u8 x17, Value.int .u8 x18, Value.int .u8 x19, Value.int .u8 x20, Value.int .u8 x21, Value.int .u8 x22, Value.int .u8 x23, Value.int .u8 x24, Value.int .u8 x25, Value.int .u8 x26, Value.int .u8 x27, Value.int .u8 x28, Value.int .u64 x29, Value.bool x30, Value.int .u64 x31, Value.int .i64 x32, Value.int .u64 x33, Value.int .i64 x34, Value.int .i64 x35, Value.int .i64 x36], 41), (c, #[Value.bool ab], 4)] wd2 := hI5
    refine seq_end ?_
    clear ac37 hf39 ac38 hf40 ac39 hf41 ac40 hf42 ac41 hf43 ac42 hf44 ac43 hf45 hI1 hI5
    refine block_normal ?_
    refine post0 rfl hf46 ⟨rfl, ?_⟩
    have hI7 := Inv.unreadB (A := [(b, #[Value.int .i64 x0, Value.int .i64 x1, Value.int .i64 x2, Value.int .i64 x3, Value.int .i64 x4, Value.int .i64 x5, Value.int .i64 x6, Value.int .u64 x7, Value.int .u64 x8, Value.int .u64 x9, Value.int .i64 0, Value.int .i64 x11, Value.int .i64 x12, Value.int .u8 x13, Value.int .u8 x14, Value.int .u8 x15, Value.int .u8 x16, Value.int .u8 x17, Value.int .u8 x18, Value.int .u8 x19, Value.int .u8 x20, Value.int .u8 x21, Value.int .u8 x22, Value.int .u8 x23, Value.int .u8 x24, Value.int .u8 x25, Value.int .u8 x26, Value.int .u8 x27, Value.int .u8 x28, Value.int .u64 x29, Value.bool x30, Value.int .u64 x31, Value.int .i64 x32, Value.int .u64 x33, Value.int .i64 x34, Value.int .i64 x35, Value.int .i64 x36], 41)]) (B := [(c, #[.bool ab], 4)]) hI6 (fun i x hx => h0_ (i + 1) x hx)
    rw [c6_1]
    exact hI7
set_option maxHeartbeats 8000000 in
theorem spoil_7 (x0 x1 x2 x3 x4 x5 x6 x7 x8 x9 x10 x11 x12 x13 x14 x15 x16 x17 x18 x19 x20 x21 x22 x23 x24 x25 x26 x27 x28 x29 x31 x32 x33 x34 x35 x36 : Int) (x30 : Bool) (ab : Bool) (b c : Nat) (hne : b ≠ c) (w : World) (h0_ : Has [(b, #[Value.int .i64 x0, Value.int .i64 x1, Value.int .i64 x2, Value.int .i64 x3, Value.int .i64 x4, Value.int .i64 x5, Value.int .i64 x6, Value.int .u64 x7, Value.int .u64 x8, Value.int .u64 x9, Value.int .i64 x10, Value.int .i64 x11, Value.int .i64 x12, Value.int .u8 x13, Value.int .u8 x14, Value.int .u8 x15, Value.int .u8 x16, Value.int .u8 x17, Value.int .u8 x18, Value.int .u8 x19, Value.int .u8 x20, Value.int .u8 x21, Value.int .u8 x22, Value.int .u8 x23, Value.int .u8 x24, Value.int .u8 x25, Value.int .u8 x26, Value.int .u8 x27, Value.int .u8 x28, Value.int .u64 x29, Value.bool x30, Value.int .u64 x31, Value.int .i64 x32, Value.int .u64 x33, Value.int .i64 x34, Value.int .i64 x35, Value.int .i64 x36], 41), (c, #[Value.bool ab], 4)] w) : Calls Tryd.prog 32 [.pointer (some ⟨b, 0, none⟩), .int .u8 7, .pointer (some ⟨c, 0, none⟩)].toArray w fun e w' => e = .returned (.tuple #[]) ∧ Inv w [(b, #[Value.int .i64 (sp 7 1 (nF ab) x0), Value.int .i64 (sp 7 2 (nF ab) x1), Value.int .i64 (sp 7 3 ((nF ab) - 1) x2), Value.int .i64 (sp 7 4 (nF ab) x3), Value.int .i64 x4, Value.int .i64 x5, Value.int .i64 (sp 7 5 (nF ab) x6), Value.int .u64 x7, Value.int .u64 x8, Value.int .u64 x9, Value.int .i64 (sp 7 6 (nF ab) x10), Value.int .i64 x11, Value.int .i64 x12, Value.int .u8 x13, Value.int .u8 x14, Value.int .u8 x15, Value.int .u8 x16, Value.int .u8 x17, Value.int .u8 x18, Value.int .u8 x19, Value.int .u8 (sp 7 7 4 x20), Value.int .u8 x21, Value.int .u8 x22, Value.int .u8 x23, Value.int .u8 x24, Value.int .u8 x25, Value.int .u8 x26, Value.int .u8 x27, Value.int .u8 x28, Value.int .u64 (sp 7 8 1125899906842625 x29), Value.bool x30, Value.int .u64 x31, Value.int .i64 (sp 7 9 (nF ab) x32), Value.int .u64 x33, Value.int .i64 (sp 7 10 (nF ab) x34), Value.int .i64 x35, Value.int .i64 (sp 7 11 (nF ab) x36)], 41)] w' := by
  have hI1 := Inv.startS h0_ (by simp [hne])
  refine enter (n := 77) Tryd.func32 rfl rfl rfl ?_
  intro ac1 hf1
  refine code_seq ?_
  refine seq_start (l := [0]) rfl ?_
  refine seq_one (op_val (v := .int .i64 0) hf1 rfl rfl rfl rfl rfl rfl (r_assign rfl) fun ac2 hf2 => ?_)
  refine seq_end ?_
  clear ac1 hf1
  refine then_normal ?_
  refine code_seq ?_
  refine code_seq ?_
  refine seq_start (l := [0]) rfl ?_
  refine seq_one (op_val (v := .bool ab) hf2 rfl rfl rfl rfl rfl rfl (r_load ag_4 rfl (hI1.at 1 rfl) rfl) fun ac3 hf3 => ?_)
  refine seq_end ?_
  clear ac2 hf2
  refine then_normal ?_
  refine code_if hf3 rfl (fun c6_1 => ?_) (fun c6_1 => ?_)
  · have hf4 := hf3.know 6 (u := .bool true) rfl (congrArg Value.bool c6_1)
    refine seq_start (l := [0]) rfl ?_
    refine seq_one (op_val (v := .int .i64 1073741824) hf4 rfl rfl rfl rfl rfl rfl (r_assign rfl) fun ac4 hf5 => ?_)
    refine seq_end ?_
    clear hf3 ac3 hf4
    refine then_normal ?_
    refine code_seq ?_
    refine seq_start (l := [0]) rfl ?_
    refine seq_one (op_val (v := .int .u8 7) hf5 rfl rfl rfl rfl rfl rfl (r_move rfl) fun ac5 hf6 => ?_)
    refine seq_end ?_
    clear ac4 hf5
    refine then_normal ?_
    refine wp_block ?_
    refine code_seq ?_
    refine seq_start (l := [0, 1]) rfl ?_
    refine seq_one (op_val (v := .bool false) hf6 rfl rfl rfl rfl rfl rfl (r_eqlC rfl rfl (by decide)) fun ac6 hf7 => ?_)
    refine seq_one (op_val (v := .bool false) hf7 rfl rfl rfl rfl rfl rfl (r_assign rfl) fun ac7 hf8 => ?_)
    refine seq_end ?_
    clear ac5 hf6 ac6 hf7
    refine then_normal ?_
    refine code_if_false hf8 rfl ?_
    refine code_seq ?_
    refine seq_start (l := [0, 1]) rfl ?_
    refine seq_one (op_val (v := .bool false) hf8 rfl rfl rfl rfl rfl rfl (r_eqlC rfl rfl (by decide)) fun ac8 hf9 => ?_)
    refine seq_one (op_val (v := .bool false) hf9 rfl rfl rfl rfl rfl rfl (r_assign rfl) fun ac9 hf10 => ?_)
    refine seq_end ?_
    clear ac7 hf8 ac8 hf9
    refine then_normal ?_
    refine code_if_false hf10 rfl ?_
    refine code_seq ?_
    refine seq_start (l := [0, 1]) rfl ?_
    refine seq_one (op_val (v := .bool false) hf10 rfl rfl rfl rfl rfl rfl (r_eqlC rfl rfl (by decide)) fun ac10 hf11 => ?_)
    refine seq_one (op_val (v := .bool false) hf11 rfl rfl rfl rfl rfl rfl (r_assign rfl) fun ac11 hf12 => ?_)
    refine seq_end ?_
    clear ac9 hf10 ac10 hf11
    refine then_normal ?_
    refine code_if_false hf12 rfl ?_
    refine code_seq ?_
    refine seq_start (l := [0, 1]) rfl ?_
    refine seq_one (op_val (v := .bool false) hf12 rfl rfl rfl rfl rfl rfl (r_eqlC rfl rfl (by decide)) fun ac12 hf13 => ?_)
    refine seq_one (op_val (v := .bool false) hf13 rfl rfl rfl rfl rfl rfl (r_assign rfl) fun ac13 hf14 => ?_)
    refine seq_end ?_
    clear ac11 hf12 ac12 hf13
    refine then_normal ?_
    refine code_if_false hf14 rfl ?_
    refine code_seq ?_
    refine seq_start (l := [0, 1]) rfl ?_
    refine seq_one (op_val (v := .bool false) hf14 rfl rfl rfl rfl rfl rfl (r_eqlC rfl rfl (by decide)) fun ac14 hf15 => ?_)
    refine seq_one (op_val (v := .bool false) hf15 rfl rfl rfl rfl rfl rfl (r_assign rfl) fun ac15 hf16 => ?_)
    refine seq_end ?_
    clear ac13 hf14 ac14 hf15
    refine then_normal ?_
    refine code_if_false hf16 rfl ?_
    refine code_seq ?_
    refine seq_start (l := [0, 1]) rfl ?_
    refine seq_one (op_val (v := .bool false) hf16 rfl rfl rfl rfl rfl rfl (r_eqlC rfl rfl (by decide)) fun ac16 hf17 => ?_)
    refine seq_one (op_val (v := .bool false) hf17 rfl rfl rfl rfl rfl rfl (r_assign rfl) fun ac17 hf18 => ?_)
    refine seq_end ?_
    clear ac15 hf16 ac16 hf17
    refine then_normal ?_
    refine code_if_false hf18 rfl ?_
    refine code_seq ?_
    refine seq_start (l := [0, 1]) rfl ?_
    refine seq_one (op_val (v := .bool true) hf18 rfl rfl rfl rfl rfl rfl (r_eqlC rfl rfl (by decide)) fun ac18 hf19 => ?_)
    refine seq_one (op_val (v := .bool true) hf19 rfl rfl rfl rfl rfl rfl (r_assign rfl) fun ac19 hf20 => ?_)
    refine seq_end ?_
    clear ac17 hf18 ac18 hf19
    refine then_normal ?_
    refine code_if_true hf20 rfl ?_
    refine seq_start (l := [0, 1, 2, 3, 4, 5]) rfl ?_
    refine seq_one (op_val (v := .pointer (some ⟨b, 0, none⟩)) hf20 rfl rfl rfl rfl rfl rfl (r_move rfl) fun ac20 hf21 => ?_)
    refine seq_one (op_val (v := .int .u8 7) hf21 rfl rfl rfl rfl rfl rfl (r_move rfl) fun ac21 hf22 => ?_)
    refine seq_one (op_val (v := .pointer (some ⟨b, 0, none⟩)) hf22 rfl rfl rfl rfl rfl rfl (r_nilCheck rfl) fun ac22 hf23 => ?_)
    refine seq_one (op_val (v := .pointer (some ⟨b, 13, none⟩)) hf23 rfl rfl rfl rfl rfl rfl (r_fieldAddr fi_41_7 rfl rfl) fun ac23 hf24 => ?_)
    refine seq_one (op_val (v := .pointer (some ⟨b, 20, none⟩)) hf24 rfl rfl rfl rfl rfl rfl (r_indexAddr (i := 7) ar_22 rfl rfl rfl (by decide) rfl) fun ac24 hf25 => ?_)
    refine seq_one (op_store (cs' := #[Value.int .i64 x0, Value.int .i64 x1, Value.int .i64 x2, Value.int .i64 x3, Value.int .i64 x4, Value.int .i64 x5, Value.int .i64 x6, Value.int .u64 x7, Value.int .u64 x8, Value.int .u64 x9, Value.int .i64 x10, Value.int .i64 x11, Value.int .i64 x12, Value.int .u8 x13, Value.int .u8 x14, Value.int .u8 x15, Value.int .u8 x16, Value.int .u8 x17, Value.int .u8 x18, Value.int .u8 x19, Value.int .u8 4, Value.int .u8 x21, Value.int .u8 x22, Value.int .u8 x23, Value.int .u8 x24, Value.int .u8 x25, Value.int .u8 x26, Value.int .u8 x27, Value.int .u8 x28, Value.int .u64 x29, Value.bool x30, Value.int .u64 x31, Value.int .i64 x32, Value.int .u64 x33, Value.int .i64 x34, Value.int .i64 x35, Value.int .i64 x36]) 0 hf25 rfl rfl rfl rfl rfl sz_5 hI1 rfl (ltb rfl) (by kernel_rfl) fun wd1 hI2 => ?_)
    have hI3 : Inv w [(b, #[Value.int .i64 x0, Value.int .i64 x1, Value.int .i64 x2, Value.int .i64 x3, Value.int .i64 x4, Value.int .i64 x5, Value.int .i64 x6, Value.int .u64 x7, Value.int .u64 x8, Value.int .u64 x9, Value.int .i64 x10, Value.int .i64 x11, Value.int .i64 x12, Value.int .u8 x13, Value.int .u8 x14, Value.int .u8 x15, Value.int .u8 x16, Value.int .u8 x17, Value.int .u8 x18, Value.int .u8 x19, Value.int .u8 4, Value.int .u8 x21, Value.int .u8 x22, Value.int .u8 x23, Value.int .u8 x24, Value.int .u8 x25, Value.int .u8 x26, Value.int .u8 x27, Value.int .u8 x28, Value.int .u64 x29, Value.bool x30, Value.int .u64 x31, Value.int .i64 x32, Value.int .u64 x33, Value.int .i64 x34, Value.int .i64 x35, Value.int .i64 x36], 41), (c, #[Value.bool ab], 4)] wd1 := hI2
    refine seq_end ?_
    clear ac19 hf20 ac20 hf21 ac21 hf22 ac22 hf23 ac23 hf24 hI1 hI2
    refine block_normal ?_
    refine post0 rfl hf25 ⟨rfl, ?_⟩
    have hI4 := Inv.unreadB (A := [(b, #[Value.int .i64 x0, Value.int .i64 x1, Value.int .i64 x2, Value.int .i64 x3, Value.int .i64 x4, Value.int .i64 x5, Value.int .i64 x6, Value.int .u64 x7, Value.int .u64 x8, Value.int .u64 x9, Value.int .i64 x10, Value.int .i64 x11, Value.int .i64 x12, Value.int .u8 x13, Value.int .u8 x14, Value.int .u8 x15, Value.int .u8 x16, Value.int .u8 x17, Value.int .u8 x18, Value.int .u8 x19, Value.int .u8 4, Value.int .u8 x21, Value.int .u8 x22, Value.int .u8 x23, Value.int .u8 x24, Value.int .u8 x25, Value.int .u8 x26, Value.int .u8 x27, Value.int .u8 x28, Value.int .u64 x29, Value.bool x30, Value.int .u64 x31, Value.int .i64 x32, Value.int .u64 x33, Value.int .i64 x34, Value.int .i64 x35, Value.int .i64 x36], 41)]) (B := [(c, #[.bool ab], 4)]) hI3 (fun i x hx => h0_ (i + 1) x hx)
    rw [c6_1]
    exact hI4
  · have hf26 := hf3.know 6 (u := .bool false) rfl (congrArg Value.bool c6_1)
    refine wp_skip ?_
    refine then_normal ?_
    refine code_seq ?_
    refine seq_start (l := [0]) rfl ?_
    refine seq_one (op_val (v := .int .u8 7) hf26 rfl rfl rfl rfl rfl rfl (r_move rfl) fun ac25 hf27 => ?_)
    refine seq_end ?_
    clear hf3 ac3 hf26
    refine then_normal ?_
    refine wp_block ?_
    refine code_seq ?_
    refine seq_start (l := [0, 1]) rfl ?_
    refine seq_one (op_val (v := .bool false) hf27 rfl rfl rfl rfl rfl rfl (r_eqlC rfl rfl (by decide)) fun ac26 hf28 => ?_)
    refine seq_one (op_val (v := .bool false) hf28 rfl rfl rfl rfl rfl rfl (r_assign rfl) fun ac27 hf29 => ?_)
    refine seq_end ?_
    clear ac25 hf27 ac26 hf28
    refine then_normal ?_
    refine code_if_false hf29 rfl ?_
    refine code_seq ?_
    refine seq_start (l := [0, 1]) rfl ?_
    refine seq_one (op_val (v := .bool false) hf29 rfl rfl rfl rfl rfl rfl (r_eqlC rfl rfl (by decide)) fun ac28 hf30 => ?_)
    refine seq_one (op_val (v := .bool false) hf30 rfl rfl rfl rfl rfl rfl (r_assign rfl) fun ac29 hf31 => ?_)
    refine seq_end ?_
    clear ac27 hf29 ac28 hf30
    refine then_normal ?_
    refine code_if_false hf31 rfl ?_
    refine code_seq ?_
    refine seq_start (l := [0, 1]) rfl ?_
    refine seq_one (op_val (v := .bool false) hf31 rfl rfl rfl rfl rfl rfl (r_eqlC rfl rfl (by decide)) fun ac30 hf32 => ?_)
    refine seq_one (op_val (v := .bool false) hf32 rfl rfl rfl rfl rfl rfl (r_assign rfl) fun ac31 hf33 => ?_)
    refine seq_end ?_
    clear ac29 hf31 ac30 hf32
    refine then_normal ?_
    refine code_if_false hf33 rfl ?_
    refine code_seq ?_
    refine seq_start (l := [0, 1]) rfl ?_
    refine seq_one (op_val (v := .bool false) hf33 rfl rfl rfl rfl rfl rfl (r_eqlC rfl rfl (by decide)) fun ac32 hf34 => ?_)
    refine seq_one (op_val (v := .bool false) hf34 rfl rfl rfl rfl rfl rfl (r_assign rfl) fun ac33 hf35 => ?_)
    refine seq_end ?_
    clear ac31 hf33 ac32 hf34
    refine then_normal ?_
    refine code_if_false hf35 rfl ?_
    refine code_seq ?_
    refine seq_start (l := [0, 1]) rfl ?_
    refine seq_one (op_val (v := .bool false) hf35 rfl rfl rfl rfl rfl rfl (r_eqlC rfl rfl (by decide)) fun ac34 hf36 => ?_)
    refine seq_one (op_val (v := .bool false) hf36 rfl rfl rfl rfl rfl rfl (r_assign rfl) fun ac35 hf37 => ?_)
    refine seq_end ?_
    clear ac33 hf35 ac34 hf36
    refine then_normal ?_
    refine code_if_false hf37 rfl ?_
    refine code_seq ?_
    refine seq_start (l := [0, 1]) rfl ?_
    refine seq_one (op_val (v := .bool false) hf37 rfl rfl rfl rfl rfl rfl (r_eqlC rfl rfl (by decide)) fun ac36 hf38 => ?_)
    refine seq_one (op_val (v := .bool false) hf38 rfl rfl rfl rfl rfl rfl (r_assign rfl) fun ac37 hf39 => ?_)
    refine seq_end ?_
    clear ac35 hf37 ac36 hf38
    refine then_normal ?_
    refine code_if_false hf39 rfl ?_
    refine code_seq ?_
    refine seq_start (l := [0, 1]) rfl ?_
    refine seq_one (op_val (v := .bool true) hf39 rfl rfl rfl rfl rfl rfl (r_eqlC rfl rfl (by decide)) fun ac38 hf40 => ?_)
    refine seq_one (op_val (v := .bool true) hf40 rfl rfl rfl rfl rfl rfl (r_assign rfl) fun ac39 hf41 => ?_)
    refine seq_end ?_
    clear ac37 hf39 ac38 hf40
    refine then_normal ?_
    refine code_if_true hf41 rfl ?_
    refine seq_start (l := [0, 1, 2, 3, 4, 5]) rfl ?_
    refine seq_one (op_val (v := .pointer (some ⟨b, 0, none⟩)) hf41 rfl rfl rfl rfl rfl rfl (r_move rfl) fun ac40 hf42 => ?_)
    refine seq_one (op_val (v := .int .u8 7) hf42 rfl rfl rfl rfl rfl rfl (r_move rfl) fun ac41 hf43 => ?_)
    refine seq_one (op_val (v := .pointer (some ⟨b, 0, none⟩)) hf43 rfl rfl rfl rfl rfl rfl (r_nilCheck rfl) fun ac42 hf44 => ?_)
    refine seq_one (op_val (v := .pointer (some ⟨b, 13, none⟩)) hf44 rfl rfl rfl rfl rfl rfl (r_fieldAddr fi_41_7 rfl rfl) fun ac43 hf45 => ?_)
    refine seq_one (op_val (v := .pointer (some ⟨b, 20, none⟩)) hf45 rfl rfl rfl rfl rfl rfl (r_indexAddr (i := 7) ar_22 rfl rfl rfl (by decide) rfl) fun ac44 hf46 => ?_)
    refine seq_one (op_store (cs' := #[Value.int .i64 x0, Value.int .i64 x1, Value.int .i64 x2, Value.int .i64 x3, Value.int .i64 x4, Value.int .i64 x5, Value.int .i64 x6, Value.int .u64 x7, Value.int .u64 x8, Value.int .u64 x9, Value.int .i64 x10, Value.int .i64 x11, Value.int .i64 x12, Value.int .u8 x13, Value.int .u8 x14, Value.int .u8 x15, Value.int .u8 x16, Value.int .u8 x17, Value.int .u8 x18, Value.int .u8 x19, Value.int .u8 4, Value.int .u8 x21, Value.int .u8 x22, Value.int .u8 x23, Value.int .u8 x24, Value.int .u8 x25, Value.int .u8 x26, Value.int .u8 x27, Value.int .u8 x28, Value.int .u64 x29, Value.bool x30, Value.int .u64 x31, Value.int .i64 x32, Value.int .u64 x33, Value.int .i64 x34, Value.int .i64 x35, Value.int .i64 x36]) 0 hf46 rfl rfl rfl rfl rfl sz_5 hI1 rfl (ltb rfl) (by kernel_rfl) fun wd2 hI5 => ?_)
    have hI6 : Inv w [(b, #[Value.int .i64 x0, Value.int .i64 x1, Value.int .i64 x2, Value.int .i64 x3, Value.int .i64 x4, Value.int .i64 x5, Value.int .i64 x6, Value.int .u64 x7, Value.int .u64 x8, Value.int .u64 x9, Value.int .i64 x10, Value.int .i64 x11, Value.int .i64 x12, Value.int .u8 x13, Value.int .u8 x14, Value.int .u8 x15, Value.int .u8 x16, Value.int .u8 x17, Value.int .u8 x18, Value.int .u8 x19, Value.int .u8 4, Value.int .u8 x21, Value.int .u8 x22, Value.int .u8 x23, Value.int .u8 x24, Value.int .u8 x25, Value.int .u8 x26, Value.int .u8 x27, Value.int .u8 x28, Value.int .u64 x29, Value.bool x30, Value.int .u64 x31, Value.int .i64 x32, Value.int .u64 x33, Value.int .i64 x34, Value.int .i64 x35, Value.int .i64 x36], 41), (c, #[Value.bool ab], 4)] wd2 := hI5
    refine seq_end ?_
    clear ac39 hf41 ac40 hf42 ac41 hf43 ac42 hf44 ac43 hf45 hI1 hI5
    refine block_normal ?_
    refine post0 rfl hf46 ⟨rfl, ?_⟩
    have hI7 := Inv.unreadB (A := [(b, #[Value.int .i64 x0, Value.int .i64 x1, Value.int .i64 x2, Value.int .i64 x3, Value.int .i64 x4, Value.int .i64 x5, Value.int .i64 x6, Value.int .u64 x7, Value.int .u64 x8, Value.int .u64 x9, Value.int .i64 x10, Value.int .i64 x11, Value.int .i64 x12, Value.int .u8 x13, Value.int .u8 x14, Value.int .u8 x15, Value.int .u8 x16, Value.int .u8 x17, Value.int .u8 x18, Value.int .u8 x19, Value.int .u8 4, Value.int .u8 x21, Value.int .u8 x22, Value.int .u8 x23, Value.int .u8 x24, Value.int .u8 x25, Value.int .u8 x26, Value.int .u8 x27, Value.int .u8 x28, Value.int .u64 x29, Value.bool x30, Value.int .u64 x31, Value.int .i64 x32, Value.int .u64 x33, Value.int .i64 x34, Value.int .i64 x35, Value.int .i64 x36], 41)]) (B := [(c, #[.bool ab], 4)]) hI6 (fun i x hx => h0_ (i + 1) x hx)
    rw [c6_1]
    exact hI7
set_option maxHeartbeats 8000000 in
theorem spoil_8 (x0 x1 x2 x3 x4 x5 x6 x7 x8 x9 x10 x11 x12 x13 x14 x15 x16 x17 x18 x19 x20 x21 x22 x23 x24 x25 x26 x27 x28 x29 x31 x32 x33 x34 x35 x36 : Int) (x30 : Bool) (ab : Bool) (b c : Nat) (hne : b ≠ c) (w : World) (h0_ : Has [(b, #[Value.int .i64 x0, Value.int .i64 x1, Value.int .i64 x2, Value.int .i64 x3, Value.int .i64 x4, Value.int .i64 x5, Value.int .i64 x6, Value.int .u64 x7, Value.int .u64 x8, Value.int .u64 x9, Value.int .i64 x10, Value.int .i64 x11, Value.int .i64 x12, Value.int .u8 x13, Value.int .u8 x14, Value.int .u8 x15, Value.int .u8 x16, Value.int .u8 x17, Value.int .u8 x18, Value.int .u8 x19, Value.int .u8 x20, Value.int .u8 x21, Value.int .u8 x22, Value.int .u8 x23, Value.int .u8 x24, Value.int .u8 x25, Value.int .u8 x26, Value.int .u8 x27, Value.int .u8 x28, Value.int .u64 x29, Value.bool x30, Value.int .u64 x31, Value.int .i64 x32, Value.int .u64 x33, Value.int .i64 x34, Value.int .i64 x35, Value.int .i64 x36], 41), (c, #[Value.bool ab], 4)] w) : Calls Tryd.prog 32 [.pointer (some ⟨b, 0, none⟩), .int .u8 8, .pointer (some ⟨c, 0, none⟩)].toArray w fun e w' => e = .returned (.tuple #[]) ∧ Inv w [(b, #[Value.int .i64 (sp 8 1 (nF ab) x0), Value.int .i64 (sp 8 2 (nF ab) x1), Value.int .i64 (sp 8 3 ((nF ab) - 1) x2), Value.int .i64 (sp 8 4 (nF ab) x3), Value.int .i64 x4, Value.int .i64 x5, Value.int .i64 (sp 8 5 (nF ab) x6), Value.int .u64 x7, Value.int .u64 x8, Value.int .u64 x9, Value.int .i64 (sp 8 6 (nF ab) x10), Value.int .i64 x11, Value.int .i64 x12, Value.int .u8 x13, Value.int .u8 x14, Value.int .u8 x15, Value.int .u8 x16, Value.int .u8 x17, Value.int .u8 x18, Value.int .u8 x19, Value.int .u8 (sp 8 7 4 x20), Value.int .u8 x21, Value.int .u8 x22, Value.int .u8 x23, Value.int .u8 x24, Value.int .u8 x25, Value.int .u8 x26, Value.int .u8 x27, Value.int .u8 x28, Value.int .u64 (sp 8 8 1125899906842625 x29), Value.bool x30, Value.int .u64 x31, Value.int .i64 (sp 8 9 (nF ab) x32), Value.int .u64 x33, Value.int .i64 (sp 8 10 (nF ab) x34), Value.int .i64 x35, Value.int .i64 (sp 8 11 (nF ab) x36)], 41)] w' := by
  have hI1 := Inv.startS h0_ (by simp [hne])
  refine enter (n := 77) Tryd.func32 rfl rfl rfl ?_
  intro ac1 hf1
  refine code_seq ?_
  refine seq_start (l := [0]) rfl ?_
  refine seq_one (op_val (v := .int .i64 0) hf1 rfl rfl rfl rfl rfl rfl (r_assign rfl) fun ac2 hf2 => ?_)
  refine seq_end ?_
  clear ac1 hf1
  refine then_normal ?_
  refine code_seq ?_
  refine code_seq ?_
  refine seq_start (l := [0]) rfl ?_
  refine seq_one (op_val (v := .bool ab) hf2 rfl rfl rfl rfl rfl rfl (r_load ag_4 rfl (hI1.at 1 rfl) rfl) fun ac3 hf3 => ?_)
  refine seq_end ?_
  clear ac2 hf2
  refine then_normal ?_
  refine code_if hf3 rfl (fun c6_1 => ?_) (fun c6_1 => ?_)
  · have hf4 := hf3.know 6 (u := .bool true) rfl (congrArg Value.bool c6_1)
    refine seq_start (l := [0]) rfl ?_
    refine seq_one (op_val (v := .int .i64 1073741824) hf4 rfl rfl rfl rfl rfl rfl (r_assign rfl) fun ac4 hf5 => ?_)
    refine seq_end ?_
    clear hf3 ac3 hf4
    refine then_normal ?_
    refine code_seq ?_
    refine seq_start (l := [0]) rfl ?_
    refine seq_one (op_val (v := .int .u8 8) hf5 rfl rfl rfl rfl rfl rfl (r_move rfl) fun ac5 hf6 => ?_)
    refine seq_end ?_
    clear ac4 hf5
    refine then_normal ?_
    refine wp_block ?_
    refine code_seq ?_
    refine seq_start (l := [0, 1]) rfl ?_
    refine seq_one (op_val (v := .bool false) hf6 rfl rfl rfl rfl rfl rfl (r_eqlC rfl rfl (by decide)) fun ac6 hf7 => ?_)
    refine seq_one (op_val (v := .bool false) hf7 rfl rfl rfl rfl rfl rfl (r_assign rfl) fun ac7 hf8 => ?_)
    refine seq_end ?_
    clear ac5 hf6 ac6 hf7
    refine then_normal ?_
    refine code_if_false hf8 rfl ?_
    refine code_seq ?_
    refine seq_start (l := [0, 1]) rfl ?_
    refine seq_one (op_val (v := .bool false) hf8 rfl rfl rfl rfl rfl rfl (r_eqlC rfl rfl (by decide)) fun ac8 hf9 => ?_)
    refine seq_one (op_val (v := .bool false) hf9 rfl rfl rfl rfl rfl rfl (r_assign rfl) fun ac9 hf10 => ?_)
    refine seq_end ?_
    clear ac7 hf8 ac8 hf9
    refine then_normal ?_
    refine code_if_false hf10 rfl ?_
    refine code_seq ?_
    refine seq_start (l := [0, 1]) rfl ?_
    refine seq_one (op_val (v := .bool false) hf10 rfl rfl rfl rfl rfl rfl (r_eqlC rfl rfl (by decide)) fun ac10 hf11 => ?_)
    refine seq_one (op_val (v := .bool false) hf11 rfl rfl rfl rfl rfl rfl (r_assign rfl) fun ac11 hf12 => ?_)
    refine seq_end ?_
    clear ac9 hf10 ac10 hf11
    refine then_normal ?_
    refine code_if_false hf12 rfl ?_
    refine code_seq ?_
    refine seq_start (l := [0, 1]) rfl ?_
    refine seq_one (op_val (v := .bool false) hf12 rfl rfl rfl rfl rfl rfl (r_eqlC rfl rfl (by decide)) fun ac12 hf13 => ?_)
    refine seq_one (op_val (v := .bool false) hf13 rfl rfl rfl rfl rfl rfl (r_assign rfl) fun ac13 hf14 => ?_)
    refine seq_end ?_
    clear ac11 hf12 ac12 hf13
    refine then_normal ?_
    refine code_if_false hf14 rfl ?_
    refine code_seq ?_
    refine seq_start (l := [0, 1]) rfl ?_
    refine seq_one (op_val (v := .bool false) hf14 rfl rfl rfl rfl rfl rfl (r_eqlC rfl rfl (by decide)) fun ac14 hf15 => ?_)
    refine seq_one (op_val (v := .bool false) hf15 rfl rfl rfl rfl rfl rfl (r_assign rfl) fun ac15 hf16 => ?_)
    refine seq_end ?_
    clear ac13 hf14 ac14 hf15
    refine then_normal ?_
    refine code_if_false hf16 rfl ?_
    refine code_seq ?_
    refine seq_start (l := [0, 1]) rfl ?_
    refine seq_one (op_val (v := .bool false) hf16 rfl rfl rfl rfl rfl rfl (r_eqlC rfl rfl (by decide)) fun ac16 hf17 => ?_)
    refine seq_one (op_val (v := .bool false) hf17 rfl rfl rfl rfl rfl rfl (r_assign rfl) fun ac17 hf18 => ?_)
    refine seq_end ?_
    clear ac15 hf16 ac16 hf17
    refine then_normal ?_
    refine code_if_false hf18 rfl ?_
    refine code_seq ?_
    refine seq_start (l := [0, 1]) rfl ?_
    refine seq_one (op_val (v := .bool false) hf18 rfl rfl rfl rfl rfl rfl (r_eqlC rfl rfl (by decide)) fun ac18 hf19 => ?_)
    refine seq_one (op_val (v := .bool false) hf19 rfl rfl rfl rfl rfl rfl (r_assign rfl) fun ac19 hf20 => ?_)
    refine seq_end ?_
    clear ac17 hf18 ac18 hf19
    refine then_normal ?_
    refine code_if_false hf20 rfl ?_
    refine code_seq ?_
    refine seq_start (l := [0, 1]) rfl ?_
    refine seq_one (op_val (v := .bool true) hf20 rfl rfl rfl rfl rfl rfl (r_eqlC rfl rfl (by decide)) fun ac20 hf21 => ?_)
    refine seq_one (op_val (v := .bool true) hf21 rfl rfl rfl rfl rfl rfl (r_assign rfl) fun ac21 hf22 => ?_)
    refine seq_end ?_
    clear ac19 hf20 ac20 hf21
    refine then_normal ?_
    refine code_if_true hf22 rfl ?_
    refine seq_start (l := [0, 1, 2, 3]) rfl ?_
    refine seq_one (op_val (v := .pointer (some ⟨b, 0, none⟩)) hf22 rfl rfl rfl rfl rfl rfl (r_move rfl) fun ac22 hf23 => ?_)
    refine seq_one (op_val (v := .pointer (some ⟨b, 0, none⟩)) hf23 rfl rfl rfl rfl rfl rfl (r_nilCheck rfl) fun ac23 hf24 => ?_)
    refine seq_one (op_val (v := .pointer (some ⟨b, 29, none⟩)) hf24 rfl rfl rfl rfl rfl rfl (r_fieldAddr fi_41_8 rfl rfl) fun ac24 hf25 => ?_)
    refine seq_one (op_store (cs' := #[Value.int .i64 x0, Value.int .i64 x1, Value.int .i64 x2, Value.int .i64 x3, Value.int .i64 x4, Value.int .i64 x5, Value.int .i64 x6, Value.int .u64 x7, Value.int .u64 x8, Value.int .u64 x9, Value.int .i64 x10, Value.int .i64 x11, Value.int .i64 x12, Value.int .u8 x13, Value.int .u8 x14, Value.int .u8 x15, Value.int .u8 x16, Value.int .u8 x17, Value.int .u8 x18, Value.int .u8 x19, Value.int .u8 x20, Value.int .u8 x21, Value.int .u8 x22, Value.int .u8 x23, Value.int .u8 x24, Value.int .u8 x25, Value.int .u8 x26, Value.int .u8 x27, Value.int .u8 x28, Value.int .u64 1125899906842625, Value.bool x30, Value.int .u64 x31, Value.int .i64 x32, Value.int .u64 x33, Value.int .i64 x34, Value.int .i64 x35, Value.int .i64 x36]) 0 hf25 rfl rfl rfl rfl rfl sz_36 hI1 rfl (ltb rfl) (by kernel_rfl) fun wd1 hI2 => ?_)
    have hI3 : Inv w [(b, #[Value.int .i64 x0, Value.int .i64 x1, Value.int .i64 x2, Value.int .i64 x3, Value.int .i64 x4, Value.int .i64 x5, Value.int .i64 x6, Value.int .u64 x7, Value.int .u64 x8, Value.int .u64 x9, Value.int .i64 x10, Value.int .i64 x11, Value.int .i64 x12, Value.int .u8 x13, Value.int .u8 x14, Value.int .u8 x15, Value.int .u8 x16, Value.int .u8 x17, Value.int .u8 x18, Value.int .u8 x19, Value.int .u8 x20, Value.int .u8 x21, Value.int .u8 x22, Value.int .u8 x23, Value.int .u8 x24, Value.int .u8 x25, Value.int .u8 x26, Value.int .u8 x27, Value.int .u8 x28, Value.int .u64 1125899906842625, Value.bool x30, Value.int .u64 x31, Value.int .i64 x32, Value.int .u64 x33, Value.int .i64 x34, Value.int .i64 x35, Value.int .i64 x36], 41), (c, #[Value.bool ab], 4)] wd1 := hI2
    refine seq_end ?_
    clear ac21 hf22 ac22 hf23 ac23 hf24 hI1 hI2
    refine block_normal ?_
    refine post0 rfl hf25 ⟨rfl, ?_⟩
    have hI4 := Inv.unreadB (A := [(b, #[Value.int .i64 x0, Value.int .i64 x1, Value.int .i64 x2, Value.int .i64 x3, Value.int .i64 x4, Value.int .i64 x5, Value.int .i64 x6, Value.int .u64 x7, Value.int .u64 x8, Value.int .u64 x9, Value.int .i64 x10, Value.int .i64 x11, Value.int .i64 x12, Value.int .u8 x13, Value.int .u8 x14, Value.int .u8 x15, Value.int .u8 x16, Value.int .u8 x17, Value.int .u8 x18, Value.int .u8 x19, Value.int .u8 x20, Value.int .u8 x21, Value.int .u8 x22, Value.int .u8 x23, Value.int .u8 x24, Value.int .u8 x25, Value.int .u8 x26, Value.int .u8 x27, Value.int .u8 x28, Value.int .u64 1125899906842625, Value.bool x30, Value.int .u64 x31, Value.int .i64 x32, Value.int .u64 x33, Value.int .i64 x34, Value.int .i64 x35, Value.int .i64 x36], 41)]) (B := [(c, #[.bool ab], 4)]) hI3 (fun i x hx => h0_ (i + 1) x hx)
    rw [c6_1]
    exact hI4
  · have hf26 := hf3.know 6 (u := .bool false) rfl (congrArg Value.bool c6_1)
    refine wp_skip ?_
    refine then_normal ?_
    refine code_seq ?_
    refine seq_start (l := [0]) rfl ?_
    refine seq_one (op_val (v := .int .u8 8) hf26 rfl rfl rfl rfl rfl rfl (r_move rfl) fun ac25 hf27 => ?_)
    refine seq_end ?_
    clear hf3 ac3 hf26
    refine then_normal ?_
    refine wp_block ?_
    refine code_seq ?_
    refine seq_start (l := [0, 1]) rfl ?_
    refine seq_one (op_val (v := .bool false) hf27 rfl rfl rfl rfl rfl rfl (r_eqlC rfl rfl (by decide)) fun ac26 hf28 => ?_)
    refine seq_one (op_val (v := .bool false) hf28 rfl rfl rfl rfl rfl rfl (r_assign rfl) fun ac27 hf29 => ?_)
    refine seq_end ?_
    clear ac25 hf27 ac26 hf28
    refine then_normal ?_
    refine code_if_false hf29 rfl ?_
    refine code_seq ?_
    refine seq_start (l := [0, 1]) rfl ?_
    refine seq_one (op_val (v := .bool false) hf29 rfl rfl rfl rfl rfl rfl (r_eqlC rfl rfl (by decide)) fun ac28 hf30 => ?_)
    refine seq_one (op_val (v := .bool false) hf30 rfl rfl rfl rfl rfl rfl (r_assign rfl) fun ac29 hf31 => ?_)
    refine seq_end ?_
    clear ac27 hf29 ac28 hf30
    refine then_normal ?_
    refine code_if_false hf31 rfl ?_
    refine code_seq ?_
    refine seq_start (l := [0, 1]) rfl ?_
    refine seq_one (op_val (v := .bool false) hf31 rfl rfl rfl rfl rfl rfl (r_eqlC rfl rfl (by decide)) fun ac30 hf32 => ?_)
    refine seq_one (op_val (v := .bool false) hf32 rfl rfl rfl rfl rfl rfl (r_assign rfl) fun ac31 hf33 => ?_)
    refine seq_end ?_
    clear ac29 hf31 ac30 hf32
    refine then_normal ?_
    refine code_if_false hf33 rfl ?_
    refine code_seq ?_
    refine seq_start (l := [0, 1]) rfl ?_
    refine seq_one (op_val (v := .bool false) hf33 rfl rfl rfl rfl rfl rfl (r_eqlC rfl rfl (by decide)) fun ac32 hf34 => ?_)
    refine seq_one (op_val (v := .bool false) hf34 rfl rfl rfl rfl rfl rfl (r_assign rfl) fun ac33 hf35 => ?_)
    refine seq_end ?_
    clear ac31 hf33 ac32 hf34
    refine then_normal ?_
    refine code_if_false hf35 rfl ?_
    refine code_seq ?_
    refine seq_start (l := [0, 1]) rfl ?_
    refine seq_one (op_val (v := .bool false) hf35 rfl rfl rfl rfl rfl rfl (r_eqlC rfl rfl (by decide)) fun ac34 hf36 => ?_)
    refine seq_one (op_val (v := .bool false) hf36 rfl rfl rfl rfl rfl rfl (r_assign rfl) fun ac35 hf37 => ?_)
    refine seq_end ?_
    clear ac33 hf35 ac34 hf36
    refine then_normal ?_
    refine code_if_false hf37 rfl ?_
    refine code_seq ?_
    refine seq_start (l := [0, 1]) rfl ?_
    refine seq_one (op_val (v := .bool false) hf37 rfl rfl rfl rfl rfl rfl (r_eqlC rfl rfl (by decide)) fun ac36 hf38 => ?_)
    refine seq_one (op_val (v := .bool false) hf38 rfl rfl rfl rfl rfl rfl (r_assign rfl) fun ac37 hf39 => ?_)
    refine seq_end ?_
    clear ac35 hf37 ac36 hf38
    refine then_normal ?_
    refine code_if_false hf39 rfl ?_
    refine code_seq ?_
    refine seq_start (l := [0, 1]) rfl ?_
    refine seq_one (op_val (v := .bool false) hf39 rfl rfl rfl rfl rfl rfl (r_eqlC rfl rfl (by decide)) fun ac38 hf40 => ?_)
    refine seq_one (op_val (v := .bool false) hf40 rfl rfl rfl rfl rfl rfl (r_assign rfl) fun ac39 hf41 => ?_)
    refine seq_end ?_
    clear ac37 hf39 ac38 hf40
    refine then_normal ?_
    refine code_if_false hf41 rfl ?_
    refine code_seq ?_
    refine seq_start (l := [0, 1]) rfl ?_
    refine seq_one (op_val (v := .bool true) hf41 rfl rfl rfl rfl rfl rfl (r_eqlC rfl rfl (by decide)) fun ac40 hf42 => ?_)
    refine seq_one (op_val (v := .bool true) hf42 rfl rfl rfl rfl rfl rfl (r_assign rfl) fun ac41 hf43 => ?_)
    refine seq_end ?_
    clear ac39 hf41 ac40 hf42
    refine then_normal ?_
    refine code_if_true hf43 rfl ?_
    refine seq_start (l := [0, 1, 2, 3]) rfl ?_
    refine seq_one (op_val (v := .pointer (some ⟨b, 0, none⟩)) hf43 rfl rfl rfl rfl rfl rfl (r_move rfl) fun ac42 hf44 => ?_)
    refine seq_one (op_val (v := .pointer (some ⟨b, 0, none⟩)) hf44 rfl rfl rfl rfl rfl rfl (r_nilCheck rfl) fun ac43 hf45 => ?_)
    refine seq_one (op_val (v := .pointer (some ⟨b, 29, none⟩)) hf45 rfl rfl rfl rfl rfl rfl (r_fieldAddr fi_41_8 rfl rfl) fun ac44 hf46 => ?_)
    refine seq_one (op_store (cs' := #[Value.int .i64 x0, Value.int .i64 x1, Value.int .i64 x2, Value.int .i64 x3, Value.int .i64 x4, Value.int .i64 x5, Value.int .i64 x6, Value.int .u64 x7, Value.int .u64 x8, Value.int .u64 x9, Value.int .i64 x10, Value.int .i64 x11, Value.int .i64 x12, Value.int .u8 x13, Value.int .u8 x14, Value.int .u8 x15, Value.int .u8 x16, Value.int .u8 x17, Value.int .u8 x18, Value.int .u8 x19, Value.int .u8 x20, Value.int .u8 x21, Value.int .u8 x22, Value.int .u8 x23, Value.int .u8 x24, Value.int .u8 x25, Value.int .u8 x26, Value.int .u8 x27, Value.int .u8 x28, Value.int .u64 1125899906842625, Value.bool x30, Value.int .u64 x31, Value.int .i64 x32, Value.int .u64 x33, Value.int .i64 x34, Value.int .i64 x35, Value.int .i64 x36]) 0 hf46 rfl rfl rfl rfl rfl sz_36 hI1 rfl (ltb rfl) (by kernel_rfl) fun wd2 hI5 => ?_)
    have hI6 : Inv w [(b, #[Value.int .i64 x0, Value.int .i64 x1, Value.int .i64 x2, Value.int .i64 x3, Value.int .i64 x4, Value.int .i64 x5, Value.int .i64 x6, Value.int .u64 x7, Value.int .u64 x8, Value.int .u64 x9, Value.int .i64 x10, Value.int .i64 x11, Value.int .i64 x12, Value.int .u8 x13, Value.int .u8 x14, Value.int .u8 x15, Value.int .u8 x16, Value.int .u8 x17, Value.int .u8 x18, Value.int .u8 x19, Value.int .u8 x20, Value.int .u8 x21, Value.int .u8 x22, Value.int .u8 x23, Value.int .u8 x24, Value.int .u8 x25, Value.int .u8 x26, Value.int .u8 x27, Value.int .u8 x28, Value.int .u64 1125899906842625, Value.bool x30, Value.int .u64 x31, Value.int .i64 x32, Value.int .u64 x33, Value.int .i64 x34, Value.int .i64 x35, Value.int .i64 x36], 41), (c, #[Value.bool ab], 4)] wd2 := hI5
    refine seq_end ?_
    clear ac41 hf43 ac42 hf44 ac43 hf45 hI1 hI5
    refine block_normal ?_
    refine post0 rfl hf46 ⟨rfl, ?_⟩
    have hI7 := Inv.unreadB (A := [(b, #[Value.int .i64 x0, Value.int .i64 x1, Value.int .i64 x2, Value.int .i64 x3, Value.int .i64 x4, Value.int .i64 x5, Value.int .i64 x6, Value.int .u64 x7, Value.int .u64 x8, Value.int .u64 x9, Value.int .i64 x10, Value.int .i64 x11, Value.int .i64 x12, Value.int .u8 x13, Value.int .u8 x14, Value.int .u8 x15, Value.int .u8 x16, Value.int .u8 x17, Value.int .u8 x18, Value.int .u8 x19, Value.int .u8 x20, Value.int .u8 x21, Value.int .u8 x22, Value.int .u8 x23, Value.int .u8 x24, Value.int .u8 x25, Value.int .u8 x26, Value.int .u8 x27, Value.int .u8 x28, Value.int .u64 1125899906842625, Value.bool x30, Value.int .u64 x31, Value.int .i64 x32, Value.int .u64 x33, Value.int .i64 x34, Value.int .i64 x35, Value.int .i64 x36], 41)]) (B := [(c, #[.bool ab], 4)]) hI6 (fun i x hx => h0_ (i + 1) x hx)
    rw [c6_1]
    exact hI7
set_option maxHeartbeats 8000000 in
theorem spoil_9 (x0 x1 x2 x3 x4 x5 x6 x7 x8 x9 x10 x11 x12 x13 x14 x15 x16 x17 x18 x19 x20 x21 x22 x23 x24 x25 x26 x27 x28 x29 x31 x32 x33 x34 x35 x36 : Int) (x30 : Bool) (ab : Bool) (b c : Nat) (hne : b ≠ c) (w : World) (h0_ : Has [(b, #[Value.int .i64 x0, Value.int .i64 x1, Value.int .i64 x2, Value.int .i64 x3, Value.int .i64 x4, Value.int .i64 x5, Value.int .i64 x6, Value.int .u64 x7, Value.int .u64 x8, Value.int .u64 x9, Value.int .i64 x10, Value.int .i64 x11, Value.int .i64 x12, Value.int .u8 x13, Value.int .u8 x14, Value.int .u8 x15, Value.int .u8 x16, Value.int .u8 x17, Value.int .u8 x18, Value.int .u8 x19, Value.int .u8 x20, Value.int .u8 x21, Value.int .u8 x22, Value.int .u8 x23, Value.int .u8 x24, Value.int .u8 x25, Value.int .u8 x26, Value.int .u8 x27, Value.int .u8 x28, Value.int .u64 x29, Value.bool x30, Value.int .u64 x31, Value.int .i64 x32, Value.int .u64 x33, Value.int .i64 x34, Value.int .i64 x35, Value.int .i64 x36], 41), (c, #[Value.bool ab], 4)] w) : Calls Tryd.prog 32 [.pointer (some ⟨b, 0, none⟩), .int .u8 9, .pointer (some ⟨c, 0, none⟩)].toArray w fun e w' => e = .returned (.tuple #[]) ∧ Inv w [(b, #[Value.int .i64 (sp 9 1 (nF ab) x0), Value.int .i64 (sp 9 2 (nF ab) x1), Value.int .i64 (sp 9 3 ((nF ab) - 1) x2), Value.int .i64 (sp 9 4 (nF ab) x3), Value.int .i64 x4, Value.int .i64 x5, Value.int .i64 (sp 9 5 (nF ab) x6), Value.int .u64 x7, Value.int .u64 x8, Value.int .u64 x9, Value.int .i64 (sp 9 6 (nF ab) x10), Value.int .i64 x11, Value.int .i64 x12, Value.int .u8 x13, Value.int .u8 x14, Value.int .u8 x15, Value.int .u8 x16, Value.int .u8 x17, Value.int .u8 x18, Value.int .u8 x19, Value.int .u8 (sp 9 7 4 x20), Value.int .u8 x21, Value.int .u8 x22, Value.int .u8 x23, Value.int .u8 x24, Value.int .u8 x25, Value.int .u8 x26, Value.int .u8 x27, Value.int .u8 x28, Value.int .u64 (sp 9 8 1125899906842625 x29), Value.bool x30, Value.int .u64 x31, Value.int .i64 (sp 9 9 (nF ab) x32), Value.int .u64 x33, Value.int .i64 (sp 9 10 (nF ab) x34), Value.int .i64 x35, Value.int .i64 (sp 9 11 (nF ab) x36)], 41)] w' := by
  have hI1 := Inv.startS h0_ (by simp [hne])
  refine enter (n := 77) Tryd.func32 rfl rfl rfl ?_
  intro ac1 hf1
  refine code_seq ?_
  refine seq_start (l := [0]) rfl ?_
  refine seq_one (op_val (v := .int .i64 0) hf1 rfl rfl rfl rfl rfl rfl (r_assign rfl) fun ac2 hf2 => ?_)
  refine seq_end ?_
  clear ac1 hf1
  refine then_normal ?_
  refine code_seq ?_
  refine code_seq ?_
  refine seq_start (l := [0]) rfl ?_
  refine seq_one (op_val (v := .bool ab) hf2 rfl rfl rfl rfl rfl rfl (r_load ag_4 rfl (hI1.at 1 rfl) rfl) fun ac3 hf3 => ?_)
  refine seq_end ?_
  clear ac2 hf2
  refine then_normal ?_
  refine code_if hf3 rfl (fun c6_1 => ?_) (fun c6_1 => ?_)
  · have hf4 := hf3.know 6 (u := .bool true) rfl (congrArg Value.bool c6_1)
    refine seq_start (l := [0]) rfl ?_
    refine seq_one (op_val (v := .int .i64 1073741824) hf4 rfl rfl rfl rfl rfl rfl (r_assign rfl) fun ac4 hf5 => ?_)
    refine seq_end ?_
    clear hf3 ac3 hf4
    refine then_normal ?_
    refine code_seq ?_
    refine seq_start (l := [0]) rfl ?_
    refine seq_one (op_val (v := .int .u8 9) hf5 rfl rfl rfl rfl rfl rfl (r_move rfl) fun ac5 hf6 => ?_)
    refine seq_end ?_
    clear ac4 hf5
    refine then_normal ?_
    refine wp_block ?_
    refine code_seq ?_
    refine seq_start (l := [0, 1]) rfl ?_
    refine seq_one (op_val (v := .bool false) hf6 rfl rfl rfl rfl rfl rfl (r_eqlC rfl rfl (by decide)) fun ac6 hf7 => ?_)
    refine seq_one (op_val (v := .bool false) hf7 rfl rfl rfl rfl rfl rfl (r_assign rfl) fun ac7 hf8 => ?_)
    refine seq_end ?_
    clear ac5 hf6 ac6 hf7
    refine then_normal ?_
    refine code_if_false hf8 rfl ?_
    refine code_seq ?_
    refine seq_start (l := [0, 1]) rfl ?_
    refine seq_one (op_val (v := .bool false) hf8 rfl rfl rfl rfl rfl rfl (r_eqlC rfl rfl (by decide)) fun ac8 hf9 => ?_)
    refine seq_one (op_val (v := .bool false) hf9 rfl rfl rfl rfl rfl rfl (r_assign rfl) fun ac9 hf10 => ?_)
    refine seq_end ?_
    clear ac7 hf8 ac8 hf9
    refine then_normal ?_
    refine code_if_false hf10 rfl ?_
    refine code_seq ?_
    refine seq_start (l := [0, 1]) rfl ?_
    refine seq_one (op_val (v := .bool false) hf10 rfl rfl rfl rfl rfl rfl (r_eqlC rfl rfl (by decide)) fun ac10 hf11 => ?_)
    refine seq_one (op_val (v := .bool false) hf11 rfl rfl rfl rfl rfl rfl (r_assign rfl) fun ac11 hf12 => ?_)
    refine seq_end ?_
    clear ac9 hf10 ac10 hf11
    refine then_normal ?_
    refine code_if_false hf12 rfl ?_
    refine code_seq ?_
    refine seq_start (l := [0, 1]) rfl ?_
    refine seq_one (op_val (v := .bool false) hf12 rfl rfl rfl rfl rfl rfl (r_eqlC rfl rfl (by decide)) fun ac12 hf13 => ?_)
    refine seq_one (op_val (v := .bool false) hf13 rfl rfl rfl rfl rfl rfl (r_assign rfl) fun ac13 hf14 => ?_)
    refine seq_end ?_
    clear ac11 hf12 ac12 hf13
    refine then_normal ?_
    refine code_if_false hf14 rfl ?_
    refine code_seq ?_
    refine seq_start (l := [0, 1]) rfl ?_
    refine seq_one (op_val (v := .bool false) hf14 rfl rfl rfl rfl rfl rfl (r_eqlC rfl rfl (by decide)) fun ac14 hf15 => ?_)
    refine seq_one (op_val (v := .bool false) hf15 rfl rfl rfl rfl rfl rfl (r_assign rfl) fun ac15 hf16 => ?_)
    refine seq_end ?_
    clear ac13 hf14 ac14 hf15
    refine then_normal ?_
    refine code_if_false hf16 rfl ?_
    refine code_seq ?_
    refine seq_start (l := [0, 1]) rfl ?_
    refine seq_one (op_val (v := .bool false) hf16 rfl rfl rfl rfl rfl rfl (r_eqlC rfl rfl (by decide)) fun ac16 hf17 => ?_)
    refine seq_one (op_val (v := .bool false) hf17 rfl rfl rfl rfl rfl rfl (r_assign rfl) fun ac17 hf18 => ?_)
    refine seq_end ?_
    clear ac15 hf16 ac16 hf17
    refine then_normal ?_
    refine code_if_false hf18 rfl ?_
    refine code_seq ?_
    refine seq_start (l := [0, 1]) rfl ?_
    refine seq_one (op_val (v := .bool false) hf18 rfl rfl rfl rfl rfl rfl (r_eqlC rfl rfl (by decide)) fun ac18 hf19 => ?_)
    refine seq_one (op_val (v := .bool false) hf19 rfl rfl rfl rfl rfl rfl (r_assign rfl) fun ac19 hf20 => ?_)
    refine seq_end ?_
    clear ac17 hf18 ac18 hf19
    refine then_normal ?_
    refine code_if_false hf20 rfl ?_
    refine code_seq ?_
    refine seq_start (l := [0, 1]) rfl ?_
    refine seq_one (op_val (v := .bool false) hf20 rfl rfl rfl rfl rfl rfl (r_eqlC rfl rfl (by decide)) fun ac20 hf21 => ?_)
    refine seq_one (op_val (v := .bool false) hf21 rfl rfl rfl rfl rfl rfl (r_assign rfl) fun ac21 hf22 => ?_)
    refine seq_end ?_
    clear ac19 hf20 ac20 hf21
    refine then_normal ?_
    refine code_if_false hf22 rfl ?_
    refine code_seq ?_
    refine seq_start (l := [0, 1]) rfl ?_
    refine seq_one (op_val (v := .bool true) hf22 rfl rfl rfl rfl rfl rfl (r_eqlC rfl rfl (by decide)) fun ac22 hf23 => ?_)
    refine seq_one (op_val (v := .bool true) hf23 rfl rfl rfl rfl rfl rfl (r_assign rfl) fun ac23 hf24 => ?_)
    refine seq_end ?_
    clear ac21 hf22 ac22 hf23
    refine then_normal ?_
    refine code_if_true hf24 rfl ?_
    refine seq_start (l := [0, 1, 2, 3, 4]) rfl ?_
    refine seq_one (op_val (v := .pointer (some ⟨b, 0, none⟩)) hf24 rfl rfl rfl rfl rfl rfl (r_move rfl) fun ac24 hf25 => ?_)
    refine seq_one (op_val (v := .int .i64 1073741824) hf25 rfl rfl rfl rfl rfl rfl (r_move rfl) fun ac25 hf26 => ?_)
    refine seq_one (op_val (v := .pointer (some ⟨b, 0, none⟩)) hf26 rfl rfl rfl rfl rfl rfl (r_nilCheck rfl) fun ac26 hf27 => ?_)
    refine seq_one (op_val (v := .pointer (some ⟨b, 32, none⟩)) hf27 rfl rfl rfl rfl rfl rfl (r_fieldAddr fi_41_11 rfl rfl) fun ac27 hf28 => ?_)
    refine seq_one (op_store (cs' := #[Value.int .i64 x0, Value.int .i64 x1, Value.int .i64 x2, Value.int .i64 x3, Value.int .i64 x4, Value.int .i64 x5, Value.int .i64 x6, Value.int .u64 x7, Value.int .u64 x8, Value.int .u64 x9, Value.int .i64 x10, Value.int .i64 x11, Value.int .i64 x12, Value.int .u8 x13, Value.int .u8 x14, Value.int .u8 x15, Value.int .u8 x16, Value.int .u8 x17, Value.int .u8 x18, Value.int .u8 x19, Value.int .u8 x20, Value.int .u8 x21, Value.int .u8 x22, Value.int .u8 x23, Value.int .u8 x24, Value.int .u8 x25, Value.int .u8 x26, Value.int .u8 x27, Value.int .u8 x28, Value.int .u64 x29, Value.bool x30, Value.int .u64 x31, Value.int .i64 1073741824, Value.int .u64 x33, Value.int .i64 x34, Value.int .i64 x35, Value.int .i64 x36]) 0 hf28 rfl rfl rfl rfl rfl sz_3 hI1 rfl (ltb rfl) (by kernel_rfl) fun wd1 hI2 => ?_)
    have hI3 : Inv w [(b, #[Value.int .i64 x0, Value.int .i64 x1, Value.int .i64 x2, Value.int .i64 x3, Value.int .i64 x4, Value.int .i64 x5, Value.int .i64 x6, Value.int .u64 x7, Value.int .u64 x8, Value.int .u64 x9, Value.int .i64 x10, Value.int .i64 x11, Value.int .i64 x12, Value.int .u8 x13, Value.int .u8 x14, Value.int .u8 x15, Value.int .u8 x16, Value.int .u8 x17, Value.int .u8 x18, Value.int .u8 x19, Value.int .u8 x20, Value.int .u8 x21, Value.int .u8 x22, Value.int .u8 x23, Value.int .u8 x24, Value.int .u8 x25, Value.int .u8 x26, Value.int .u8 x27, Value.int .u8 x28, Value.int .u64 x29, Value.bool x30, Value.int .u64 x31, Value.int .i64 1073741824, Value.int .u64 x33, Value.int .i64 x34, Value.int .i64 x35, Value.int .i64 x36], 41), (c, #[Value.bool ab], 4)] wd1 := hI2
    refine seq_end ?_
    clear ac23 hf24 ac24 hf25 ac25 hf26 ac26 hf27 hI1 hI2
    refine block_normal ?_
    refine post0 rfl hf28 ⟨rfl, ?_⟩
    have hI4 := Inv.unreadB (A := [(b, #[Value.int .i64 x0, Value.int .i64 x1, Value.int .i64 x2, Value.int .i64 x3, Value.int .i64 x4, Value.int .i64 x5, Value.int .i64 x6, Value.int .u64 x7, Value.int .u64 x8, Value.int .u64 x9, Value.int .i64 x10, Value.int .i64 x11, Value.int .i64 x12, Value.int .u8 x13, Value.int .u8 x14, Value.int .u8 x15, Value.int .u8 x16, Value.int .u8 x17, Value.int .u8 x18, Value.int .u8 x19, Value.int .u8 x20, Value.int .u8 x21, Value.int .u8 x22, Value.int .u8 x23, Value.int .u8 x24, Value.int .u8 x25, Value.int .u8 x26, Value.int .u8 x27, Value.int .u8 x28, Value.int .u64 x29, Value.bool x30, Value.int .u64 x31, Value.int .i64 1073741824, Value.int .u64 x33, Value.int .i64 x34, Value.int .i64 x35, Value.int .i64 x36], 41)]) (B := [(c, #[.bool ab], 4)]) hI3 (fun i x hx => h0_ (i + 1) x hx)
    rw [c6_1]
    exact hI4
  · have hf29 := hf3.know 6 (u := .bool false) rfl (congrArg Value.bool c6_1)
    refine wp_skip ?_
    refine then_normal ?_
    refine code_seq ?_
    refine seq_start (l := [0]) rfl ?_
    refine seq_one (op_val (v := .int .u8 9) hf29 rfl rfl rfl rfl rfl rfl (r_move rfl) fun ac28 hf30 => ?_)
    refine seq_end ?_
    clear hf3 ac3 hf29
    refine then_normal ?_
    refine wp_block ?_
    refine code_seq ?_
    refine seq_start (l := [0, 1]) rfl ?_
    refine seq_one (op_val (v := .bool false) hf30 rfl rfl rfl rfl rfl rfl (r_eqlC rfl rfl (by decide)) fun ac29 hf31 => ?_)
    refine seq_one (op_val (v := .bool false) hf31 rfl rfl rfl rfl rfl rfl (r_assign rfl) fun ac30 hf32 => ?_)
    refine seq_end ?_
    clear ac28 hf30 ac29 hf31
    refine then_normal ?_
    refine code_if_false hf32 rfl ?_
    refine code_seq ?_
    refine seq_start (l := [0, 1]) rfl ?_
    refine seq_one (op_val (v := .bool false) hf32 rfl rfl rfl rfl rfl rfl (r_eqlC rfl rfl (by decide)) fun ac31 hf33 => ?_)
    refine seq_one (op_val (v := .bool false) hf33 rfl rfl rfl rfl rfl rfl (r_assign rfl) fun ac32 hf34 => ?_)
    refine seq_end ?_
    clear ac30 hf32 ac31 hf33
    refine then_normal ?_
    refine code_if_false hf34 rfl ?_
    refine code_seq ?_
    refine seq_start (l := [0, 1]) rfl ?_
    refine seq_one (op_val (v := .bool false) hf34 rfl rfl rfl rfl rfl rfl (r_eqlC rfl rfl (by decide)) fun ac33 hf35 => ?_)
    refine seq_one (op_val (v := .bool false) hf35 rfl rfl rfl rfl rfl rfl (r_assign rfl) fun ac34 hf36 => ?_)
    refine seq_end ?_
    clear ac32 hf34 ac33 hf35
    refine then_normal ?_
    refine code_if_false hf36 rfl ?_
    refine code_seq ?_
    refine seq_start (l := [0, 1]) rfl ?_
    refine seq_one (op_val (v := .bool false) hf36 rfl rfl rfl rfl rfl rfl (r_eqlC rfl rfl (by decide)) fun ac35 hf37 => ?_)
    refine seq_one (op_val (v := .bool false) hf37 rfl rfl rfl rfl rfl rfl (r_assign rfl) fun ac36 hf38 => ?_)
    refine seq_end ?_
    clear ac34 hf36 ac35 hf37
    refine then_normal ?_
    refine code_if_false hf38 rfl ?_
    refine code_seq ?_
    refine seq_start (l := [0, 1]) rfl ?_
    refine seq_one (op_val (v := .bool false) hf38 rfl rfl rfl rfl rfl rfl (r_eqlC rfl rfl (by decide)) fun ac37 hf39 => ?_)
    refine seq_one (op_val (v := .bool false) hf39 rfl rfl rfl rfl rfl rfl (r_assign rfl) fun ac38 hf40 => ?_)
    refine seq_end ?_
    clear ac36 hf38 ac37 hf39
    refine then_normal ?_
    refine code_if_false hf40 rfl ?_
    refine code_seq ?_
    refine seq_start (l := [0, 1]) rfl ?_
    refine seq_one (op_val (v := .bool false) hf40 rfl rfl rfl rfl rfl rfl (r_eqlC rfl rfl (by decide)) fun ac39 hf41 => ?_)
    refine seq_one (op_val (v := .bool false) hf41 rfl rfl rfl rfl rfl rfl (r_assign rfl) fun ac40 hf42 => ?_)
    refine seq_end ?_
    clear ac38 hf40 ac39 hf41
    refine then_normal ?_
    refine code_if_false hf42 rfl ?_
    refine code_seq ?_
    refine seq_start (l := [0, 1]) rfl ?_
    refine seq_one (op_val (v := .bool false) hf42 rfl rfl rfl rfl rfl rfl (r_eqlC rfl rfl (by decide)) fun ac41 hf43 => ?_)
    refine seq_one (op_val (v := .bool false) hf43 rfl rfl rfl rfl rfl rfl (r_assign rfl) fun ac42 hf44 => ?_)
    refine seq_end ?_
    clear ac40 hf42 ac41 hf43
    refine then_normal ?_
    refine code_if_false hf44 rfl ?_
    refine code_seq ?_
    refine seq_start (l := [0, 1]) rfl ?_
    refine seq_one (op_val (v := .bool false) hf44 rfl rfl rfl rfl rfl rfl (r_eqlC rfl rfl (by decide)) fun ac43 hf45 => ?_)
    refine seq_one (op_val (v := .bool false) hf45 rfl rfl rfl rfl rfl rfl (r_assign rfl) fun ac44 hf46 => ?_)
    refine seq_end ?_
    clear ac42 hf44 ac43 hf45
    refine then_normal ?_
    refine code_if_false hf46 rfl ?_
    refine code_seq ?_
    refine seq_start (l := [0, 1]) rfl ?_
    refine seq_one (op_val (v := .bool true) hf46 rfl rfl rfl rfl rfl rfl (r_eqlC rfl rfl (by decide)) fun ac45 hf47 => ?_)
    refine seq_one (op_val (v := .bool true) hf47 rfl rfl rfl rfl rfl rfl (r_assign rfl) fun ac46 hf48 => ?_)
    refine seq_end ?_
    clear ac44 hf46 ac45 hf47
    refine then_normal ?_
    refine code_if_true hf48 rfl ?_
    refine seq_start (l := [0, 1, 2, 3, 4]) rfl ?_
    refine seq_one (op_val (v := .pointer (some ⟨b, 0, none⟩)) hf48 rfl rfl rfl rfl rfl rfl (r_move rfl) fun ac47 hf49 => ?_)
    refine seq_one (op_val (v := .int .i64 0) hf49 rfl rfl rfl rfl rfl rfl (r_move rfl) fun ac48 hf50 => ?_)
    refine seq_one (op_val (v := .pointer (some ⟨b, 0, none⟩)) hf50 rfl rfl rfl rfl rfl rfl (r_nilCheck rfl) fun ac49 hf51 => ?_)
    refine seq_one (op_val (v := .pointer (some ⟨b, 32, none⟩)) hf51 rfl rfl rfl rfl rfl rfl (r_fieldAddr fi_41_11 rfl rfl) fun ac50 hf52 => ?_)
    refine seq_one (op_store (cs' := #[Value.int .i64 x0, Value.int .i64 x1, Value.int .i64 x2, Value.int .i64 x3, Value.int .i64 x4, Value.int .i64 x5, Value.int .i64 x6, Value.int .u64 x7, Value.int .u64 x8, Value.int .u64 x9, Value.int .i64 x10, Value.int .i64 x11, Value.int .i64 x12, Value.int .u8 x13, Value.int .u8 x14, Value.int .u8 x15, Value.int .u8 x16, Value.int .u8 x17, Value.int .u8 x18, Value.int .u8 x19, Value.int .u8 x20, Value.int .u8 x21, Value.int .u8 x22, Value.int .u8 x23, Value.int .u8 x24, Value.int .u8 x25, Value.int .u8 x26, Value.int .u8 x27, Value.int .u8 x28, Value.int .u64 x29, Value.bool x30, Value.int .u64 x31, Value.int .i64 0, Value.int .u64 x33, Value.int .i64 x34, Value.int .i64 x35, Value.int .i64 x36]) 0 hf52 rfl rfl rfl rfl rfl sz_3 hI1 rfl (ltb rfl) (by kernel_rfl) fun wd2 hI5 => ?_)
    have hI6 : Inv w [(b, #[Value.int .i64 x0, Value.int .i64 x1, Value.int .i64 x2, Value.int .i64 x3, Value.int .i64 x4, Value.int .i64 x5, Value.int .i64 x6, Value.int .u64 x7, Value.int .u64 x8, Value.int .u64 x9, Value.int .i64 x10, Value.int .i64 x11, Value.int .i64 x12, Value.int .u8 x13, Value.int .u8 x14, Value.int .u8 x15, Value.int .u8 x16, Value.int .u8 x17, Value.int .u8 x18, Value.int .u8 x19, Value.int .u8 x20, Value.int .u8 x21, Value.int .u8 x22, Value.int .u8 x23, Value.int .u8 x24, Value.int .u8 x25, Value.int .u8 x26, Value.int .u8 x27, Value.int .u8 x28, Value.int .u64 x29, Value.bool x30, Value.int .u64 x31, Value.int .i64 0, Value.int .u64 x33, Value.int .i64 x34, Value.int .i64 x35, Value.int .i64 x36], 41), (c, #[Value.bool ab], 4)] wd2 := hI5
    refine seq_end ?_
    clear ac46 hf48 ac47 hf49 ac48 hf50 ac49 hf51 hI1 hI5
    refine block_normal ?_
    refine post0 rfl hf52 ⟨rfl, ?_⟩
    have hI7 := Inv.unreadB (A := [(b, #[Value.int .i64 x0, Value.int .i64 x1, Value.int .i64 x2, Value.int .i64 x3, Value.int .i64 x4, Value.int .i64 x5, Value.int .i64 x6, Value.int .u64 x7, Value.int .u64 x8, Value.int .u64 x9, Value.int .i64 x10, Value.int .i64 x11, Value.int .i64 x12, Value.int .u8 x13, Value.int .u8 x14, Value.int .u8 x15, Value.int .u8 x16, Value.int .u8 x17, Value.int .u8 x18, Value.int .u8 x19, Value.int .u8 x20, Value.int .u8 x21, Value.int .u8 x22, Value.int .u8 x23, Value.int .u8 x24, Value.int .u8 x25, Value.int .u8 x26, Value.int .u8 x27, Value.int .u8 x28, Value.int .u64 x29, Value.bool x30, Value.int .u64 x31, Value.int .i64 0, Value.int .u64 x33, Value.int .i64 x34, Value.int .i64 x35, Value.int .i64 x36], 41)]) (B := [(c, #[.bool ab], 4)]) hI6 (fun i x hx => h0_ (i + 1) x hx)
    rw [c6_1]
    exact hI7
set_option maxHeartbeats 8000000 in
theorem spoil_10 (x0 x1 x2 x3 x4 x5 x6 x7 x8 x9 x10 x11 x12 x13 x14 x15 x16 x17 x18 x19 x20 x21 x22 x23 x24 x25 x26 x27 x28 x29 x31 x32 x33 x34 x35 x36 : Int) (x30 : Bool) (ab : Bool) (b c : Nat) (hne : b ≠ c) (w : World) (h0_ : Has [(b, #[Value.int .i64 x0, Value.int .i64 x1, Value.int .i64 x2, Value.int .i64 x3, Value.int .i64 x4, Value.int .i64 x5, Value.int .i64 x6, Value.int .u64 x7, Value.int .u64 x8, Value.int .u64 x9, Value.int .i64 x10, Value.int .i64 x11, Value.int .i64 x12, Value.int .u8 x13, Value.int .u8 x14, Value.int .u8 x15, Value.int .u8 x16, Value.int .u8 x17, Value.int .u8 x18, Value.int .u8 x19, Value.int .u8 x20, Value.int .u8 x21, Value.int .u8 x22, Value.int .u8 x23, Value.int .u8 x24, Value.int .u8 x25, Value.int .u8 x26, Value.int .u8 x27, Value.int .u8 x28, Value.int .u64 x29, Value.bool x30, Value.int .u64 x31, Value.int .i64 x32, Value.int .u64 x33, Value.int .i64 x34, Value.int .i64 x35, Value.int .i64 x36], 41), (c, #[Value.bool ab], 4)] w) : Calls Tryd.prog 32 [.pointer (some ⟨b, 0, none⟩), .int .u8 10, .pointer (some ⟨c, 0, none⟩)].toArray w fun e w' => e = .returned (.tuple #[]) ∧ Inv w [(b, #[Value.int .i64 (sp 10 1 (nF ab) x0), Value.int .i64 (sp 10 2 (nF ab) x1), Value.int .i64 (sp 10 3 ((nF ab) - 1) x2), Value.int .i64 (sp 10 4 (nF ab) x3), Value.int .i64 x4, Value.int .i64 x5, Value.int .i64 (sp 10 5 (nF ab) x6), Value.int .u64 x7, Value.int .u64 x8, Value.int .u64 x9, Value.int .i64 (sp 10 6 (nF ab) x10), Value.int .i64 x11, Value.int .i64 x12, Value.int .u8 x13, Value.int .u8 x14, Value.int .u8 x15, Value.int .u8 x16, Value.int .u8 x17, Value.int .u8 x18, Value.int .u8 x19, Value.int .u8 (sp 10 7 4 x20), Value.int .u8 x21, Value.int .u8 x22, Value.int .u8 x23, Value.int .u8 x24, Value.int .u8 x25, Value.int .u8 x26, Value.int .u8 x27, Value.int .u8 x28, Value.int .u64 (sp 10 8 1125899906842625 x29), Value.bool x30, Value.int .u64 x31, Value.int .i64 (sp 10 9 (nF ab) x32), Value.int .u64 x33, Value.int .i64 (sp 10 10 (nF ab) x34), Value.int .i64 x35, Value.int .i64 (sp 10 11 (nF ab) x36)], 41)] w' := by
  have hI1 := Inv.startS h0_ (by simp [hne])
  refine enter (n := 77) Tryd.func32 rfl rfl rfl ?_
  intro ac1 hf1
  refine code_seq ?_
  refine seq_start (l := [0]) rfl ?_
  refine seq_one (op_val (v := .int .i64 0) hf1 rfl rfl rfl rfl rfl rfl (r_assign rfl) fun ac2 hf2 => ?_)
  refine seq_end ?_
  clear ac1 hf1
  refine then_normal ?_
  refine code_seq ?_
  refine code_seq ?_
  refine seq_start (l := [0]) rfl ?_
  refine seq_one (op_val (v := .bool ab) hf2 rfl rfl rfl rfl rfl rfl (r_load ag_4 rfl (hI1.at 1 rfl) rfl) fun ac3 hf3 => ?_)
  refine seq_end ?_
  clear ac2 hf2
  refine then_normal ?_
  refine code_if hf3 rfl (fun c6_1 => ?_) (fun c6_1 => ?_)
  · have hf4 := hf3.know 6 (u := .bool true) rfl (congrArg Value.bool c6_1)
    refine seq_start (l := [0]) rfl ?_
    refine seq_one (op_val (v := .int .i64 1073741824) hf4 rfl rfl rfl rfl rfl rfl (r_assign rfl) fun ac4 hf5 => ?_)
    refine seq_end ?_
    clear hf3 ac3 hf4
    refine then_normal ?_
    refine code_seq ?_
    refine seq_start (l := [0]) rfl ?_
    refine seq_one (op_val (v := .int .u8 10) hf5 rfl rfl rfl rfl rfl rfl (r_move rfl) fun ac5 hf6 => ?_)
    refine seq_end ?_
    clear ac4 hf5
    refine then_normal ?_
    refine wp_block ?_
    refine code_seq ?_
    refine seq_start (l := [0, 1]) rfl ?_
    refine seq_one (op_val (v := .bool false) hf6 rfl rfl rfl rfl rfl rfl (r_eqlC rfl rfl (by decide)) fun ac6 hf7 => ?_)
    refine seq_one (op_val (v := .bool false) hf7 rfl rfl rfl rfl rfl rfl (r_assign rfl) fun ac7 hf8 => ?_)
    refine seq_end ?_
    clear ac5 hf6 ac6 hf7
    refine then_normal ?_
    refine code_if_false hf8 rfl ?_
    refine code_seq ?_
    refine seq_start (l := [0, 1]) rfl ?_
    refine seq_one (op_val (v := .bool false) hf8 rfl rfl rfl rfl rfl rfl (r_eqlC rfl rfl (by decide)) fun ac8 hf9 => ?_)
    refine seq_one (op_val (v := .bool false) hf9 rfl rfl rfl rfl rfl rfl (r_assign rfl) fun ac9 hf10 => ?_)
    refine seq_end ?_
    clear ac7 hf8 ac8 hf9
    refine then_normal ?_
    refine code_if_false hf10 rfl ?_
    refine code_seq ?_
    refine seq_start (l := [0, 1]) rfl ?_
    refine seq_one (op_val (v := .bool false) hf10 rfl rfl rfl rfl rfl rfl (r_eqlC rfl rfl (by decide)) fun ac10 hf11 => ?_)
    refine seq_one (op_val (v := .bool false) hf11 rfl rfl rfl rfl rfl rfl (r_assign rfl) fun ac11 hf12 => ?_)
    refine seq_end ?_
    clear ac9 hf10 ac10 hf11
    refine then_normal ?_
    refine code_if_false hf12 rfl ?_
    refine code_seq ?_
    refine seq_start (l := [0, 1]) rfl ?_
    refine seq_one (op_val (v := .bool false) hf12 rfl rfl rfl rfl rfl rfl (r_eqlC rfl rfl (by decide)) fun ac12 hf13 => ?_)
    refine seq_one (op_val (v := .bool false) hf13 rfl rfl rfl rfl rfl rfl (r_assign rfl) fun ac13 hf14 => ?_)
    refine seq_end ?_
    clear ac11 hf12 ac12 hf13
    refine then_normal ?_
    refine code_if_false hf14 rfl ?_
    refine code_seq ?_
    refine seq_start (l := [0, 1]) rfl ?_
    refine seq_one (op_val (v := .bool false) hf14 rfl rfl rfl rfl rfl rfl (r_eqlC rfl rfl (by decide)) fun ac14 hf15 => ?_)
    refine seq_one (op_val (v := .bool false) hf15 rfl rfl rfl rfl rfl rfl (r_assign rfl) fun ac15 hf16 => ?_)
    refine seq_end ?_
    clear ac13 hf14 ac14 hf15
    refine then_normal ?_
    refine code_if_false hf16 rfl ?_
    refine code_seq ?_
    refine seq_start (l := [0, 1]) rfl ?_
    refine seq_one (op_val (v := .bool false) hf16 rfl rfl rfl rfl rfl rfl (r_eqlC rfl rfl (by decide)) fun ac16 hf17 => ?_)
    refine seq_one (op_val (v := .bool false) hf17 rfl rfl rfl rfl rfl rfl (r_assign rfl) fun ac17 hf18 => ?_)
    refine seq_end ?_
    clear ac15 hf16 ac16 hf17
    refine then_normal ?_
    refine code_if_false hf18 rfl ?_
    refine code_seq ?_
    refine seq_start (l := [0, 1]) rfl ?_
    refine seq_one (op_val (v := .bool false) hf18 rfl rfl rfl rfl rfl rfl (r_eqlC rfl rfl (by decide)) fun ac18 hf19 => ?_)
    refine seq_one (op_val (v := .bool false) hf19 rfl rfl rfl rfl rfl rfl (r_assign rfl) fun ac19 hf20 => ?_)
    refine seq_end ?_
    clear ac17 hf18 ac18 hf19
    refine then_normal ?_
    refine code_if_false hf20 rfl ?_
    refine code_seq ?_
    refine seq_start (l := [0, 1]) rfl ?_
    refine seq_one (op_val (v := .bool false) hf20 rfl rfl rfl rfl rfl rfl (r_eqlC rfl rfl (by decide)) fun ac20 hf21 => ?_)
    refine seq_one (op_val (v := .bool false) hf21 rfl rfl rfl rfl rfl rfl (r_assign rfl) fun ac21 hf22 => ?_)
    refine seq_end ?_
    clear ac19 hf20 ac20 hf21
    refine then_normal ?_
    refine code_if_false hf22 rfl ?_
    refine code_seq ?_
    refine seq_start (l := [0, 1]) rfl ?_
    refine seq_one (op_val (v := .bool false) hf22 rfl rfl rfl rfl rfl rfl (r_eqlC rfl rfl (by decide)) fun ac22 hf23 => ?_)
    refine seq_one (op_val (v := .bool false) hf23 rfl rfl rfl rfl rfl rfl (r_assign rfl) fun ac23 hf24 => ?_)
    refine seq_end ?_
    clear ac21 hf22 ac22 hf23
    refine then_normal ?_
    refine code_if_false hf24 rfl ?_
    refine code_seq ?_
    refine seq_start (l := [0, 1]) rfl ?_
    refine seq_one (op_val (v := .bool true) hf24 rfl rfl rfl rfl rfl rfl (r_eqlC rfl rfl (by decide)) fun ac24 hf25 => ?_)
    refine seq_one (op_val (v := .bool true) hf25 rfl rfl rfl rfl rfl rfl (r_assign rfl) fun ac25 hf26 => ?_)
    refine seq_end ?_
    clear ac23 hf24 ac24 hf25
    refine then_normal ?_
    refine code_if_true hf26 rfl ?_
    refine seq_start (l := [0, 1, 2, 3, 4]) rfl ?_
    refine seq_one (op_val (v := .pointer (some ⟨b, 0, none⟩)) hf26 rfl rfl rfl rfl rfl rfl (r_move rfl) fun ac26 hf27 => ?_)
    refine seq_one (op_val (v := .int .i64 1073741824) hf27 rfl rfl rfl rfl rfl rfl (r_move rfl) fun ac27 hf28 => ?_)
    refine seq_one (op_val (v := .pointer (some ⟨b, 0, none⟩)) hf28 rfl rfl rfl rfl rfl rfl (r_nilCheck rfl) fun ac28 hf29 => ?_)
    refine seq_one (op_val (v := .pointer (some ⟨b, 34, none⟩)) hf29 rfl rfl rfl rfl rfl rfl (r_fieldAddr fi_41_13 rfl rfl) fun ac29 hf30 => ?_)
    refine seq_one (op_store (cs' := #[Value.int .i64 x0, Value.int .i64 x1, Value.int .i64 x2, Value.int .i64 x3, Value.int .i64 x4, Value.int .i64 x5, Value.int .i64 x6, Value.int .u64 x7, Value.int .u64 x8, Value.int .u64 x9, Value.int .i64 x10, Value.int .i64 x11, Value.int .i64 x12, Value.int .u8 x13, Value.int .u8 x14, Value.int .u8 x15, Value.int .u8 x16, Value.int .u8 x17, Value.int .u8 x18, Value.int .u8 x19, Value.int .u8 x20, Value.int .u8 x21, Value.int .u8 x22, Value.int .u8 x23, Value.int .u8 x24, Value.int .u8 x25, Value.int .u8 x26, Value.int .u8 x27, Value.int .u8 x28, Value.int .u64 x29, Value.bool x30, Value.int .u64 x31, Value.int .i64 x32, Value.int .u64 x33, Value.int .i64 1073741824, Value.int .i64 x35, Value.int .i64 x36]) 0 hf30 rfl rfl rfl rfl rfl sz_3 hI1 rfl (ltb rfl) (by kernel_rfl) fun wd1 hI2 => ?_)
    have hI3 : Inv w [(b, #[Value.int .i64 x0, Value.int .i64 x1, Value.int .i64 x2, Value.int .i64 x3, Value.int .i64 x4, Value.int .i64 x5, Value.int .i64 x6, Value.int .u64 x7, Value.int .u64 x8, Value.int .u64 x9, Value.int .i64 x10, Value.int .i64 x11, Value.int .i64 x12, Value.int .u8 x13, Value.int .u8 x14, Value.int .u8 x15, Value.int .u8 x16, Value.int .u8 x17, Value.int .u8 x18, Value.int .u8 x19, Value.int .u8 x20, Value.int .u8 x21, Value.int .u8 x22, Value.int .u8 x23, Value.int .u8 x24, Value.int .u8 x25, Value.int .u8 x26, Value.int .u8 x27, Value.int .u8 x28, Value.int .u64 x29, Value.bool x30, Value.int .u64 x31, Value.int .i64 x32, Value.int .u64 x33, Value.int .i64 1073741824, Value.int .i64 x35, Value.int .i64 x36], 41), (c, #[Value.bool ab], 4)] wd1 := hI2
    refine seq_end ?_
    clear ac25 hf26 ac26 hf27 ac27 hf28 ac28 hf29 hI1 hI2
    refine block_normal ?_
    refine post0 rfl hf30 ⟨rfl, ?_⟩
    have hI4 := Inv.unreadB (A := [(b, #[Value.int .i64 x0, Value.int .i64 x1, Value.int .i64 x2, Value.int .i64 x3, Value.int .i64 x4, Value.int .i64 x5, Value.int .i64 x6, Value.int .u64 x7, Value.int .u64 x8, Value.int .u64 x9, Value.int .i64 x10, Value.int .i64 x11, Value.int .i64 x12, Value.int .u8 x13, Value.int .u8 x14, Value.int .u8 x15, Value.int .u8 x16, Value.int .u8 x17, Value.int .u8 x18, Value.int .u8 x19, Value.int .u8 x20, Value.int .u8 x21, Value.int .u8 x22, Value.int .u8 x23, Value.int .u8 x24, Value.int .u8 x25, Value.int .u8 x26, Value.int .u8 x27, Value.int .u8 x28, Value.int .u64 x29, Value.bool x30, Value.int .u64 x31, Value.int .i64 x32, Value.int .u64 x33, Value.int .i64 1073741824, Value.int .i64 x35, Value.int .i64 x36], 41)]) (B := [(c, #[.bool ab], 4)]) hI3 (fun i x hx => h0_ (i + 1) x hx)
    rw [c6_1]
    exact hI4
  · have hf31 := hf3.know 6 (u := .bool false) rfl (congrArg Value.bool c6_1)
    refine wp_skip ?_
    refine then_normal ?_
    refine code_seq ?_
    refine seq_start (l := [0]) rfl ?_
    refine seq_one (op_val (v := .int .u8 10) hf31 rfl rfl rfl rfl rfl rfl (r_move rfl) fun ac30 hf32 => ?_)
    refine seq_end ?_
    clear hf3 ac3 hf31
    refine then_normal ?_
    refine wp_block ?_
    refine code_seq ?_
    refine seq_start (l := [0, 1]) rfl ?_
    refine seq_one (op_val (v := .bool false) hf32 rfl rfl rfl rfl rfl rfl (r_eqlC rfl rfl (by decide)) fun ac31 hf33 => ?_)
    refine seq_one (op_val (v := .bool false) hf33 rfl rfl rfl rfl rfl rfl (r_assign rfl) fun ac32 hf34 => ?_)
    refine seq_end ?_
    clear ac30 hf32 ac31 hf33
    refine then_normal ?_
    refine code_if_false hf34 rfl ?_
    refine code_seq ?_
    refine seq_start (l := [0, 1]) rfl ?_
    refine seq_one (op_val (v := .bool false) hf34 rfl rfl rfl rfl rfl rfl (r_eqlC rfl rfl (by decide)) fun ac33 hf35 => ?_)
    refine seq_one (op_val (v := .bool false) hf35 rfl rfl rfl rfl rfl rfl (r_assign rfl) fun ac34 hf36 => ?_)
    refine seq_end ?_
    clear ac32 hf34 ac33 hf35
    refine then_normal ?_
    refine code_if_false hf36 rfl ?_
    refine code_seq ?_
    refine seq_start (l := [0, 1]) rfl ?_
    refine seq_one (op_val (v := .bool false) hf36 rfl rfl rfl rfl rfl rfl (r_eqlC rfl rfl (by decide)) fun ac35 hf37 => ?_)
    refine seq_one (op_val (v := .bool false) hf37 rfl rfl rfl rfl rfl rfl (r_assign rfl) fun ac36 hf38 => ?_)
    refine seq_end ?_
    clear ac34 hf36 ac35 hf37
    refine then_normal ?_
    refine code_if_false hf38 rfl ?_
    refine code_seq ?_
    refine seq_start (l := [0, 1]) rfl ?_
    refine seq_one (op_val (v := .bool false) hf38 rfl rfl rfl rfl rfl rfl (r_eqlC rfl rfl (by decide)) fun ac37 hf39 => ?_)
    refine seq_one (op_val (v := .bool false) hf39 rfl rfl rfl rfl rfl rfl (r_assign rfl) fun ac38 hf40 => ?_)
    refine seq_end ?_
    clear ac36 hf38 ac37 hf39
    refine then_normal ?_
    refine code_if_false hf40 rfl ?_
    refine code_seq ?_
    refine seq_start (l := [0, 1]) rfl ?_
    refine seq_one (op_val (v := .bool false) hf40 rfl rfl rfl rfl rfl rfl (r_eqlC rfl rfl (by decide)) fun ac39 hf41 => ?_)
    refine seq_one (op_val (v := .bool false) hf41 rfl rfl rfl rfl rfl rfl (r_assign rfl) fun ac40 hf42 => ?_)
    refine seq_end ?_
    clear ac38 hf40 ac39 hf41
    refine then_normal ?_
    refine code_if_false hf42 rfl ?_
    refine code_seq ?_
    refine seq_start (l := [0, 1]) rfl ?_
    refine seq_one (op_val (v := .bool false) hf42 rfl rfl rfl rfl rfl rfl (r_eqlC rfl rfl (by decide)) fun ac41 hf43 => ?_)
    refine seq_one (op_val (v := .bool false) hf43 rfl rfl rfl rfl rfl rfl (r_assign rfl) fun ac42 hf44 => ?_)
    refine seq_end ?_
    clear ac40 hf42 ac41 hf43
    refine then_normal ?_
    refine code_if_false hf44 rfl ?_
    refine code_seq ?_
    refine seq_start (l := [0, 1]) rfl ?_
    refine seq_one (op_val (v := .bool false) hf44 rfl rfl rfl rfl rfl rfl (r_eqlC rfl rfl (by decide)) fun ac43 hf45 => ?_)
    refine seq_one (op_val (v := .bool false) hf45 rfl rfl rfl rfl rfl rfl (r_assign rfl) fun ac44 hf46 => ?_)
    refine seq_end ?_
    clear ac42 hf44 ac43 hf45
    refine then_normal ?_
    refine code_if_false hf46 rfl ?_
    refine code_seq ?_
    refine seq_start (l := [0, 1]) rfl ?_
    refine seq_one (op_val (v := .bool false) hf46 rfl rfl rfl rfl rfl rfl (r_eqlC rfl rfl (by decide)) fun ac45 hf47 => ?_)
    refine seq_one (op_val (v := .bool false) hf47 rfl rfl rfl rfl rfl rfl (r_assign rfl) fun ac46 hf48 => ?_)
    refine seq_end ?_
    clear ac44 hf46 ac45 hf47
    refine then_normal ?_
    refine code_if_false hf48 rfl ?_
    refine code_seq ?_
    refine seq_start (l := [0, 1]) rfl ?_
    refine seq_one (op_val (v := .bool false) hf48 rfl rfl rfl rfl rfl rfl (r_eqlC rfl rfl (by decide)) fun ac47 hf49 => ?_)
    refine seq_one (op_val (v := .bool false) hf49 rfl rfl rfl rfl rfl rfl (r_assign rfl) fun ac48 hf50 => ?_)
    refine seq_end ?_
    clear ac46 hf48 ac47 hf49
    refine then_normal ?_
    refine code_if_false hf50 rfl ?_
    refine code_seq ?_
    refine seq_start (l := [0, 1]) rfl ?_
    refine seq_one (op_val (v := .bool true) hf50 rfl rfl rfl rfl rfl rfl (r_eqlC rfl rfl (by decide)) fun ac49 hf51 => ?_)
    refine seq_one (op_val (v := .bool true) hf51 rfl rfl rfl rfl rfl rfl (r_assign rfl) fun ac50 hf52 => ?_)
    refine seq_end ?_
    clear ac48 hf50 ac49 hf51
    refine then_normal ?_
    refine code_if_true hf52 rfl ?_
    refine seq_start (l := [0, 1, 2, 3, 4]) rfl ?_
    refine seq_one (op_val (v := .pointer (some ⟨b, 0, none⟩)) hf52 rfl rfl rfl rfl rfl rfl (r_move rfl) fun ac51 hf53 => ?_)
    refine seq_one (op_val (v := .int .i64 0) hf53 rfl rfl rfl rfl rfl rfl (r_move rfl) fun ac52 hf54 => ?_)
    refine seq_one (op_val (v := .pointer (some ⟨b, 0, none⟩)) hf54 rfl rfl rfl rfl rfl rfl (r_nilCheck rfl) fun ac53 hf55 => ?_)
    refine seq_one (op_val (v := .pointer (some ⟨b, 34, none⟩)) hf55 rfl rfl rfl rfl rfl rfl (r_fieldAddr fi_41_13 rfl rfl) fun ac54 hf56 => ?_)
    refine seq_one (op_store (cs' := #[Value.int .i64 x0, Value.int .i64 x1, Value.int .i64 x2, Value.int .i64 x3, Value.int .i64 x4, Value.int .i64 x5, Value.int .i64 x6, Value.int .u64 x7, Value.int .u64 x8, Value.int .u64 x9, Value.int .i64 x10, Value.int .i64 x11, Value.int .i64 x12, Value.int .u8 x13, Value.int .u8 x14, Value.int .u8 x15, Value.int .u8 x16, Value.int .u8 x17, Value.int .u8 x18, Value.int .u8 x19, Value.int .u8 x20, Value.int .u8 x21, Value.int .u8 x22, Value.int .u8 x23, Value.int .u8 x24, Value.int .u8 x25, Value.int .u8 x26, Value.int .u8 x27, Value.int .u8 x28, Value.int .u64 x29, Value.bool x30, Value.int .u64 x31, Value.int .i64 x32, Value.int .u64 x33, Value.int .i64 0, Value.int .i64 x35, Value.int .i64 x36]) 0 hf56 rfl rfl rfl rfl rfl sz_3 hI1 rfl (ltb rfl) (by kernel_rfl) fun wd2 hI5 => ?_)
    have hI6 : Inv w [(b, #[Value.int .i64 x0, Value.int .i64 x1, Value.int .i64 x2, Value.int .i64 x3, Value.int .i64 x4, Value.int .i64 x5, Value.int .i64 x6, Value.int .u64 x7, Value.int .u64 x8, Value.int .u64 x9, Value.int .i64 x10, Value.int .i64 x11, Value.int .i64 x12, Value.int .u8 x13, Value.int .u8 x14, Value.int .u8 x15, Value.int .u8 x16, Value.int .u8 x17, Value.int .u8 x18, Value.int .u8 x19, Value.int .u8 x20, Value.int .u8 x21, Value.int .u8 x22, Value.int .u8 x23, Value.int .u8 x24, Value.int .u8 x25, Value.int .u8 x26, Value.int .u8 x27, Value.int .u8 x28, Value.int .u64 x29, Value.bool x30, Value.int .u64 x31, Value.int .i64 x32, Value.int .u64 x33, Value.int .i64 0, Value.int .i64 x35, Value.int .i64 x36], 41), (c, #[Value.bool ab], 4)] wd2 := hI5
    refine seq_end ?_
    clear ac50 hf52 ac51 hf53 ac52 hf54 ac53 hf55 hI1 hI5
    refine block_normal ?_
    refine post0 rfl hf56 ⟨rfl, ?_⟩
    have hI7 := Inv.unreadB (A := [(b, #[Value.int .i64 x0, Value.int .i64 x1, Value.int .i64 x2, Value.int .i64 x3, Value.int .i64 x4, Value.int .i64 x5, Value.int .i64 x6, Value.int .u64 x7, Value.int .u64 x8, Value.int .u64 x9, Value.int .i64 x10, Value.int .i64 x11, Value.int .i64 x12, Value.int .u8 x13, Value.int .u8 x14, Value.int .u8 x15, Value.int .u8 x16, Value.int .u8 x17, Value.int .u8 x18, Value.int .u8 x19, Value.int .u8 x20, Value.int .u8 x21, Value.int .u8 x22, Value.int .u8 x23, Value.int .u8 x24, Value.int .u8 x25, Value.int .u8 x26, Value.int .u8 x27, Value.int .u8 x28, Value.int .u64 x29, Value.bool x30, Value.int .u64 x31, Value.int .i64 x32, Value.int .u64 x33, Value.int .i64 0, Value.int .i64 x35, Value.int .i64 x36], 41)]) (B := [(c, #[.bool ab], 4)]) hI6 (fun i x hx => h0_ (i + 1) x hx)
    rw [c6_1]
    exact hI7
set_option maxHeartbeats 8000000 in
theorem spoil_11 (x0 x1 x2 x3 x4 x5 x6 x7 x8 x9 x10 x11 x12 x13 x14 x15 x16 x17 x18 x19 x20 x21 x22 x23 x24 x25 x26 x27 x28 x29 x31 x32 x33 x34 x35 x36 : Int) (x30 : Bool) (ab : Bool) (b c : Nat) (hne : b ≠ c) (w : World) (h0_ : Has [(b, #[Value.int .i64 x0, Value.int .i64 x1, Value.int .i64 x2, Value.int .i64 x3, Value.int .i64 x4, Value.int .i64 x5, Value.int .i64 x6, Value.int .u64 x7, Value.int .u64 x8, Value.int .u64 x9, Value.int .i64 x10, Value.int .i64 x11, Value.int .i64 x12, Value.int .u8 x13, Value.int .u8 x14, Value.int .u8 x15, Value.int .u8 x16, Value.int .u8 x17, Value.int .u8 x18, Value.int .u8 x19, Value.int .u8 x20, Value.int .u8 x21, Value.int .u8 x22, Value.int .u8 x23, Value.int .u8 x24, Value.int .u8 x25, Value.int .u8 x26, Value.int .u8 x27, Value.int .u8 x28, Value.int .u64 x29, Value.bool x30, Value.int .u64 x31, Value.int .i64 x32, Value.int .u64 x33, Value.int .i64 x34, Value.int .i64 x35, Value.int .i64 x36], 41), (c, #[Value.bool ab], 4)] w) : Calls Tryd.prog 32 [.pointer (some ⟨b, 0, none⟩), .int .u8 11, .pointer (some ⟨c, 0, none⟩)].toArray w fun e w' => e = .returned (.tuple #[]) ∧ Inv w [(b, #[Value.int .i64 (sp 11 1 (nF ab) x0), Value.int .i64 (sp 11 2 (nF ab) x1), Value.int .i64 (sp 11 3 ((nF ab) - 1) x2), Value.int .i64 (sp 11 4 (nF ab) x3), Value.int .i64 x4, Value.int .i64 x5, Value.int .i64 (sp 11 5 (nF ab) x6), Value.int .u64 x7, Value.int .u64 x8, Value.int .u64 x9, Value.int .i64 (sp 11 6 (nF ab) x10), Value.int .i64 x11, Value.int .i64 x12, Value.int .u8 x13, Value.int .u8 x14, Value.int .u8 x15, Value.int .u8 x16, Value.int .u8 x17, Value.int .u8 x18, Value.int .u8 x19, Value.int .u8 (sp 11 7 4 x20), Value.int .u8 x21, Value.int .u8 x22, Value.int .u8 x23, Value.int .u8 x24, Value.int .u8 x25, Value.int .u8 x26, Value.int .u8 x27, Value.int .u8 x28, Value.int .u64 (sp 11 8 1125899906842625 x29), Value.bool x30, Value.int .u64 x31, Value.int .i64 (sp 11 9 (nF ab) x32), Value.int .u64 x33, Value.int .i64 (sp 11 10 (nF ab) x34), Value.int .i64 x35, Value.int .i64 (sp 11 11 (nF ab) x36)], 41)] w' := by
  have hI1 := Inv.startS h0_ (by simp [hne])
  refine enter (n := 77) Tryd.func32 rfl rfl rfl ?_
  intro ac1 hf1
  refine code_seq ?_
  refine seq_start (l := [0]) rfl ?_
  refine seq_one (op_val (v := .int .i64 0) hf1 rfl rfl rfl rfl rfl rfl (r_assign rfl) fun ac2 hf2 => ?_)
  refine seq_end ?_
  clear ac1 hf1
  refine then_normal ?_
  refine code_seq ?_
  refine code_seq ?_
  refine seq_start (l := [0]) rfl ?_
  refine seq_one (op_val (v := .bool ab) hf2 rfl rfl rfl rfl rfl rfl (r_load ag_4 rfl (hI1.at 1 rfl) rfl) fun ac3 hf3 => ?_)
  refine seq_end ?_
  clear ac2 hf2
  refine then_normal ?_
  refine code_if hf3 rfl (fun c6_1 => ?_) (fun c6_1 => ?_)
  · have hf4 := hf3.know 6 (u := .bool true) rfl (congrArg Value.bool c6_1)
    refine seq_start (l := [0]) rfl ?_
    refine seq_one (op_val (v := .int .i64 1073741824) hf4 rfl rfl rfl rfl rfl rfl (r_assign rfl) fun ac4 hf5 => ?_)
    refine seq_end ?_
    clear hf3 ac3 hf4
    refine then_normal ?_
    refine code_seq ?_
    refine seq_start (l := [0]) rfl ?_
    refine seq_one (op_val (v := .int .u8 11) hf5 rfl rfl rfl rfl rfl rfl (r_move rfl) fun ac5 hf6 => ?_)
    refine seq_end ?_
    clear ac4 hf5
    refine then_normal ?_
    refine wp_block ?_
    refine code_seq ?_
    refine seq_start (l := [0, 1]) rfl ?_
    refine seq_one (op_val (v := .bool false) hf6 rfl rfl rfl rfl rfl rfl (r_eqlC rfl rfl (by decide)) fun ac6 hf7 => ?_)
    refine seq_one (op_val (v := .bool false) hf7 rfl rfl rfl rfl rfl rfl (r_assign rfl) fun ac7 hf8 => ?_)
    refine seq_end ?_
    clear ac5 hf6 ac6 hf7
    refine then_normal ?_
    refine code_if_false hf8 rfl ?_
    refine code_seq ?_
    refine seq_start (l := [0, 1]) rfl ?_
    refine seq_one (op_val (v := .bool false) hf8 rfl rfl rfl rfl rfl rfl (r_eqlC rfl rfl (by decide)) fun ac8 hf9 => ?_)
    refine seq_one (op_val (v := .bool false) hf9 rfl rfl rfl rfl rfl rfl (r_assign rfl) fun ac9 hf10 => ?_)
    refine seq_end ?_
    clear ac7 hf8 ac8 hf9
    refine then_normal ?_
    refine code_if_false hf10 rfl ?_
    refine code_seq ?_
    refine seq_start (l := [0, 1]) rfl ?_
    refine seq_one (op_val (v := .bool false) hf10 rfl rfl rfl rfl rfl rfl (r_eqlC rfl rfl (by decide)) fun ac10 hf11 => ?_)
    refine seq_one (op_val (v := .bool false) hf11 rfl rfl rfl rfl rfl rfl (r_assign rfl) fun ac11 hf12 => ?_)
    refine seq_end ?_
    clear ac9 hf10 ac10 hf11
    refine then_normal ?_
    refine code_if_false hf12 rfl ?_
    refine code_seq ?_
    refine seq_start (l := [0, 1]) rfl ?_
    refine seq_one (op_val (v := .bool false) hf12 rfl rfl rfl rfl rfl rfl (r_eqlC rfl rfl (by decide)) fun ac12 hf13 => ?_)
    refine seq_one (op_val (v := .bool false) hf13 rfl rfl rfl rfl rfl rfl (r_assign rfl) fun ac13 hf14 => ?_)
    refine seq_end ?_
    clear ac11 hf12 ac12 hf13
    refine then_normal ?_
    refine code_if_false hf14 rfl ?_
    refine code_seq ?_
    refine seq_start (l := [0, 1]) rfl ?_
    refine seq_one (op_val (v := .bool false) hf14 rfl rfl rfl rfl rfl rfl (r_eqlC rfl rfl (by decide)) fun ac14 hf15 => ?_)
    refine seq_one (op_val (v := .bool false) hf15 rfl rfl rfl rfl rfl rfl (r_assign rfl) fun ac15 hf16 => ?_)
    refine seq_end ?_
    clear ac13 hf14 ac14 hf15
    refine then_normal ?_
    refine code_if_false hf16 rfl ?_
    refine code_seq ?_
    refine seq_start (l := [0, 1]) rfl ?_
    refine seq_one (op_val (v := .bool false) hf16 rfl rfl rfl rfl rfl rfl (r_eqlC rfl rfl (by decide)) fun ac16 hf17 => ?_)
    refine seq_one (op_val (v := .bool false) hf17 rfl rfl rfl rfl rfl rfl (r_assign rfl) fun ac17 hf18 => ?_)
    refine seq_end ?_
    clear ac15 hf16 ac16 hf17
    refine then_normal ?_
    refine code_if_false hf18 rfl ?_
    refine code_seq ?_
    refine seq_start (l := [0, 1]) rfl ?_
    refine seq_one (op_val (v := .bool false) hf18 rfl rfl rfl rfl rfl rfl (r_eqlC rfl rfl (by decide)) fun ac18 hf19 => ?_)
    refine seq_one (op_val (v := .bool false) hf19 rfl rfl rfl rfl rfl rfl (r_assign rfl) fun ac19 hf20 => ?_)
    refine seq_end ?_
    clear ac17 hf18 ac18 hf19
    refine then_normal ?_
    refine code_if_false hf20 rfl ?_
    refine code_seq ?_
    refine seq_start (l := [0, 1]) rfl ?_
    refine seq_one (op_val (v := .bool false) hf20 rfl rfl rfl rfl rfl rfl (r_eqlC rfl rfl (by decide)) fun ac20 hf21 => ?_)
    refine seq_one (op_val (v := .bool false) hf21 rfl rfl rfl rfl rfl rfl (r_assign rfl) fun ac21 hf22 => ?_)
    refine seq_end ?_
    clear ac19 hf20 ac20 hf21
    refine then_normal ?_
    refine code_if_false hf22 rfl ?_
    refine code_seq ?_
    refine seq_start (l := [0, 1]) rfl ?_
    refine seq_one (op_val (v := .bool false) hf22 rfl rfl rfl rfl rfl rfl (r_eqlC rfl rfl (by decide)) fun ac22 hf23 => ?_)
    refine seq_one (op_val (v := .bool false) hf23 rfl rfl rfl rfl rfl rfl (r_assign rfl) fun ac23 hf24 => ?_)
    refine seq_end ?_
    clear ac21 hf22 ac22 hf23
    refine then_normal ?_
    refine code_if_false hf24 rfl ?_
    refine code_seq ?_
    refine seq_start (l := [0, 1]) rfl ?_
    refine seq_one (op_val (v := .bool false) hf24 rfl rfl rfl rfl rfl rfl (r_eqlC rfl rfl (by decide)) fun ac24 hf25 => ?_)
    refine seq_one (op_val (v := .bool false) hf25 rfl rfl rfl rfl rfl rfl (r_assign rfl) fun ac25 hf26 => ?_)
    refine seq_end ?_
    clear ac23 hf24 ac24 hf25
    refine then_normal ?_
    refine code_if_false hf26 rfl ?_
    refine seq_start (l := [0, 1, 2, 3, 4]) rfl ?_
    refine seq_one (op_val (v := .pointer (some ⟨b, 0, none⟩)) hf26 rfl rfl rfl rfl rfl rfl (r_move rfl) fun ac26 hf27 => ?_)
    refine seq_one (op_val (v := .int .i64 1073741824) hf27 rfl rfl rfl rfl rfl rfl (r_move rfl) fun ac27 hf28 => ?_)
    refine seq_one (op_val (v := .pointer (some ⟨b, 0, none⟩)) hf28 rfl rfl rfl rfl rfl rfl (r_nilCheck rfl) fun ac28 hf29 => ?_)
    refine seq_one (op_val (v := .pointer (some ⟨b, 36, none⟩)) hf29 rfl rfl rfl rfl rfl rfl (r_fieldAddr fi_41_15 rfl rfl) fun ac29 hf30 => ?_)
    refine seq_one (op_store (cs' := #[Value.int .i64 x0, Value.int .i64 x1, Value.int .i64 x2, Value.int .i64 x3, Value.int .i64 x4, Value.int .i64 x5, Value.int .i64 x6, Value.int .u64 x7, Value.int .u64 x8, Value.int .u64 x9, Value.int .i64 x10, Value.int .i64 x11, Value.int .i64 x12, Value.int .u8 x13, Value.int .u8 x14, Value.int .u8 x15, Value.int .u8 x16, Value.int .u8 x17, Value.int .u8 x18, Value.int .u8 x19, Value.int .u8 x20, Value.int .u8 x21, Value.int .u8 x22, Value.int .u8 x23, Value.int .u8 x24, Value.int .u8 x25, Value.int .u8 x26, Value.int .u8 x27, Value.int .u8 x28, Value.int .u64 x29, Value.bool x30, Value.int .u64 x31, Value.int .i64 x32, Value.int .u64 x33, Value.int .i64 x34, Value.int .i64 x35, Value.int .i64 1073741824]) 0 hf30 rfl rfl rfl rfl rfl sz_3 hI1 rfl (ltb rfl) (by kernel_rfl) fun wd1 hI2 => ?_)
    have hI3 : Inv w [(b, #[Value.int .i64 x0, Value.int .i64 x1, Value.int .i64 x2, Value.int .i64 x3, Value.int .i64 x4, Value.int .i64 x5, Value.int .i64 x6, Value.int .u64 x7, Value.int .u64 x8, Value.int .u64 x9, Value.int .i64 x10, Value.int .i64 x11, Value.int .i64 x12, Value.int .u8 x13, Value.int .u8 x14, Value.int .u8 x15, Value.int .u8 x16, Value.int .u8 x17, Value.int .u8 x18, Value.int .u8 x19, Value.int .u8 x20, Value.int .u8 x21, Value.int .u8 x22, Value.int .u8 x23, Value.int .u8 x24, Value.int .u8 x25, Value.int .u8 x26, Value.int .u8 x27, Value.int .u8 x28, Value.int .u64 x29, Value.bool x30, Value.int .u64 x31, Value.int .i64 x32, Value.int .u64 x33, Value.int .i64 x34, Value.int .i64 x35, Value.int .i64 1073741824], 41), (c, #[Value.bool ab], 4)] wd1 := hI2
    refine seq_end ?_
    clear ac25 hf26 ac26 hf27 ac27 hf28 ac28 hf29 hI1 hI2
    refine block_normal ?_
    refine post0 rfl hf30 ⟨rfl, ?_⟩
    have hI4 := Inv.unreadB (A := [(b, #[Value.int .i64 x0, Value.int .i64 x1, Value.int .i64 x2, Value.int .i64 x3, Value.int .i64 x4, Value.int .i64 x5, Value.int .i64 x6, Value.int .u64 x7, Value.int .u64 x8, Value.int .u64 x9, Value.int .i64 x10, Value.int .i64 x11, Value.int .i64 x12, Value.int .u8 x13, Value.int .u8 x14, Value.int .u8 x15, Value.int .u8 x16, Value.int .u8 x17, Value.int .u8 x18, Value.int .u8 x19, Value.int .u8 x20, Value.int .u8 x21, Value.int .u8 x22, Value.int .u8 x23, Value.int .u8 x24, Value.int .u8 x25, Value.int .u8 x26, Value.int .u8 x27, Value.int .u8 x28, Value.int .u64 x29, Value.bool x30, Value.int .u64 x31, Value.int .i64 x32, Value.int .u64 x33, Value.int .i64 x34, Value.int .i64 x35, Value.int .i64 1073741824], 41)]) (B := [(c, #[.bool ab], 4)]) hI3 (fun i x hx => h0_ (i + 1) x hx)
    rw [c6_1]
    exact hI4
  · have hf31 := hf3.know 6 (u := .bool false) rfl (congrArg Value.bool c6_1)
    refine wp_skip ?_
    refine then_normal ?_
    refine code_seq ?_
    refine seq_start (l := [0]) rfl ?_
    refine seq_one (op_val (v := .int .u8 11) hf31 rfl rfl rfl rfl rfl rfl (r_move rfl) fun ac30 hf32 => ?_)
    refine seq_end ?_
    clear hf3 ac3 hf31
    refine then_normal ?_
    refine wp_block ?_
    refine code_seq ?_
    refine seq_start (l := [0, 1]) rfl ?_
    refine seq_one (op_val (v := .bool false) hf32 rfl rfl rfl rfl rfl rfl (r_eqlC rfl rfl (by decide)) fun ac31 hf33 => ?_)
    refine seq_one (op_val (v := .bool false) hf33 rfl rfl rfl rfl rfl rfl (r_assign rfl) fun ac32 hf34 => ?_)
    refine seq_end ?_
    clear ac30 hf32 ac31 hf33
    refine then_normal ?_
    refine code_if_false hf34 rfl ?_
    refine code_seq ?_
    refine seq_start (l := [0, 1]) rfl ?_
    refine seq_one (op_val (v := .bool false) hf34 rfl rfl rfl rfl rfl rfl (r_eqlC rfl rfl (by decide)) fun ac33 hf35 => ?_)
    refine seq_one (op_val (v := .bool false) hf35 rfl rfl rfl rfl rfl rfl (r_assign rfl) fun ac34 hf36 => ?_)
    refine seq_end ?_
    clear ac32 hf34 ac33 hf35
    refine then_normal ?_
    refine code_if_false hf36 rfl ?_
    refine code_seq ?_
    refine seq_start (l := [0, 1]) rfl ?_
    refine seq_one (op_val (v := .bool false) hf36 rfl rfl rfl rfl rfl rfl (r_eqlC rfl rfl (by decide)) fun ac35 hf37 => ?_)
    refine seq_one (op_val (v := .bool false) hf37 rfl rfl rfl rfl rfl rfl (r_assign rfl) fun ac36 hf38 => ?_)
    refine seq_end ?_
    clear ac34 hf36 ac35 hf37
    refine then_normal ?_
    refine code_if_false hf38 rfl ?_
    refine code_seq ?_
    refine seq_start (l := [0, 1]) rfl ?_
    refine seq_one (op_val (v := .bool false) hf38 rfl rfl rfl rfl rfl rfl (r_eqlC rfl rfl (by decide)) fun ac37 hf39 => ?_)
    refine seq_one (op_val (v := .bool false) hf39 rfl rfl rfl rfl rfl rfl (r_assign rfl) fun ac38 hf40 => ?_)
    refine seq_end ?_
    clear ac36 hf38 ac37 hf39
    refine then_normal ?_
    refine code_if_false hf40 rfl ?_
    refine code_seq ?_
    refine seq_start (l := [0, 1]) rfl ?_
    refine seq_one (op_val (v := .bool false) hf40 rfl rfl rfl rfl rfl rfl (r_eqlC rfl rfl (by decide)) fun ac39 hf41 => ?_)
    refine seq_one (op_val (v := .bool false) hf41 rfl rfl rfl rfl rfl rfl (r_assign rfl) fun ac40 hf42 => ?_)
    refine seq_end ?_
    clear ac38 hf40 ac39 hf41
    refine then_normal ?_
    refine code_if_false hf42 rfl ?_
    refine code_seq ?_
    refine seq_start (l := [0, 1]) rfl ?_
    refine seq_one (op_val (v := .bool false) hf42 rfl rfl rfl rfl rfl rfl (r_eqlC rfl rfl (by decide)) fun ac41 hf43 => ?_)
    refine seq_one (op_val (v := .bool false) hf43 rfl rfl rfl rfl rfl rfl (r_assign rfl) fun ac42 hf44 => ?_)
    refine seq_end ?_
    clear ac40 hf42 ac41 hf43
    refine then_normal ?_
    refine code_if_false hf44 rfl ?_
    refine code_seq ?_
    refine seq_start (l := [0, 1]) rfl ?_
    refine seq_one (op_val (v := .bool false) hf44 rfl rfl rfl rfl rfl rfl (r_eqlC rfl rfl (by decide)) fun ac43 hf45 => ?_)
    refine seq_one (op_val (v := .bool false) hf45 rfl rfl rfl rfl rfl rfl (r_assign rfl) fun ac44 hf46 => ?_)
    refine seq_end ?_
    clear ac42 hf44 ac43 hf45
    refine then_normal ?_
    refine code_if_false hf46 rfl ?_
    refine code_seq ?_
    refine seq_start (l := [0, 1]) rfl ?_
    refine seq_one (op_val (v := .bool false) hf46 rfl rfl rfl rfl rfl rfl (r_eqlC rfl rfl (by decide)) fun ac45 hf47 => ?_)
    refine seq_one (op_val (v := .bool false) hf47 rfl rfl rfl rfl rfl rfl (r_assign rfl) fun ac46 hf48 => ?_)
    refine seq_end ?_
    clear ac44 hf46 ac45 hf47
    refine then_normal ?_
    refine code_if_false hf48 rfl ?_
    refine code_seq ?_
    refine seq_start (l := [0, 1]) rfl ?_
    refine seq_one (op_val (v := .bool false) hf48 rfl rfl rfl rfl rfl rfl (r_eqlC rfl rfl (by decide)) fun ac47 hf49 => ?_)
    refine seq_one (op_val (v := .bool false) hf49 rfl rfl rfl rfl rfl rfl (r_assign rfl) fun ac48 hf50 => ?_)
    refine seq_end ?_
    clear ac46 hf48 ac47 hf49
    refine then_normal ?_
    refine code_if_false hf50 rfl ?_
    refine code_seq ?_
    refine seq_start (l := [0, 1]) rfl ?_
    refine seq_one (op_val (v := .bool false) hf50 rfl rfl rfl rfl rfl rfl (r_eqlC rfl rfl (by decide)) fun ac49 hf51 => ?_)
    refine seq_one (op_val (v := .bool false) hf51 rfl rfl rfl rfl rfl rfl (r_assign rfl) fun ac50 hf52 => ?_)
    refine seq_end ?_
    clear ac48 hf50 ac49 hf51
    refine then_normal ?_
    refine code_if_false hf52 rfl ?_
    refine seq_start (l := [0, 1, 2, 3, 4]) rfl ?_
    refine seq_one (op_val (v := .pointer (some ⟨b, 0, none⟩)) hf52 rfl rfl rfl rfl rfl rfl (r_move rfl) fun ac51 hf53 => ?_)
    refine seq_one (op_val (v := .int .i64 0) hf53 rfl rfl rfl rfl rfl rfl (r_move rfl) fun ac52 hf54 => ?_)
    refine seq_one (op_val (v := .pointer (some ⟨b, 0, none⟩)) hf54 rfl rfl rfl rfl rfl rfl (r_nilCheck rfl) fun ac53 hf55 => ?_)
    refine seq_one (op_val (v := .pointer (some ⟨b, 36, none⟩)) hf55 rfl rfl rfl rfl rfl rfl (r_fieldAddr fi_41_15 rfl rfl) fun ac54 hf56 => ?_)
    refine seq_one (op_store (cs' := #[Value.int .i64 x0, Value.int .i64 x1, Value.int .i64 x2, Value.int .i64 x3, Value.int .i64 x4, Value.int .i64 x5, Value.int .i64 x6, Value.int .u64 x7, Value.int .u64 x8, Value.int .u64 x9, Value.int .i64 x10, Value.int .i64 x11, Value.int .i64 x12, Value.int .u8 x13, Value.int .u8 x14, Value.int .u8 x15, Value.int .u8 x16, Value.int .u8 x17, Value.int .u8 x18, Value.int .u8 x19, Value.int .u8 x20, Value.int .u8 x21, Value.int .u8 x22, Value.int .u8 x23, Value.int .u8 x24, Value.int .u8 x25, Value.int .u8 x26, Value.int .u8 x27, Value.int .u8 x28, Value.int .u64 x29, Value.bool x30, Value.int .u64 x31, Value.int .i64 x32, Value.int .u64 x33, Value.int .i64 x34, Value.int .i64 x35, Value.int .i64 0]) 0 hf56 rfl rfl rfl rfl rfl sz_3 hI1 rfl (ltb rfl) (by kernel_rfl) fun wd2 hI5 => ?_)
    have hI6 : Inv w [(b, #[Value.int .i64 x0, Value.int .i64 x1, Value.int .i64 x2, Value.int .i64 x3, Value.int .i64 x4, Value.int .i64 x5, Value.int .i64 x6, Value.int .u64 x7, Value.int .u64 x8, Value.int .u64 x9, Value.int .i64 x10, Value.int .i64 x11, Value.int .i64 x12, Value.int .u8 x13, Value.int .u8 x14, Value.int .u8 x15, Value.int .u8 x16, Value.int .u8 x17, Value.int .u8 x18, Value.int .u8 x19, Value.int .u8 x20, Value.int .u8 x21, Value.int .u8 x22, Value.int .u8 x23, Value.int .u8 x24, Value.int .u8 x25, Value.int .u8 x26, Value.int .u8 x27, Value.int .u8 x28, Value.int .u64 x29, Value.bool x30, Value.int .u64 x31, Value.int .i64 x32, Value.int .u64 x33, Value.int .i64 x34, Value.int .i64 x35, Value.int .i64 0], 41), (c, #[Value.bool ab], 4)] wd2 := hI5
    refine seq_end ?_
    clear ac50 hf52 ac51 hf53 ac52 hf54 ac53 hf55 hI1 hI5
    refine block_normal ?_
    refine post0 rfl hf56 ⟨rfl, ?_⟩
    have hI7 := Inv.unreadB (A := [(b, #[Value.int .i64 x0, Value.int .i64 x1, Value.int .i64 x2, Value.int .i64 x3, Value.int .i64 x4, Value.int .i64 x5, Value.int .i64 x6, Value.int .u64 x7, Value.int .u64 x8, Value.int .u64 x9, Value.int .i64 x10, Value.int .i64 x11, Value.int .i64 x12, Value.int .u8 x13, Value.int .u8 x14, Value.int .u8 x15, Value.int .u8 x16, Value.int .u8 x17, Value.int .u8 x18, Value.int .u8 x19, Value.int .u8 x20, Value.int .u8 x21, Value.int .u8 x22, Value.int .u8 x23, Value.int .u8 x24, Value.int .u8 x25, Value.int .u8 x26, Value.int .u8 x27, Value.int .u8 x28, Value.int .u64 x29, Value.bool x30, Value.int .u64 x31, Value.int .i64 x32, Value.int .u64 x33, Value.int .i64 x34, Value.int .i64 x35, Value.int .i64 0], 41)]) (B := [(c, #[.bool ab], 4)]) hI6 (fun i x hx => h0_ (i + 1) x hx)
    rw [c6_1]
    exact hI7
theorem spoil_walk (x0 x1 x2 x3 x4 x5 x6 x7 x8 x9 x10 x11 x12 x13 x14 x15 x16 x17 x18 x19 x20 x21 x22 x23 x24 x25 x26 x27 x28 x29 x31 x32 x33 x34 x35 x36 : Int) (x30 : Bool) (k : Int) (k1 : 1 ≤ k) (k2 : k ≤ 11) (ab : Bool) (b c : Nat) (hne : b ≠ c) (w : World) (h0_ : Has [(b, #[Value.int .i64 x0, Value.int .i64 x1, Value.int .i64 x2, Value.int .i64 x3, Value.int .i64 x4, Value.int .i64 x5, Value.int .i64 x6, Value.int .u64 x7, Value.int .u64 x8, Value.int .u64 x9, Value.int .i64 x10, Value.int .i64 x11, Value.int .i64 x12, Value.int .u8 x13, Value.int .u8 x14, Value.int .u8 x15, Value.int .u8 x16, Value.int .u8 x17, Value.int .u8 x18, Value.int .u8 x19, Value.int .u8 x20, Value.int .u8 x21, Value.int .u8 x22, Value.int .u8 x23, Value.int .u8 x24, Value.int .u8 x25, Value.int .u8 x26, Value.int .u8 x27, Value.int .u8 x28, Value.int .u64 x29, Value.bool x30, Value.int .u64 x31, Value.int .i64 x32, Value.int .u64 x33, Value.int .i64 x34, Value.int .i64 x35, Value.int .i64 x36], 41), (c, #[.bool ab], 4)] w) : Calls Tryd.prog 32 [.pointer (some ⟨b, 0, none⟩), .int .u8 k, .pointer (some ⟨c, 0, none⟩)].toArray w fun e w' => e = .returned (.tuple #[]) ∧ Inv w [(b, #[Value.int .i64 (sp k 1 (nF ab) x0), Value.int .i64 (sp k 2 (nF ab) x1), Value.int .i64 (sp k 3 ((nF ab) - 1) x2), Value.int .i64 (sp k 4 (nF ab) x3), Value.int .i64 x4, Value.int .i64 x5, Value.int .i64 (sp k 5 (nF ab) x6), Value.int .u64 x7, Value.int .u64 x8, Value.int .u64 x9, Value.int .i64 (sp k 6 (nF ab) x10), Value.int .i64 x11, Value.int .i64 x12, Value.int .u8 x13, Value.int .u8 x14, Value.int .u8 x15, Value.int .u8 x16, Value.int .u8 x17, Value.int .u8 x18, Value.int .u8 x19, Value.int .u8 (sp k 7 4 x20), Value.int .u8 x21, Value.int .u8 x22, Value.int .u8 x23, Value.int .u8 x24, Value.int .u8 x25, Value.int .u8 x26, Value.int .u8 x27, Value.int .u8 x28, Value.int .u64 (sp k 8 1125899906842625 x29), Value.bool x30, Value.int .u64 x31, Value.int .i64 (sp k 9 (nF ab) x32), Value.int .u64 x33, Value.int .i64 (sp k 10 (nF ab) x34), Value.int .i64 x35, Value.int .i64 (sp k 11 (nF ab) x36)], 41)] w' := by
  rcases (by omega : k = 1 ∨ k = 2 ∨ k = 3 ∨ k = 4 ∨ k = 5 ∨ k = 6 ∨ k = 7 ∨ k = 8 ∨ k = 9 ∨ k = 10 ∨ k = 11) with rfl | rfl | rfl | rfl | rfl | rfl | rfl | rfl | rfl | rfl | rfl
  · exact spoil_1 x0 x1 x2 x3 x4 x5 x6 x7 x8 x9 x10 x11 x12 x13 x14 x15 x16 x17 x18 x19 x20 x21 x22 x23 x24 x25 x26 x27 x28 x29 x31 x32 x33 x34 x35 x36 x30 ab b c hne w h0_
  · exact spoil_2 x0 x1 x2 x3 x4 x5 x6 x7 x8 x9 x10 x11 x12 x13 x14 x15 x16 x17 x18 x19 x20 x21 x22 x23 x24 x25 x26 x27 x28 x29 x31 x32 x33 x34 x35 x36 x30 ab b c hne w h0_
  · exact spoil_3 x0 x1 x2 x3 x4 x5 x6 x7 x8 x9 x10 x11 x12 x13 x14 x15 x16 x17 x18 x19 x20 x21 x22 x23 x24 x25 x26 x27 x28 x29 x31 x32 x33 x34 x35 x36 x30 ab b c hne w h0_
  · exact spoil_4 x0 x1 x2 x3 x4 x5 x6 x7 x8 x9 x10 x11 x12 x13 x14 x15 x16 x17 x18 x19 x20 x21 x22 x23 x24 x25 x26 x27 x28 x29 x31 x32 x33 x34 x35 x36 x30 ab b c hne w h0_
  · exact spoil_5 x0 x1 x2 x3 x4 x5 x6 x7 x8 x9 x10 x11 x12 x13 x14 x15 x16 x17 x18 x19 x20 x21 x22 x23 x24 x25 x26 x27 x28 x29 x31 x32 x33 x34 x35 x36 x30 ab b c hne w h0_
  · exact spoil_6 x0 x1 x2 x3 x4 x5 x6 x7 x8 x9 x10 x11 x12 x13 x14 x15 x16 x17 x18 x19 x20 x21 x22 x23 x24 x25 x26 x27 x28 x29 x31 x32 x33 x34 x35 x36 x30 ab b c hne w h0_
  · exact spoil_7 x0 x1 x2 x3 x4 x5 x6 x7 x8 x9 x10 x11 x12 x13 x14 x15 x16 x17 x18 x19 x20 x21 x22 x23 x24 x25 x26 x27 x28 x29 x31 x32 x33 x34 x35 x36 x30 ab b c hne w h0_
  · exact spoil_8 x0 x1 x2 x3 x4 x5 x6 x7 x8 x9 x10 x11 x12 x13 x14 x15 x16 x17 x18 x19 x20 x21 x22 x23 x24 x25 x26 x27 x28 x29 x31 x32 x33 x34 x35 x36 x30 ab b c hne w h0_
  · exact spoil_9 x0 x1 x2 x3 x4 x5 x6 x7 x8 x9 x10 x11 x12 x13 x14 x15 x16 x17 x18 x19 x20 x21 x22 x23 x24 x25 x26 x27 x28 x29 x31 x32 x33 x34 x35 x36 x30 ab b c hne w h0_
  · exact spoil_10 x0 x1 x2 x3 x4 x5 x6 x7 x8 x9 x10 x11 x12 x13 x14 x15 x16 x17 x18 x19 x20 x21 x22 x23 x24 x25 x26 x27 x28 x29 x31 x32 x33 x34 x35 x36 x30 ab b c hne w h0_
  · exact spoil_11 x0 x1 x2 x3 x4 x5 x6 x7 x8 x9 x10 x11 x12 x13 x14 x15 x16 x17 x18 x19 x20 x21 x22 x23 x24 x25 x26 x27 x28 x29 x31 x32 x33 x34 x35 x36 x30 ab b c hne w h0_
theorem one_wrong : ∀ (i : Fin 12) (ab : Bool), i.val = 0 ∨ wrongF (sp ((i.val : Nat) : Int) 1 (nF ab) 10000) (sp ((i.val : Nat) : Int) 2 (nF ab) 1024) (sp ((i.val : Nat) : Int) 3 ((nF ab) - 1) 6) (sp ((i.val : Nat) : Int) 4 (nF ab) 100) 10000 3028 (sp ((i.val : Nat) : Int) 5 (nF ab) 15140) 0 68750 (sp ((i.val : Nat) : Int) 6 (nF ab) 589824) 196608 65536 [1, 2, 2, 2, 1, 2, 0, sp ((i.val : Nat) : Int) 7 4 3, 1, 1, 1, 1, 1, 1, 1, 1] (sp ((i.val : Nat) : Int) 8 1125899906842625 10000000000) (sp ((i.val : Nat) : Int) 9 (nF ab) 1024) 100000 (sp ((i.val : Nat) : Int) 10 (nF ab) 256) 1448 (sp ((i.val : Nat) : Int) 11 (nF ab) 44) = ((i.val : Nat) : Int) := by decide +kernel
theorem two_wrong : ∀ (i k : Fin 12) (ab : Bool), i.val = 0 ∨ k.val = 0 ∨ wrongF (sp ((k.val : Nat) : Int) 1 (nF ab) (sp ((i.val : Nat) : Int) 1 (nF ab) 10000)) (sp ((k.val : Nat) : Int) 2 (nF ab) (sp ((i.val : Nat) : Int) 2 (nF ab) 1024)) (sp ((k.val : Nat) : Int) 3 ((nF ab) - 1) (sp ((i.val : Nat) : Int) 3 ((nF ab) - 1) 6)) (sp ((k.val : Nat) : Int) 4 (nF ab) (sp ((i.val : Nat) : Int) 4 (nF ab) 100)) 10000 3028 (sp ((k.val : Nat) : Int) 5 (nF ab) (sp ((i.val : Nat) : Int) 5 (nF ab) 15140)) 0 68750 (sp ((k.val : Nat) : Int) 6 (nF ab) (sp ((i.val : Nat) : Int) 6 (nF ab) 589824)) 196608 65536 [1, 2, 2, 2, 1, 2, 0, sp ((k.val : Nat) : Int) 7 4 (sp ((i.val : Nat) : Int) 7 4 3), 1, 1, 1, 1, 1, 1, 1, 1] (sp ((k.val : Nat) : Int) 8 1125899906842625 (sp ((i.val : Nat) : Int) 8 1125899906842625 10000000000)) (sp ((k.val : Nat) : Int) 9 (nF ab) (sp ((i.val : Nat) : Int) 9 (nF ab) 1024)) 100000 (sp ((k.val : Nat) : Int) 10 (nF ab) (sp ((i.val : Nat) : Int) 10 (nF ab) 256)) 1448 (sp ((k.val : Nat) : Int) 11 (nF ab) (sp ((i.val : Nat) : Int) 11 (nF ab) 44)) = (if ((k.val : Nat) : Int) < ((i.val : Nat) : Int) then ((k.val : Nat) : Int) else ((i.val : Nat) : Int)) := by decide +kernel
theorem wrong1 {i : Int} {ab : Bool} (h1 : 1 ≤ i) (h2 : i ≤ 11) : wrongF (sp i 1 (nF ab) 10000) (sp i 2 (nF ab) 1024) (sp i 3 ((nF ab) - 1) 6) (sp i 4 (nF ab) 100) 10000 3028 (sp i 5 (nF ab) 15140) 0 68750 (sp i 6 (nF ab) 589824) 196608 65536 [1, 2, 2, 2, 1, 2, 0, sp i 7 4 3, 1, 1, 1, 1, 1, 1, 1, 1] (sp i 8 1125899906842625 10000000000) (sp i 9 (nF ab) 1024) 100000 (sp i 10 (nF ab) 256) 1448 (sp i 11 (nF ab) 44) = i := by
  obtain ⟨n, rfl⟩ := Int.eq_ofNat_of_zero_le (show 0 ≤ i by omega)
  rcases one_wrong ⟨n, by omega⟩ ab with h | h
  · simp only at h; omega
  · exact h
theorem wrong2 {i k : Int} {ab : Bool} (h1 : 1 ≤ i) (h2 : i ≤ 11) (g1 : 1 ≤ k) (g2 : k ≤ 11) : wrongF (sp k 1 (nF ab) (sp i 1 (nF ab) 10000)) (sp k 2 (nF ab) (sp i 2 (nF ab) 1024)) (sp k 3 ((nF ab) - 1) (sp i 3 ((nF ab) - 1) 6)) (sp k 4 (nF ab) (sp i 4 (nF ab) 100)) 10000 3028 (sp k 5 (nF ab) (sp i 5 (nF ab) 15140)) 0 68750 (sp k 6 (nF ab) (sp i 6 (nF ab) 589824)) 196608 65536 [1, 2, 2, 2, 1, 2, 0, sp k 7 4 (sp i 7 4 3), 1, 1, 1, 1, 1, 1, 1, 1] (sp k 8 1125899906842625 (sp i 8 1125899906842625 10000000000)) (sp k 9 (nF ab) (sp i 9 (nF ab) 1024)) 100000 (sp k 10 (nF ab) (sp i 10 (nF ab) 256)) 1448 (sp k 11 (nF ab) (sp i 11 (nF ab) 44)) = if k < i then k else i := by
  obtain ⟨n, rfl⟩ := Int.eq_ofNat_of_zero_le (show 0 ≤ i by omega)
  obtain ⟨m, rfl⟩ := Int.eq_ofNat_of_zero_le (show 0 ≤ k by omega)
  rcases two_wrong ⟨n, by omega⟩ ⟨m, by omega⟩ ab with h | h | h
  · simp only at h; omega
  · simp only at h; omega
  · exact h
end Go.Proofs.YtakkookpjhaekaaDoor
