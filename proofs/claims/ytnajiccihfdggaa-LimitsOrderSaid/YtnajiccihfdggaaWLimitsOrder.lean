/-
  The walk of LimitsOrder: it comes to true.
-/
import Derived.Test.YtnajiccihfdggaaLaws
import Derived.Test.YtnajiccihfdggaaPlain
import Derived.Test.YtnajiccihfdggaaFwJoin
namespace Go.Proofs.Ytnajiccihfdggaa
set_option linter.unusedVariables false
set_option linter.unusedSimpArgs false
set_option maxRecDepth 100000
open Go.RowKit
set_option maxHeartbeats 8000000 in
theorem limitsOrder_pur (cs : Array Value) (r b f n0 n1 n2 : Int) (hc : LC cs r b f) (n0l : -9223372036854775808 ≤ n0) (n0r : n0 ≤ 9223372036854775807) (n1l : -9223372036854775808 ≤ n1) (n1r : n1 ≤ 9223372036854775807) (n2l : -9223372036854775808 ≤ n2) (n2r : n2 ≤ 9223372036854775807) (x y z : Int) (xl : 0 ≤ x) (xr : x ≤ 4294967295) (yl : 0 ≤ y) (yr : y ≤ 4294967295) (zl : 0 ≤ z) (zr : z ≤ 4294967295) : Pur Try.prog 5 [.agg cs, .agg #[.int .i64 n0, .int .i64 n1, .int .i64 n2], .int .u32 x, .int .u32 y, .int .u32 z] (.bool true) := by
  intro w
  have hI1 := Inv.start w
  refine enter (n := 138) Try.func5 rfl rfl rfl ?_
  intro ac1 hf1
  refine code_seq ?_
  refine seq_start (l := [0, 1, 2]) rfl ?_
  refine seq_one (op_box hf1 rfl rfl rfl rfl hI1 fun ac2 b1 wd1 hb1 hI2 hf2 => ?_)
  have hI3 : Inv w [(b1, cs, 28)] wd1 := hI2
  refine seq_one (op_box hf2 rfl rfl rfl rfl hI3 fun ac3 b2 wd2 hb2 hI4 hf3 => ?_)
  have hI5 : Inv w [(b1, cs, 28), (b2, #[.int .i64 n0, .int .i64 n1, .int .i64 n2], 30)] wd2 := hI4
  refine seq_one (op_val (v := .bool false) hf3 rfl rfl rfl rfl rfl rfl (r_assign rfl) fun ac4 hf4 => ?_)
  refine seq_end ?_
  clear ac1 hI1 hf1 hI2 ac2 wd1 hI3 hf2 hI4 ac3 hf3
  refine then_normal ?_
  refine code_seq ?_
  refine code_joinG 138 ((Nat)) (fun (b3 : Nat) => [(0, .agg cs), (1, .agg #[.int .i64 n0, .int .i64 n1, .int .i64 n2]), (2, .int .u32 x), (3, .int .u32 y), (4, .int .u32 z), (5, .pointer (some ⟨b1, 0, none⟩)), (6, .pointer (some ⟨b2, 0, none⟩)), (10, .bool false), (11, .pointer (some ⟨b3, 0, none⟩))]) (fun (b3 : Nat) => fun w' => Inv w [(b1, cs, 28), (b2, #[.int .i64 n0, .int .i64 n1, .int .i64 n2], 30), (b3, #[.int .i64 (moreF n0 x), .int .i64 (moreF n1 y), .int .i64 (moreF n2 z)], 30)] w' ∧ (w.heap.size ≤ b3)) ?_ ?_
  ·
    refine any_start (fun w => Has [(b2, #[.int .i64 n0, .int .i64 n1, .int .i64 n2], 30)] w) follows (Has.drew (Has.cons (hI5.at 1 rfl) Has.nil)) ?_
    have hS1 : Has [(b2, #[.int .i64 n0, .int .i64 n1, .int .i64 n2], 30)] _ := Has.drew (Has.cons (hI5.at 1 rfl) Has.nil)
    have hI6 := hI5.drew
    refine any_val (i := 0) (v := .agg #[.int .i64 n0, .int .i64 n1, .int .i64 n2]) hf4 rfl rfl rfl rfl rfl rfl (fun _ _ _ h => h) (by kernel_rfl) (by kernel_rfl) (by kernel_rfl) (fun wd2 hS1 => (r_loadW ag_30 sz_30 rfl (hS1.at 0 rfl) rfl)) hS1 fun ac5 hf5 => ?_
    refine any_val (i := 1) (v := .int .u32 x) hf5 rfl rfl rfl rfl rfl rfl (fun _ _ _ h => h) (by kernel_rfl) (by kernel_rfl) (by kernel_rfl) (fun wd2 hS1 => (r_move rfl)) hS1 fun ac6 hf6 => ?_
    refine any_val (i := 2) (v := .int .i64 x) hf6 rfl rfl rfl rfl rfl rfl (fun _ _ _ h => h) (by kernel_rfl) (by kernel_rfl) (by kernel_rfl) (fun wd2 hS1 => (r_conv (c := x) ui_38 ui_3 rfl (wrap_i64 (Int.le_trans (by decide) xl) (Int.le_trans xr (by decide))))) hS1 fun ac7 hf7 => ?_
    refine any_val (i := 5) (v := .agg #[.int .i64 n0, .int .i64 n1, .int .i64 n2]) hf7 rfl rfl rfl rfl rfl rfl (fun _ _ _ h => h) (by kernel_rfl) (by kernel_rfl) (by kernel_rfl) (fun wd2 hS1 => (r_loadW ag_30 sz_30 rfl (hS1.at 0 rfl) rfl)) hS1 fun ac8 hf8 => ?_
    refine any_val (i := 6) (v := .int .u32 y) hf8 rfl rfl rfl rfl rfl rfl (fun _ _ _ h => h) (by kernel_rfl) (by kernel_rfl) (by kernel_rfl) (fun wd2 hS1 => (r_move rfl)) hS1 fun ac9 hf9 => ?_
    refine any_val (i := 7) (v := .int .i64 y) hf9 rfl rfl rfl rfl rfl rfl (fun _ _ _ h => h) (by kernel_rfl) (by kernel_rfl) (by kernel_rfl) (fun wd2 hS1 => (r_conv (c := y) ui_38 ui_3 rfl (wrap_i64 (Int.le_trans (by decide) yl) (Int.le_trans yr (by decide))))) hS1 fun ac10 hf10 => ?_
    refine any_val (i := 10) (v := .agg #[.int .i64 n0, .int .i64 n1, .int .i64 n2]) hf10 rfl rfl rfl rfl rfl rfl (fun _ _ _ h => h) (by kernel_rfl) (by kernel_rfl) (by kernel_rfl) (fun wd2 hS1 => (r_loadW ag_30 sz_30 rfl (hS1.at 0 rfl) rfl)) hS1 fun ac11 hf11 => ?_
    refine any_val (i := 11) (v := .int .u32 z) hf11 rfl rfl rfl rfl rfl rfl (fun _ _ _ h => h) (by kernel_rfl) (by kernel_rfl) (by kernel_rfl) (fun wd2 hS1 => (r_move rfl)) hS1 fun ac12 hf12 => ?_
    refine any_val (i := 12) (v := .int .i64 z) hf12 rfl rfl rfl rfl rfl rfl (fun _ _ _ h => h) (by kernel_rfl) (by kernel_rfl) (by kernel_rfl) (fun wd2 hS1 => (r_conv (c := z) ui_38 ui_3 rfl (wrap_i64 (Int.le_trans (by decide) zl) (Int.le_trans zr (by decide))))) hS1 fun ac13 hf13 => ?_
    refine any_two (i := 3) (j := 16) (by kernel_rfl) ?_ ?_
    ·
      refine (op_pure hf13 rfl rfl rfl rfl ca_12 (with_pur n0 n1 n2 x n0l n0r n1l n1r n2l n2r (Int.le_trans (by decide) xl) (Int.le_trans xr (by decide))) hI6 fun ac14 wd3 hI7 hf14 => ⟨?_, ?_⟩)
      · exact (Has.cons (hI7.at 1 rfl) Has.nil)
      have hS2 : Has [(b2, #[.int .i64 n0, .int .i64 n1, .int .i64 n2], 30)] _ := (Has.cons (hI7.at 1 rfl) Has.nil)
      refine any_val (i := 4) (v := .int .i64 (moreF n0 x)) hf14 rfl rfl rfl rfl rfl rfl (fun _ _ _ h => h) (by kernel_rfl) (by kernel_rfl) (by kernel_rfl) (fun wd3 hS2 => (r_field fi_30_0 ag_3 rfl rfl)) hS2 fun ac15 hf15 => ?_
      refine any_two (i := 8) (j := 16) (by kernel_rfl) ?_ ?_
      ·
        refine (op_pure hf15 rfl rfl rfl rfl ca_12 (with_pur n0 n1 n2 y n0l n0r n1l n1r n2l n2r (Int.le_trans (by decide) yl) (Int.le_trans yr (by decide))) hI7 fun ac16 wd4 hI8 hf16 => ⟨?_, ?_⟩)
        · exact (Has.cons (hI8.at 1 rfl) Has.nil)
        have hS3 : Has [(b2, #[.int .i64 n0, .int .i64 n1, .int .i64 n2], 30)] _ := (Has.cons (hI8.at 1 rfl) Has.nil)
        refine any_val (i := 9) (v := .int .i64 (moreF n1 y)) hf16 rfl rfl rfl rfl rfl rfl (fun _ _ _ h => h) (by kernel_rfl) (by kernel_rfl) (by kernel_rfl) (fun wd4 hS3 => (r_field fi_30_1 ag_3 rfl rfl)) hS3 fun ac17 hf17 => ?_
        refine any_two (i := 13) (j := 16) (by kernel_rfl) ?_ ?_
        ·
          refine (op_pure hf17 rfl rfl rfl rfl ca_12 (with_pur n0 n1 n2 z n0l n0r n1l n1r n2l n2r (Int.le_trans (by decide) zl) (Int.le_trans zr (by decide))) hI8 fun ac18 wd5 hI9 hf18 => ⟨?_, ?_⟩)
          · exact (Has.cons (hI9.at 1 rfl) Has.nil)
          have hS4 : Has [(b2, #[.int .i64 n0, .int .i64 n1, .int .i64 n2], 30)] _ := (Has.cons (hI9.at 1 rfl) Has.nil)
          refine any_val (i := 14) (v := .int .i64 (moreF n2 z)) hf18 rfl rfl rfl rfl rfl rfl (fun _ _ _ h => h) (by kernel_rfl) (by kernel_rfl) (by kernel_rfl) (fun wd5 hS4 => (r_field fi_30_2 ag_3 rfl rfl)) hS4 fun ac19 hf19 => ?_
          refine any_val (i := 15) (v := .agg #[.int .i64 (moreF n0 x), .int .i64 (moreF n1 y), .int .i64 (moreF n2 z)]) hf19 rfl rfl rfl rfl rfl rfl (fun _ _ _ h => h) (by kernel_rfl) (by kernel_rfl) (by kernel_rfl) (fun wd5 hS4 => (r_build (v := .agg #[.int .i64 (moreF n0 x), .int .i64 (moreF n1 y), .int .i64 (moreF n2 z)]) rfl (fun _ => by kernel_rfl))) hS4 fun ac20 hf20 => ?_
          refine any_one (i := 16) (by kernel_rfl) ?_
          refine (op_alloc hf20 rfl rfl rfl ze_30 hI9 fun ac21 b3 wd6 hb3 hI10 hf21 => ⟨?_, ?_⟩)
          · exact (Has.cons (hI10.at 1 rfl) Has.nil)
          have hI11 : Inv w [(b1, cs, 28), (b2, #[.int .i64 n0, .int .i64 n1, .int .i64 n2], 30), (b3, #[.int .i64 0, .int .i64 0, .int .i64 0], 30)] wd6 := hI10
          have hS5 : Has [(b2, #[.int .i64 n0, .int .i64 n1, .int .i64 n2], 30)] _ := (Has.cons (hI11.at 1 rfl) Has.nil)
          refine any_one (i := 17) (by kernel_rfl) ?_
          refine (op_storeW (cells := #[.int .i64 (moreF n0 x), .int .i64 (moreF n1 y), .int .i64 (moreF n2 z)]) 2 hf21 rfl rfl rfl rfl rfl sz_30 rfl rfl hI11 rfl rfl fun wd7 hI12 => ⟨?_, ?_⟩)
          · exact (Has.cons (hI12.at 1 rfl) Has.nil)
          have hI13 : Inv w [(b1, cs, 28), (b2, #[.int .i64 n0, .int .i64 n1, .int .i64 n2], 30), (b3, #[.int .i64 (moreF n0 x), .int .i64 (moreF n1 y), .int .i64 (moreF n2 z)], 30)] wd7 := hI12
          have hS6 : Has [(b2, #[.int .i64 n0, .int .i64 n1, .int .i64 n2], 30)] _ := (Has.cons (hI13.at 1 rfl) Has.nil)
          refine any_end (by kernel_rfl) ?_
          clear hI5 ac4 hf4 ac5 hf5 ac6 hf6 ac7 hf7 ac8 hf8 ac9 hf9 ac10 hf10 ac11 hf11 ac12 hf12 ac13 wd2 hI6 hf13 hS1 ac14 hf14 ac15 wd3 hI7 hf15 hS2 ac16 hf16 ac17 wd4 hI8 hf17 hS3 ac18 hf18 ac19 hf19 ac20 wd5 hI9 hf20 hI10 hS4 wd6 hI11 hI12 hS5 hS6
          refine then_normal ?_
          exact ⟨(b3), (hf21.cons 0 rfl (hf21.cons 1 rfl (hf21.cons 2 rfl (hf21.cons 3 rfl (hf21.cons 4 rfl (hf21.cons 5 rfl (hf21.cons 6 rfl (hf21.cons 10 rfl (hf21.cons 11 rfl hf21.nil))))))))), ⟨hI13, hb3⟩⟩
        ·
          refine (op_alloc hf17 rfl rfl rfl ze_30 hI8 fun ac22 b3 wd8 hb3 hI14 hf22 => ⟨?_, ?_⟩)
          · exact (Has.cons (hI14.at 1 rfl) Has.nil)
          have hI15 : Inv w [(b1, cs, 28), (b2, #[.int .i64 n0, .int .i64 n1, .int .i64 n2], 30), (b3, #[.int .i64 0, .int .i64 0, .int .i64 0], 30)] wd8 := hI14
          have hS7 : Has [(b2, #[.int .i64 n0, .int .i64 n1, .int .i64 n2], 30)] _ := (Has.cons (hI15.at 1 rfl) Has.nil)
          refine any_one (i := 13) (by kernel_rfl) ?_
          refine (op_pure hf22 rfl rfl rfl rfl ca_12 (with_pur n0 n1 n2 z n0l n0r n1l n1r n2l n2r (Int.le_trans (by decide) zl) (Int.le_trans zr (by decide))) hI15 fun ac23 wd9 hI16 hf23 => ⟨?_, ?_⟩)
          · exact (Has.cons (hI16.at 1 rfl) Has.nil)
          have hS8 : Has [(b2, #[.int .i64 n0, .int .i64 n1, .int .i64 n2], 30)] _ := (Has.cons (hI16.at 1 rfl) Has.nil)
          refine any_val (i := 14) (v := .int .i64 (moreF n2 z)) hf23 rfl rfl rfl rfl rfl rfl (fun _ _ _ h => h) (by kernel_rfl) (by kernel_rfl) (by kernel_rfl) (fun wd9 hS8 => (r_field fi_30_2 ag_3 rfl rfl)) hS8 fun ac24 hf24 => ?_
          refine any_val (i := 15) (v := .agg #[.int .i64 (moreF n0 x), .int .i64 (moreF n1 y), .int .i64 (moreF n2 z)]) hf24 rfl rfl rfl rfl rfl rfl (fun _ _ _ h => h) (by kernel_rfl) (by kernel_rfl) (by kernel_rfl) (fun wd9 hS8 => (r_build (v := .agg #[.int .i64 (moreF n0 x), .int .i64 (moreF n1 y), .int .i64 (moreF n2 z)]) rfl (fun _ => by kernel_rfl))) hS8 fun ac25 hf25 => ?_
          refine any_one (i := 17) (by kernel_rfl) ?_
          refine (op_storeW (cells := #[.int .i64 (moreF n0 x), .int .i64 (moreF n1 y), .int .i64 (moreF n2 z)]) 2 hf25 rfl rfl rfl rfl rfl sz_30 rfl rfl hI16 rfl rfl fun wd10 hI17 => ⟨?_, ?_⟩)
          · exact (Has.cons (hI17.at 1 rfl) Has.nil)
          have hI18 : Inv w [(b1, cs, 28), (b2, #[.int .i64 n0, .int .i64 n1, .int .i64 n2], 30), (b3, #[.int .i64 (moreF n0 x), .int .i64 (moreF n1 y), .int .i64 (moreF n2 z)], 30)] wd10 := hI17
          have hS9 : Has [(b2, #[.int .i64 n0, .int .i64 n1, .int .i64 n2], 30)] _ := (Has.cons (hI18.at 1 rfl) Has.nil)
          refine any_end (by kernel_rfl) ?_
          clear hI5 ac4 hf4 ac5 hf5 ac6 hf6 ac7 hf7 ac8 hf8 ac9 hf9 ac10 hf10 ac11 hf11 ac12 hf12 ac13 wd2 hI6 hf13 hS1 ac14 hf14 ac15 wd3 hI7 hf15 hS2 ac16 hf16 ac17 wd4 hI8 hf17 hI14 hS3 ac22 wd8 hI15 hf22 hS7 ac23 hf23 ac24 hf24 wd9 hI16 hI17 hS8 hS9
          refine then_normal ?_
          exact ⟨(b3), (hf25.cons 0 rfl (hf25.cons 1 rfl (hf25.cons 2 rfl (hf25.cons 3 rfl (hf25.cons 4 rfl (hf25.cons 5 rfl (hf25.cons 6 rfl (hf25.cons 10 rfl (hf25.cons 11 rfl hf25.nil))))))))), ⟨hI18, hb3⟩⟩
      ·
        refine (op_alloc hf15 rfl rfl rfl ze_30 hI7 fun ac26 b3 wd11 hb3 hI19 hf26 => ⟨?_, ?_⟩)
        · exact (Has.cons (hI19.at 1 rfl) Has.nil)
        have hI20 : Inv w [(b1, cs, 28), (b2, #[.int .i64 n0, .int .i64 n1, .int .i64 n2], 30), (b3, #[.int .i64 0, .int .i64 0, .int .i64 0], 30)] wd11 := hI19
        have hS10 : Has [(b2, #[.int .i64 n0, .int .i64 n1, .int .i64 n2], 30)] _ := (Has.cons (hI20.at 1 rfl) Has.nil)
        refine any_one (i := 8) (by kernel_rfl) ?_
        refine (op_pure hf26 rfl rfl rfl rfl ca_12 (with_pur n0 n1 n2 y n0l n0r n1l n1r n2l n2r (Int.le_trans (by decide) yl) (Int.le_trans yr (by decide))) hI20 fun ac27 wd12 hI21 hf27 => ⟨?_, ?_⟩)
        · exact (Has.cons (hI21.at 1 rfl) Has.nil)
        have hS11 : Has [(b2, #[.int .i64 n0, .int .i64 n1, .int .i64 n2], 30)] _ := (Has.cons (hI21.at 1 rfl) Has.nil)
        refine any_val (i := 9) (v := .int .i64 (moreF n1 y)) hf27 rfl rfl rfl rfl rfl rfl (fun _ _ _ h => h) (by kernel_rfl) (by kernel_rfl) (by kernel_rfl) (fun wd12 hS11 => (r_field fi_30_1 ag_3 rfl rfl)) hS11 fun ac28 hf28 => ?_
        refine any_one (i := 13) (by kernel_rfl) ?_
        refine (op_pure hf28 rfl rfl rfl rfl ca_12 (with_pur n0 n1 n2 z n0l n0r n1l n1r n2l n2r (Int.le_trans (by decide) zl) (Int.le_trans zr (by decide))) hI21 fun ac29 wd13 hI22 hf29 => ⟨?_, ?_⟩)
        · exact (Has.cons (hI22.at 1 rfl) Has.nil)
        have hS12 : Has [(b2, #[.int .i64 n0, .int .i64 n1, .int .i64 n2], 30)] _ := (Has.cons (hI22.at 1 rfl) Has.nil)
        refine any_val (i := 14) (v := .int .i64 (moreF n2 z)) hf29 rfl rfl rfl rfl rfl rfl (fun _ _ _ h => h) (by kernel_rfl) (by kernel_rfl) (by kernel_rfl) (fun wd13 hS12 => (r_field fi_30_2 ag_3 rfl rfl)) hS12 fun ac30 hf30 => ?_
        refine any_val (i := 15) (v := .agg #[.int .i64 (moreF n0 x), .int .i64 (moreF n1 y), .int .i64 (moreF n2 z)]) hf30 rfl rfl rfl rfl rfl rfl (fun _ _ _ h => h) (by kernel_rfl) (by kernel_rfl) (by kernel_rfl) (fun wd13 hS12 => (r_build (v := .agg #[.int .i64 (moreF n0 x), .int .i64 (moreF n1 y), .int .i64 (moreF n2 z)]) rfl (fun _ => by kernel_rfl))) hS12 fun ac31 hf31 => ?_
        refine any_one (i := 17) (by kernel_rfl) ?_
        refine (op_storeW (cells := #[.int .i64 (moreF n0 x), .int .i64 (moreF n1 y), .int .i64 (moreF n2 z)]) 2 hf31 rfl rfl rfl rfl rfl sz_30 rfl rfl hI22 rfl rfl fun wd14 hI23 => ⟨?_, ?_⟩)
        · exact (Has.cons (hI23.at 1 rfl) Has.nil)
        have hI24 : Inv w [(b1, cs, 28), (b2, #[.int .i64 n0, .int .i64 n1, .int .i64 n2], 30), (b3, #[.int .i64 (moreF n0 x), .int .i64 (moreF n1 y), .int .i64 (moreF n2 z)], 30)] wd14 := hI23
        have hS13 : Has [(b2, #[.int .i64 n0, .int .i64 n1, .int .i64 n2], 30)] _ := (Has.cons (hI24.at 1 rfl) Has.nil)
        refine any_end (by kernel_rfl) ?_
        clear hI5 ac4 hf4 ac5 hf5 ac6 hf6 ac7 hf7 ac8 hf8 ac9 hf9 ac10 hf10 ac11 hf11 ac12 hf12 ac13 wd2 hI6 hf13 hS1 ac14 hf14 ac15 wd3 hI7 hf15 hI19 hS2 ac26 wd11 hI20 hf26 hS10 ac27 hf27 ac28 wd12 hI21 hf28 hS11 ac29 hf29 ac30 hf30 wd13 hI22 hI23 hS12 hS13
        refine then_normal ?_
        exact ⟨(b3), (hf31.cons 0 rfl (hf31.cons 1 rfl (hf31.cons 2 rfl (hf31.cons 3 rfl (hf31.cons 4 rfl (hf31.cons 5 rfl (hf31.cons 6 rfl (hf31.cons 10 rfl (hf31.cons 11 rfl hf31.nil))))))))), ⟨hI24, hb3⟩⟩
    ·
      refine (op_alloc hf13 rfl rfl rfl ze_30 hI6 fun ac32 b3 wd15 hb3 hI25 hf32 => ⟨?_, ?_⟩)
      · exact (Has.cons (hI25.at 1 rfl) Has.nil)
      have hI26 : Inv w [(b1, cs, 28), (b2, #[.int .i64 n0, .int .i64 n1, .int .i64 n2], 30), (b3, #[.int .i64 0, .int .i64 0, .int .i64 0], 30)] wd15 := hI25
      have hS14 : Has [(b2, #[.int .i64 n0, .int .i64 n1, .int .i64 n2], 30)] _ := (Has.cons (hI26.at 1 rfl) Has.nil)
      refine any_one (i := 3) (by kernel_rfl) ?_
      refine (op_pure hf32 rfl rfl rfl rfl ca_12 (with_pur n0 n1 n2 x n0l n0r n1l n1r n2l n2r (Int.le_trans (by decide) xl) (Int.le_trans xr (by decide))) hI26 fun ac33 wd16 hI27 hf33 => ⟨?_, ?_⟩)
      · exact (Has.cons (hI27.at 1 rfl) Has.nil)
      have hS15 : Has [(b2, #[.int .i64 n0, .int .i64 n1, .int .i64 n2], 30)] _ := (Has.cons (hI27.at 1 rfl) Has.nil)
      refine any_val (i := 4) (v := .int .i64 (moreF n0 x)) hf33 rfl rfl rfl rfl rfl rfl (fun _ _ _ h => h) (by kernel_rfl) (by kernel_rfl) (by kernel_rfl) (fun wd16 hS15 => (r_field fi_30_0 ag_3 rfl rfl)) hS15 fun ac34 hf34 => ?_
      refine any_one (i := 8) (by kernel_rfl) ?_
      refine (op_pure hf34 rfl rfl rfl rfl ca_12 (with_pur n0 n1 n2 y n0l n0r n1l n1r n2l n2r (Int.le_trans (by decide) yl) (Int.le_trans yr (by decide))) hI27 fun ac35 wd17 hI28 hf35 => ⟨?_, ?_⟩)
      · exact (Has.cons (hI28.at 1 rfl) Has.nil)
      have hS16 : Has [(b2, #[.int .i64 n0, .int .i64 n1, .int .i64 n2], 30)] _ := (Has.cons (hI28.at 1 rfl) Has.nil)
      refine any_val (i := 9) (v := .int .i64 (moreF n1 y)) hf35 rfl rfl rfl rfl rfl rfl (fun _ _ _ h => h) (by kernel_rfl) (by kernel_rfl) (by kernel_rfl) (fun wd17 hS16 => (r_field fi_30_1 ag_3 rfl rfl)) hS16 fun ac36 hf36 => ?_
      refine any_one (i := 13) (by kernel_rfl) ?_
      refine (op_pure hf36 rfl rfl rfl rfl ca_12 (with_pur n0 n1 n2 z n0l n0r n1l n1r n2l n2r (Int.le_trans (by decide) zl) (Int.le_trans zr (by decide))) hI28 fun ac37 wd18 hI29 hf37 => ⟨?_, ?_⟩)
      · exact (Has.cons (hI29.at 1 rfl) Has.nil)
      have hS17 : Has [(b2, #[.int .i64 n0, .int .i64 n1, .int .i64 n2], 30)] _ := (Has.cons (hI29.at 1 rfl) Has.nil)
      refine any_val (i := 14) (v := .int .i64 (moreF n2 z)) hf37 rfl rfl rfl rfl rfl rfl (fun _ _ _ h => h) (by kernel_rfl) (by kernel_rfl) (by kernel_rfl) (fun wd18 hS17 => (r_field fi_30_2 ag_3 rfl rfl)) hS17 fun ac38 hf38 => ?_
      refine any_val (i := 15) (v := .agg #[.int .i64 (moreF n0 x), .int .i64 (moreF n1 y), .int .i64 (moreF n2 z)]) hf38 rfl rfl rfl rfl rfl rfl (fun _ _ _ h => h) (by kernel_rfl) (by kernel_rfl) (by kernel_rfl) (fun wd18 hS17 => (r_build (v := .agg #[.int .i64 (moreF n0 x), .int .i64 (moreF n1 y), .int .i64 (moreF n2 z)]) rfl (fun _ => by kernel_rfl))) hS17 fun ac39 hf39 => ?_
      refine any_one (i := 17) (by kernel_rfl) ?_
      refine (op_storeW (cells := #[.int .i64 (moreF n0 x), .int .i64 (moreF n1 y), .int .i64 (moreF n2 z)]) 2 hf39 rfl rfl rfl rfl rfl sz_30 rfl rfl hI29 rfl rfl fun wd19 hI30 => ⟨?_, ?_⟩)
      · exact (Has.cons (hI30.at 1 rfl) Has.nil)
      have hI31 : Inv w [(b1, cs, 28), (b2, #[.int .i64 n0, .int .i64 n1, .int .i64 n2], 30), (b3, #[.int .i64 (moreF n0 x), .int .i64 (moreF n1 y), .int .i64 (moreF n2 z)], 30)] wd19 := hI30
      have hS18 : Has [(b2, #[.int .i64 n0, .int .i64 n1, .int .i64 n2], 30)] _ := (Has.cons (hI31.at 1 rfl) Has.nil)
      refine any_end (by kernel_rfl) ?_
      clear hI5 ac4 hf4 ac5 hf5 ac6 hf6 ac7 hf7 ac8 hf8 ac9 hf9 ac10 hf10 ac11 hf11 ac12 hf12 ac13 wd2 hI6 hf13 hI25 hS1 ac32 wd15 hI26 hf32 hS14 ac33 hf33 ac34 wd16 hI27 hf34 hS15 ac35 hf35 ac36 wd17 hI28 hf36 hS16 ac37 hf37 ac38 hf38 wd18 hI29 hI30 hS17 hS18
      refine then_normal ?_
      exact ⟨(b3), (hf39.cons 0 rfl (hf39.cons 1 rfl (hf39.cons 2 rfl (hf39.cons 3 rfl (hf39.cons 4 rfl (hf39.cons 5 rfl (hf39.cons 6 rfl (hf39.cons 10 rfl (hf39.cons 11 rfl hf39.nil))))))))), ⟨hI31, hb3⟩⟩
  ·
    intro b3 ac40 wd20 hf40 ⟨hI32, hb3⟩
    clear ac4 wd2 hf4 hI5
    refine then_normal ?_
    refine code_seq ?_
    refine seq_start (l := [0, 1, 2]) rfl ?_
    refine seq_one (op_val (v := .agg cs) hf40 rfl rfl rfl rfl rfl rfl (r_loadW ag_28 sz_28 rfl (hI32.at 0 rfl) hc.size) fun ac41 hf41 => ?_)
    refine seq_one (op_alloc hf41 rfl rfl rfl ze_28 hI32 fun ac42 b4 wd21 hb4 hI33 hf42 => ?_)
    have hI34 : Inv w [(b1, cs, 28), (b2, #[.int .i64 n0, .int .i64 n1, .int .i64 n2], 30), (b3, #[.int .i64 (moreF n0 x), .int .i64 (moreF n1 y), .int .i64 (moreF n2 z)], 30), (b4, #[.int .i64 0, .int .i64 0, .int .i64 0, .int .i64 0, .int .i64 0, .int .i64 0, .int .i64 0, .int .u64 0, .int .u64 0, .int .u64 0, .int .i64 0, .int .i64 0, .int .i64 0, .int .u8 0, .int .u8 0, .int .u8 0, .int .u8 0, .int .u8 0, .int .u8 0, .int .u8 0, .int .u8 0, .int .u8 0, .int .u8 0, .int .u8 0, .int .u8 0, .int .u8 0, .int .u8 0, .int .u8 0, .int .u8 0, .int .u64 0, .bool false, .int .u64 0, .int .i64 0, .int .u64 0, .int .i64 0, .int .i64 0, .int .i64 0], 28)] wd21 := hI33
    refine seq_one (op_storeW (cells := cs) 3 hf42 rfl rfl rfl rfl rfl sz_28 hc.size hc.one hI34 rfl rfl fun wd22 hI35 => ?_)
    have hI36 : Inv w [(b1, cs, 28), (b2, #[.int .i64 n0, .int .i64 n1, .int .i64 n2], 30), (b3, #[.int .i64 (moreF n0 x), .int .i64 (moreF n1 y), .int .i64 (moreF n2 z)], 30), (b4, cs, 28)] wd22 := hI35
    refine seq_end ?_
    clear ac40 hf40 ac41 wd20 hI32 hf41 hI33 wd21 hI34 hI35
    refine then_normal ?_
    refine code_seq ?_
    refine any_start (fun w => Has [(b1, cs, 28)] w) follows (Has.drew (Has.cons (hI36.at 0 rfl) Has.nil)) ?_
    have hS19 : Has [(b1, cs, 28)] _ := Has.drew (Has.cons (hI36.at 0 rfl) Has.nil)
    have hI37 := hI36.drew
    refine any_val (i := 0) (v := .pointer (some ⟨b1, 0, none⟩)) hf42 rfl rfl rfl rfl rfl rfl (fun _ _ _ h => h) (by kernel_rfl) (by kernel_rfl) (by kernel_rfl) (fun wd22 hS19 => (r_fieldAddr fi_28_0 rfl rfl)) hS19 fun ac43 hf43 => ?_
    refine any_val (i := 1) (v := .int .i64 r) hf43 rfl rfl rfl rfl rfl rfl (fun _ _ _ h => h) (by kernel_rfl) (by kernel_rfl) (by kernel_rfl) (fun wd22 hS19 => (r_load ag_3 rfl (hS19.at 0 rfl) hc.c0)) hS19 fun ac44 hf44 => ?_
    refine any_val (i := 2) (v := .agg #[.int .i64 r, .int .i64 0, .int .i64 0]) hf44 rfl rfl rfl rfl rfl rfl (fun _ _ _ h => h) (by kernel_rfl) (by kernel_rfl) (by kernel_rfl) (fun wd22 hS19 => (r_build (v := .agg #[.int .i64 r, .int .i64 0, .int .i64 0]) rfl (fun _ => by kernel_rfl))) hS19 fun ac45 hf45 => ?_
    refine any_val (i := 3) (v := .int .u32 x) hf45 rfl rfl rfl rfl rfl rfl (fun _ _ _ h => h) (by kernel_rfl) (by kernel_rfl) (by kernel_rfl) (fun wd22 hS19 => (r_move rfl)) hS19 fun ac46 hf46 => ?_
    refine any_val (i := 4) (v := .int .i64 x) hf46 rfl rfl rfl rfl rfl rfl (fun _ _ _ h => h) (by kernel_rfl) (by kernel_rfl) (by kernel_rfl) (fun wd22 hS19 => (r_conv (c := x) ui_38 ui_3 rfl (wrap_i64 (Int.le_trans (by decide) xl) (Int.le_trans xr (by decide))))) hS19 fun ac47 hf47 => ?_
    refine any_val (i := 7) (v := .pointer (some ⟨b1, 4, none⟩)) hf47 rfl rfl rfl rfl rfl rfl (fun _ _ _ h => h) (by kernel_rfl) (by kernel_rfl) (by kernel_rfl) (fun wd22 hS19 => (r_fieldAddr fi_28_4 rfl rfl)) hS19 fun ac48 hf48 => ?_
    refine any_val (i := 8) (v := .int .i64 b) hf48 rfl rfl rfl rfl rfl rfl (fun _ _ _ h => h) (by kernel_rfl) (by kernel_rfl) (by kernel_rfl) (fun wd22 hS19 => (r_load ag_3 rfl (hS19.at 0 rfl) hc.c4)) hS19 fun ac49 hf49 => ?_
    refine any_val (i := 9) (v := .agg #[.int .i64 0, .int .i64 b, .int .i64 0]) hf49 rfl rfl rfl rfl rfl rfl (fun _ _ _ h => h) (by kernel_rfl) (by kernel_rfl) (by kernel_rfl) (fun wd22 hS19 => (r_build (v := .agg #[.int .i64 0, .int .i64 b, .int .i64 0]) rfl (fun _ => by kernel_rfl))) hS19 fun ac50 hf50 => ?_
    refine any_val (i := 10) (v := .int .u32 y) hf50 rfl rfl rfl rfl rfl rfl (fun _ _ _ h => h) (by kernel_rfl) (by kernel_rfl) (by kernel_rfl) (fun wd22 hS19 => (r_move rfl)) hS19 fun ac51 hf51 => ?_
    refine any_val (i := 11) (v := .int .i64 y) hf51 rfl rfl rfl rfl rfl rfl (fun _ _ _ h => h) (by kernel_rfl) (by kernel_rfl) (by kernel_rfl) (fun wd22 hS19 => (r_conv (c := y) ui_38 ui_3 rfl (wrap_i64 (Int.le_trans (by decide) yl) (Int.le_trans yr (by decide))))) hS19 fun ac52 hf52 => ?_
    refine any_val (i := 14) (v := .pointer (some ⟨b1, 3, none⟩)) hf52 rfl rfl rfl rfl rfl rfl (fun _ _ _ h => h) (by kernel_rfl) (by kernel_rfl) (by kernel_rfl) (fun wd22 hS19 => (r_fieldAddr fi_28_3 rfl rfl)) hS19 fun ac53 hf53 => ?_
    refine any_val (i := 15) (v := .int .i64 f) hf53 rfl rfl rfl rfl rfl rfl (fun _ _ _ h => h) (by kernel_rfl) (by kernel_rfl) (by kernel_rfl) (fun wd22 hS19 => (r_load ag_3 rfl (hS19.at 0 rfl) hc.c3)) hS19 fun ac54 hf54 => ?_
    refine any_val (i := 16) (v := .agg #[.int .i64 0, .int .i64 0, .int .i64 f]) hf54 rfl rfl rfl rfl rfl rfl (fun _ _ _ h => h) (by kernel_rfl) (by kernel_rfl) (by kernel_rfl) (fun wd22 hS19 => (r_build (v := .agg #[.int .i64 0, .int .i64 0, .int .i64 f]) rfl (fun _ => by kernel_rfl))) hS19 fun ac55 hf55 => ?_
    refine any_val (i := 17) (v := .int .u32 z) hf55 rfl rfl rfl rfl rfl rfl (fun _ _ _ h => h) (by kernel_rfl) (by kernel_rfl) (by kernel_rfl) (fun wd22 hS19 => (r_move rfl)) hS19 fun ac56 hf56 => ?_
    refine any_val (i := 18) (v := .int .i64 z) hf56 rfl rfl rfl rfl rfl rfl (fun _ _ _ h => h) (by kernel_rfl) (by kernel_rfl) (by kernel_rfl) (fun wd22 hS19 => (r_conv (c := z) ui_38 ui_3 rfl (wrap_i64 (Int.le_trans (by decide) zl) (Int.le_trans zr (by decide))))) hS19 fun ac57 hf57 => ?_
    refine any_one (i := 5) (by kernel_rfl) ?_
    refine (op_pure hf57 rfl rfl rfl rfl ca_12 (with_pur r 0 0 x hc.rl hc.rr (by decide) (by decide) (by decide) (by decide) (Int.le_trans (by decide) xl) (Int.le_trans xr (by decide))) hI37 fun ac58 wd23 hI38 hf58 => ⟨?_, ?_⟩)
    · exact (Has.cons (hI38.at 0 rfl) Has.nil)
    have hS20 : Has [(b1, cs, 28)] _ := (Has.cons (hI38.at 0 rfl) Has.nil)
    refine any_val (i := 6) (v := .int .i64 (moreF r x)) hf58 rfl rfl rfl rfl rfl rfl (fun _ _ _ h => h) (by kernel_rfl) (by kernel_rfl) (by kernel_rfl) (fun wd23 hS20 => (r_field fi_30_0 ag_3 rfl rfl)) hS20 fun ac59 hf59 => ?_
    refine any_val (i := 21) (v := .pointer (some ⟨b4, 0, none⟩)) hf59 rfl rfl rfl rfl rfl rfl (fun _ _ _ h => h) (by kernel_rfl) (by kernel_rfl) (by kernel_rfl) (fun wd23 hS20 => (r_fieldAddr fi_28_0 rfl rfl)) hS20 fun ac60 hf60 => ?_
    refine any_one (i := 12) (by kernel_rfl) ?_
    refine (op_pure hf60 rfl rfl rfl rfl ca_12 (with_pur 0 b 0 y (by decide) (by decide) hc.bl hc.br (by decide) (by decide) (Int.le_trans (by decide) yl) (Int.le_trans yr (by decide))) hI38 fun ac61 wd24 hI39 hf61 => ⟨?_, ?_⟩)
    · exact (Has.cons (hI39.at 0 rfl) Has.nil)
    have hS21 : Has [(b1, cs, 28)] _ := (Has.cons (hI39.at 0 rfl) Has.nil)
    refine any_val (i := 13) (v := .int .i64 (moreF b y)) hf61 rfl rfl rfl rfl rfl rfl (fun _ _ _ h => h) (by kernel_rfl) (by kernel_rfl) (by kernel_rfl) (fun wd24 hS21 => (r_field fi_30_1 ag_3 rfl rfl)) hS21 fun ac62 hf62 => ?_
    refine any_one (i := 19) (by kernel_rfl) ?_
    refine (op_pure hf62 rfl rfl rfl rfl ca_12 (with_pur 0 0 f z (by decide) (by decide) (by decide) (by decide) hc.fl hc.fr (Int.le_trans (by decide) zl) (Int.le_trans zr (by decide))) hI39 fun ac63 wd25 hI40 hf63 => ⟨?_, ?_⟩)
    · exact (Has.cons (hI40.at 0 rfl) Has.nil)
    have hS22 : Has [(b1, cs, 28)] _ := (Has.cons (hI40.at 0 rfl) Has.nil)
    refine any_val (i := 20) (v := .int .i64 (moreF f z)) hf63 rfl rfl rfl rfl rfl rfl (fun _ _ _ h => h) (by kernel_rfl) (by kernel_rfl) (by kernel_rfl) (fun wd25 hS22 => (r_field fi_30_2 ag_3 rfl rfl)) hS22 fun ac64 hf64 => ?_
    refine any_one (i := 22) (by kernel_rfl) ?_
    refine (op_store 3 hf64 rfl rfl rfl rfl rfl sz_3 hI40 rfl (by rw [hc.size]; decide) rfl fun wd26 hI41 => ⟨?_, ?_⟩)
    · exact (Has.cons (hI41.at 0 rfl) Has.nil)
    have hI42 : Inv w [(b1, cs, 28), (b2, #[.int .i64 n0, .int .i64 n1, .int .i64 n2], 30), (b3, #[.int .i64 (moreF n0 x), .int .i64 (moreF n1 y), .int .i64 (moreF n2 z)], 30), (b4, (cs.setIfInBounds 0 (.int .i64 (moreF r x))), 28)] wd26 := hI41
    have hS23 : Has [(b1, cs, 28)] _ := (Has.cons (hI42.at 0 rfl) Has.nil)
    refine any_val (i := 23) (v := .pointer (some ⟨b4, 4, none⟩)) hf64 rfl rfl rfl rfl rfl rfl (fun _ _ _ h => h) (by kernel_rfl) (by kernel_rfl) (by kernel_rfl) (fun wd26 hS23 => (r_fieldAddr fi_28_4 rfl rfl)) hS23 fun ac65 hf65 => ?_
    refine any_one (i := 24) (by kernel_rfl) ?_
    refine (op_store 3 hf65 rfl rfl rfl rfl rfl sz_3 hI42 rfl (by rw [(hc.set0 (moreF_range hc.rl hc.rr (Int.le_trans (by decide) xl) (Int.le_trans xr (by decide))).1 (moreF_range hc.rl hc.rr (Int.le_trans (by decide) xl) (Int.le_trans xr (by decide))).2).size]; decide) rfl fun wd27 hI43 => ⟨?_, ?_⟩)
    · exact (Has.cons (hI43.at 0 rfl) Has.nil)
    have hI44 : Inv w [(b1, cs, 28), (b2, #[.int .i64 n0, .int .i64 n1, .int .i64 n2], 30), (b3, #[.int .i64 (moreF n0 x), .int .i64 (moreF n1 y), .int .i64 (moreF n2 z)], 30), (b4, ((cs.setIfInBounds 0 (.int .i64 (moreF r x))).setIfInBounds 4 (.int .i64 (moreF b y))), 28)] wd27 := hI43
    have hS24 : Has [(b1, cs, 28)] _ := (Has.cons (hI44.at 0 rfl) Has.nil)
    refine any_val (i := 25) (v := .pointer (some ⟨b4, 3, none⟩)) hf65 rfl rfl rfl rfl rfl rfl (fun _ _ _ h => h) (by kernel_rfl) (by kernel_rfl) (by kernel_rfl) (fun wd27 hS24 => (r_fieldAddr fi_28_3 rfl rfl)) hS24 fun ac66 hf66 => ?_
    refine any_one (i := 26) (by kernel_rfl) ?_
    refine (op_store 3 hf66 rfl rfl rfl rfl rfl sz_3 hI44 rfl (by rw [((hc.set0 (moreF_range hc.rl hc.rr (Int.le_trans (by decide) xl) (Int.le_trans xr (by decide))).1 (moreF_range hc.rl hc.rr (Int.le_trans (by decide) xl) (Int.le_trans xr (by decide))).2).set4 (moreF_range hc.bl hc.br (Int.le_trans (by decide) yl) (Int.le_trans yr (by decide))).1 (moreF_range hc.bl hc.br (Int.le_trans (by decide) yl) (Int.le_trans yr (by decide))).2).size]; decide) rfl fun wd28 hI45 => ⟨?_, ?_⟩)
    · exact (Has.cons (hI45.at 0 rfl) Has.nil)
    have hI46 : Inv w [(b1, cs, 28), (b2, #[.int .i64 n0, .int .i64 n1, .int .i64 n2], 30), (b3, #[.int .i64 (moreF n0 x), .int .i64 (moreF n1 y), .int .i64 (moreF n2 z)], 30), (b4, (((cs.setIfInBounds 0 (.int .i64 (moreF r x))).setIfInBounds 4 (.int .i64 (moreF b y))).setIfInBounds 3 (.int .i64 (moreF f z))), 28)] wd28 := hI45
    have hS25 : Has [(b1, cs, 28)] _ := (Has.cons (hI46.at 0 rfl) Has.nil)
    refine any_end (by kernel_rfl) ?_
    clear hI36 ac42 hf42 ac43 hf43 ac44 hf44 ac45 hf45 ac46 hf46 ac47 hf47 ac48 hf48 ac49 hf49 ac50 hf50 ac51 hf51 ac52 hf52 ac53 hf53 ac54 hf54 ac55 hf55 ac56 hf56 ac57 wd22 hI37 hf57 hS19 ac58 hf58 ac59 hf59 ac60 wd23 hI38 hf60 hS20 ac61 hf61 ac62 wd24 hI39 hf62 hS21 ac63 hf63 wd25 hI40 hI41 hS22 ac64 hf64 wd26 hI42 hI43 hS23 ac65 hf65 wd27 hI44 hI45 hS24 hS25
    refine then_normal ?_
    refine code_seq ?_
    refine code_seq ?_
    refine code_join 138 ([(0, .agg cs), (1, .agg #[.int .i64 n0, .int .i64 n1, .int .i64 n2]), (2, .int .u32 x), (3, .int .u32 y), (4, .int .u32 z), (5, .pointer (some ⟨b1, 0, none⟩)), (6, .pointer (some ⟨b2, 0, none⟩)), (10, .bool false), (11, .pointer (some ⟨b3, 0, none⟩)), (12, .pointer (some ⟨b4, 0, none⟩)), (30, .agg cs), (31, .pointer (some ⟨b1, 0, none⟩)), (32, .int .i64 r), (33, .agg #[.int .i64 r, .int .i64 0, .int .i64 0]), (34, .int .u32 x), (35, .int .i64 x), (36, .agg #[.int .i64 (moreF r x), .int .i64 (moreF 0 x), .int .i64 (moreF 0 x)]), (37, .int .i64 (moreF r x)), (38, .pointer (some ⟨b1, 4, none⟩)), (39, .int .i64 b), (40, .agg #[.int .i64 0, .int .i64 b, .int .i64 0]), (41, .int .u32 y), (42, .int .i64 y), (43, .agg #[.int .i64 (moreF 0 y), .int .i64 (moreF b y), .int .i64 (moreF 0 y)]), (44, .int .i64 (moreF b y)), (45, .pointer (some ⟨b1, 3, none⟩)), (46, .int .i64 f), (47, .agg #[.int .i64 0, .int .i64 0, .int .i64 f]), (48, .int .u32 z), (49, .int .i64 z), (50, .agg #[.int .i64 (moreF 0 z), .int .i64 (moreF 0 z), .int .i64 (moreF f z)]), (51, .int .i64 (moreF f z)), (52, .pointer (some ⟨b4, 0, none⟩)), (53, .pointer (some ⟨b4, 4, none⟩)), (54, .pointer (some ⟨b4, 3, none⟩)), (94, .bool false)]) (fun w' => Inv w [(b1, cs, 28), (b2, #[.int .i64 n0, .int .i64 n1, .int .i64 n2], 30), (b3, #[.int .i64 (moreF n0 x), .int .i64 (moreF n1 y), .int .i64 (moreF n2 z)], 30), (b4, (((cs.setIfInBounds 0 (.int .i64 (moreF r x))).setIfInBounds 4 (.int .i64 (moreF b y))).setIfInBounds 3 (.int .i64 (moreF f z))), 28)] w') ?_ ?_
    ·
      refine any_start (fun w => Has [(b1, cs, 28), (b2, #[.int .i64 n0, .int .i64 n1, .int .i64 n2], 30), (b3, #[.int .i64 (moreF n0 x), .int .i64 (moreF n1 y), .int .i64 (moreF n2 z)], 30), (b4, (((cs.setIfInBounds 0 (.int .i64 (moreF r x))).setIfInBounds 4 (.int .i64 (moreF b y))).setIfInBounds 3 (.int .i64 (moreF f z))), 28)] w) follows (Has.drew (Has.cons (hI46.at 0 rfl) (Has.cons (hI46.at 1 rfl) (Has.cons (hI46.at 2 rfl) (Has.cons (hI46.at 3 rfl) Has.nil))))) ?_
      have hS26 : Has [(b1, cs, 28), (b2, #[.int .i64 n0, .int .i64 n1, .int .i64 n2], 30), (b3, #[.int .i64 (moreF n0 x), .int .i64 (moreF n1 y), .int .i64 (moreF n2 z)], 30), (b4, (((cs.setIfInBounds 0 (.int .i64 (moreF r x))).setIfInBounds 4 (.int .i64 (moreF b y))).setIfInBounds 3 (.int .i64 (moreF f z))), 28)] _ := Has.drew (Has.cons (hI46.at 0 rfl) (Has.cons (hI46.at 1 rfl) (Has.cons (hI46.at 2 rfl) (Has.cons (hI46.at 3 rfl) Has.nil))))
      have hI47 := hI46.drew
      refine any_val (i := 0) (v := .agg cs) hf66 rfl rfl rfl rfl rfl rfl (fun _ _ _ h => h) (by kernel_rfl) (by kernel_rfl) (by kernel_rfl) (fun wd28 hS26 => (r_loadW ag_28 sz_28 rfl (hS26.at 0 rfl) hc.size)) hS26 fun ac67 hf67 => ?_
      refine any_val (i := 1) (v := .agg #[.int .i64 (moreF n0 x), .int .i64 (moreF n1 y), .int .i64 (moreF n2 z)]) hf67 rfl rfl rfl rfl rfl rfl (fun _ _ _ h => h) (by kernel_rfl) (by kernel_rfl) (by kernel_rfl) (fun wd28 hS26 => (r_loadW ag_30 sz_30 rfl (hS26.at 2 rfl) rfl)) hS26 fun ac68 hf68 => ?_
      refine any_val (i := 3) (v := .agg cs) hf68 rfl rfl rfl rfl rfl rfl (fun _ _ _ h => h) (by kernel_rfl) (by kernel_rfl) (by kernel_rfl) (fun wd28 hS26 => (r_loadW ag_28 sz_28 rfl (hS26.at 0 rfl) hc.size)) hS26 fun ac69 hf69 => ?_
      refine any_val (i := 4) (v := .agg #[.int .i64 n0, .int .i64 n1, .int .i64 n2]) hf69 rfl rfl rfl rfl rfl rfl (fun _ _ _ h => h) (by kernel_rfl) (by kernel_rfl) (by kernel_rfl) (fun wd28 hS26 => (r_loadW ag_30 sz_30 rfl (hS26.at 1 rfl) rfl)) hS26 fun ac70 hf70 => ?_
      refine any_one (i := 2) (by kernel_rfl) ?_
      refine (op_pure hf70 rfl rfl rfl rfl ca_10 (left_pur _ r b f (moreF n0 x) (moreF n1 y) (moreF n2 z) hc (moreF_range n0l n0r (Int.le_trans (by decide) xl) (Int.le_trans xr (by decide))).1 (moreF_range n0l n0r (Int.le_trans (by decide) xl) (Int.le_trans xr (by decide))).2 (moreF_range n1l n1r (Int.le_trans (by decide) yl) (Int.le_trans yr (by decide))).1 (moreF_range n1l n1r (Int.le_trans (by decide) yl) (Int.le_trans yr (by decide))).2 (moreF_range n2l n2r (Int.le_trans (by decide) zl) (Int.le_trans zr (by decide))).1 (moreF_range n2l n2r (Int.le_trans (by decide) zl) (Int.le_trans zr (by decide))).2) hI47 fun ac71 wd29 hI48 hf71 => ⟨?_, ?_⟩)
      · exact (Has.cons (hI48.at 0 rfl) (Has.cons (hI48.at 1 rfl) (Has.cons (hI48.at 2 rfl) (Has.cons (hI48.at 3 rfl) Has.nil))))
      have hS27 : Has [(b1, cs, 28), (b2, #[.int .i64 n0, .int .i64 n1, .int .i64 n2], 30), (b3, #[.int .i64 (moreF n0 x), .int .i64 (moreF n1 y), .int .i64 (moreF n2 z)], 30), (b4, (((cs.setIfInBounds 0 (.int .i64 (moreF r x))).setIfInBounds 4 (.int .i64 (moreF b y))).setIfInBounds 3 (.int .i64 (moreF f z))), 28)] _ := (Has.cons (hI48.at 0 rfl) (Has.cons (hI48.at 1 rfl) (Has.cons (hI48.at 2 rfl) (Has.cons (hI48.at 3 rfl) Has.nil))))
      refine any_one (i := 5) (by kernel_rfl) ?_
      refine (op_pure hf71 rfl rfl rfl rfl ca_10 (left_pur _ r b f n0 n1 n2 hc n0l n0r n1l n1r n2l n2r) hI48 fun ac72 wd30 hI49 hf72 => ⟨?_, ?_⟩)
      · exact (Has.cons (hI49.at 0 rfl) (Has.cons (hI49.at 1 rfl) (Has.cons (hI49.at 2 rfl) (Has.cons (hI49.at 3 rfl) Has.nil))))
      have hS28 : Has [(b1, cs, 28), (b2, #[.int .i64 n0, .int .i64 n1, .int .i64 n2], 30), (b3, #[.int .i64 (moreF n0 x), .int .i64 (moreF n1 y), .int .i64 (moreF n2 z)], 30), (b4, (((cs.setIfInBounds 0 (.int .i64 (moreF r x))).setIfInBounds 4 (.int .i64 (moreF b y))).setIfInBounds 3 (.int .i64 (moreF f z))), 28)] _ := (Has.cons (hI49.at 0 rfl) (Has.cons (hI49.at 1 rfl) (Has.cons (hI49.at 2 rfl) (Has.cons (hI49.at 3 rfl) Has.nil))))
      refine any_val (i := 6) (v := .bool (decide ((leftF r b f (moreF n0 x) (moreF n1 y) (moreF n2 z)) > (leftF r b f n0 n1 n2)))) hf72 rfl rfl rfl rfl rfl rfl (fun _ _ _ h => h) (by kernel_rfl) (by kernel_rfl) (by kernel_rfl) (fun wd30 hS28 => (r_gtr rfl rfl)) hS28 fun ac73 hf73 => ?_
      refine any_val (i := 7) (v := .bool (decide ((leftF r b f (moreF n0 x) (moreF n1 y) (moreF n2 z)) > (leftF r b f n0 n1 n2)))) hf73 rfl rfl rfl rfl rfl rfl (fun _ _ _ h => h) (by kernel_rfl) (by kernel_rfl) (by kernel_rfl) (fun wd30 hS28 => (r_move rfl)) hS28 fun ac74 hf74 => ?_
      have hf75 := hf74.know 62 (u := .bool false) rfl (congrArg Value.bool (law5_62 hc n0l n0r n1l n1r n2l n2r xl yl zl))
      refine any_val (i := 8) (v := .agg (((cs.setIfInBounds 0 (.int .i64 (moreF r x))).setIfInBounds 4 (.int .i64 (moreF b y))).setIfInBounds 3 (.int .i64 (moreF f z)))) hf75 rfl rfl rfl rfl rfl rfl (fun _ _ _ h => h) (by kernel_rfl) (by kernel_rfl) (by kernel_rfl) (fun wd30 hS28 => (r_loadW ag_28 sz_28 rfl (hS28.at 3 rfl) (((hc.set0 (moreF_range hc.rl hc.rr (Int.le_trans (by decide) xl) (Int.le_trans xr (by decide))).1 (moreF_range hc.rl hc.rr (Int.le_trans (by decide) xl) (Int.le_trans xr (by decide))).2).set4 (moreF_range hc.bl hc.br (Int.le_trans (by decide) yl) (Int.le_trans yr (by decide))).1 (moreF_range hc.bl hc.br (Int.le_trans (by decide) yl) (Int.le_trans yr (by decide))).2).set3 (moreF_range hc.fl hc.fr (Int.le_trans (by decide) zl) (Int.le_trans zr (by decide))).1 (moreF_range hc.fl hc.fr (Int.le_trans (by decide) zl) (Int.le_trans zr (by decide))).2).size)) hS28 fun ac75 hf76 => ?_
      refine any_val (i := 9) (v := .agg #[.int .i64 n0, .int .i64 n1, .int .i64 n2]) hf76 rfl rfl rfl rfl rfl rfl (fun _ _ _ h => h) (by kernel_rfl) (by kernel_rfl) (by kernel_rfl) (fun wd30 hS28 => (r_loadW ag_30 sz_30 rfl (hS28.at 1 rfl) rfl)) hS28 fun ac76 hf77 => ?_
      refine any_val (i := 11) (v := .agg cs) hf77 rfl rfl rfl rfl rfl rfl (fun _ _ _ h => h) (by kernel_rfl) (by kernel_rfl) (by kernel_rfl) (fun wd30 hS28 => (r_loadW ag_28 sz_28 rfl (hS28.at 0 rfl) hc.size)) hS28 fun ac77 hf78 => ?_
      refine any_val (i := 12) (v := .agg #[.int .i64 n0, .int .i64 n1, .int .i64 n2]) hf78 rfl rfl rfl rfl rfl rfl (fun _ _ _ h => h) (by kernel_rfl) (by kernel_rfl) (by kernel_rfl) (fun wd30 hS28 => (r_loadW ag_30 sz_30 rfl (hS28.at 1 rfl) rfl)) hS28 fun ac78 hf79 => ?_
      refine any_one (i := 10) (by kernel_rfl) ?_
      refine (op_pure hf79 rfl rfl rfl rfl ca_10 (left_pur _ (moreF r x) (moreF b y) (moreF f z) n0 n1 n2 (((hc.set0 (moreF_range hc.rl hc.rr (Int.le_trans (by decide) xl) (Int.le_trans xr (by decide))).1 (moreF_range hc.rl hc.rr (Int.le_trans (by decide) xl) (Int.le_trans xr (by decide))).2).set4 (moreF_range hc.bl hc.br (Int.le_trans (by decide) yl) (Int.le_trans yr (by decide))).1 (moreF_range hc.bl hc.br (Int.le_trans (by decide) yl) (Int.le_trans yr (by decide))).2).set3 (moreF_range hc.fl hc.fr (Int.le_trans (by decide) zl) (Int.le_trans zr (by decide))).1 (moreF_range hc.fl hc.fr (Int.le_trans (by decide) zl) (Int.le_trans zr (by decide))).2) n0l n0r n1l n1r n2l n2r) hI49 fun ac79 wd31 hI50 hf80 => ⟨?_, ?_⟩)
      · exact (Has.cons (hI50.at 0 rfl) (Has.cons (hI50.at 1 rfl) (Has.cons (hI50.at 2 rfl) (Has.cons (hI50.at 3 rfl) Has.nil))))
      have hS29 : Has [(b1, cs, 28), (b2, #[.int .i64 n0, .int .i64 n1, .int .i64 n2], 30), (b3, #[.int .i64 (moreF n0 x), .int .i64 (moreF n1 y), .int .i64 (moreF n2 z)], 30), (b4, (((cs.setIfInBounds 0 (.int .i64 (moreF r x))).setIfInBounds 4 (.int .i64 (moreF b y))).setIfInBounds 3 (.int .i64 (moreF f z))), 28)] _ := (Has.cons (hI50.at 0 rfl) (Has.cons (hI50.at 1 rfl) (Has.cons (hI50.at 2 rfl) (Has.cons (hI50.at 3 rfl) Has.nil))))
      refine any_one (i := 13) (by kernel_rfl) ?_
      refine (op_pure hf80 rfl rfl rfl rfl ca_10 (left_pur _ r b f n0 n1 n2 hc n0l n0r n1l n1r n2l n2r) hI50 fun ac80 wd32 hI51 hf81 => ⟨?_, ?_⟩)
      · exact (Has.cons (hI51.at 0 rfl) (Has.cons (hI51.at 1 rfl) (Has.cons (hI51.at 2 rfl) (Has.cons (hI51.at 3 rfl) Has.nil))))
      have hS30 : Has [(b1, cs, 28), (b2, #[.int .i64 n0, .int .i64 n1, .int .i64 n2], 30), (b3, #[.int .i64 (moreF n0 x), .int .i64 (moreF n1 y), .int .i64 (moreF n2 z)], 30), (b4, (((cs.setIfInBounds 0 (.int .i64 (moreF r x))).setIfInBounds 4 (.int .i64 (moreF b y))).setIfInBounds 3 (.int .i64 (moreF f z))), 28)] _ := (Has.cons (hI51.at 0 rfl) (Has.cons (hI51.at 1 rfl) (Has.cons (hI51.at 2 rfl) (Has.cons (hI51.at 3 rfl) Has.nil))))
      refine any_val (i := 14) (v := .bool (decide ((leftF (moreF r x) (moreF b y) (moreF f z) n0 n1 n2) < (leftF r b f n0 n1 n2)))) hf81 rfl rfl rfl rfl rfl rfl (fun _ _ _ h => h) (by kernel_rfl) (by kernel_rfl) (by kernel_rfl) (fun wd32 hS30 => (r_lss rfl rfl)) hS30 fun ac81 hf82 => ?_
      refine any_val (i := 15) (v := .bool (decide ((leftF (moreF r x) (moreF b y) (moreF f z) n0 n1 n2) < (leftF r b f n0 n1 n2)))) hf82 rfl rfl rfl rfl rfl rfl (fun _ _ _ h => h) (by kernel_rfl) (by kernel_rfl) (by kernel_rfl) (fun wd32 hS30 => (r_pickF rfl rfl)) hS30 fun ac82 hf83 => ?_
      refine any_val (i := 16) (v := .bool (decide ((leftF (moreF r x) (moreF b y) (moreF f z) n0 n1 n2) < (leftF r b f n0 n1 n2)))) hf83 rfl rfl rfl rfl rfl rfl (fun _ _ _ h => h) (by kernel_rfl) (by kernel_rfl) (by kernel_rfl) (fun wd32 hS30 => (r_move rfl)) hS30 fun ac83 hf84 => ?_
      have hf85 := hf84.know 71 (u := .bool false) rfl (congrArg Value.bool (law5_71 hc n0l n1l n2l xl yl zl xr yr zr))
      refine any_val (i := 17) (v := .agg cs) hf85 rfl rfl rfl rfl rfl rfl (fun _ _ _ h => h) (by kernel_rfl) (by kernel_rfl) (by kernel_rfl) (fun wd32 hS30 => (r_loadW ag_28 sz_28 rfl (hS30.at 0 rfl) hc.size)) hS30 fun ac84 hf86 => ?_
      refine any_val (i := 18) (v := .agg #[.int .i64 n0, .int .i64 n1, .int .i64 n2]) hf86 rfl rfl rfl rfl rfl rfl (fun _ _ _ h => h) (by kernel_rfl) (by kernel_rfl) (by kernel_rfl) (fun wd32 hS30 => (r_loadW ag_30 sz_30 rfl (hS30.at 1 rfl) rfl)) hS30 fun ac85 hf87 => ?_
      refine any_one (i := 19) (by kernel_rfl) ?_
      refine (op_pure hf87 rfl rfl rfl rfl ca_8 (why_pur _ r b f n0 n1 n2 hc ) hI51 fun ac86 wd33 hI52 hf88 => ⟨?_, ?_⟩)
      · exact (Has.cons (hI52.at 0 rfl) (Has.cons (hI52.at 1 rfl) (Has.cons (hI52.at 2 rfl) (Has.cons (hI52.at 3 rfl) Has.nil))))
      have hS31 : Has [(b1, cs, 28), (b2, #[.int .i64 n0, .int .i64 n1, .int .i64 n2], 30), (b3, #[.int .i64 (moreF n0 x), .int .i64 (moreF n1 y), .int .i64 (moreF n2 z)], 30), (b4, (((cs.setIfInBounds 0 (.int .i64 (moreF r x))).setIfInBounds 4 (.int .i64 (moreF b y))).setIfInBounds 3 (.int .i64 (moreF f z))), 28)] _ := (Has.cons (hI52.at 0 rfl) (Has.cons (hI52.at 1 rfl) (Has.cons (hI52.at 2 rfl) (Has.cons (hI52.at 3 rfl) Has.nil))))
      refine any_val (i := 20) (v := .bool ((whyF r b f n0 n1 n2) != 0)) hf88 rfl rfl rfl rfl rfl rfl (fun _ _ _ h => h) (by kernel_rfl) (by kernel_rfl) (by kernel_rfl) (fun wd33 hS31 => (r_neq rfl rfl)) hS31 fun ac87 hf89 => ?_
      refine any_val (i := 21) (v := .bool ((whyF r b f n0 n1 n2) != 0)) hf89 rfl rfl rfl rfl rfl rfl (fun _ _ _ h => h) (by kernel_rfl) (by kernel_rfl) (by kernel_rfl) (fun wd33 hS31 => (r_move rfl)) hS31 fun ac88 hf90 => ?_
      rcases Bool.eq_false_or_eq_true ((whyF r b f n0 n1 n2) != 0 : Bool) with g76_1 | g76_1
      · have hf91 := hf90.know 76 (u := .bool true) rfl (congrArg Value.bool g76_1)
        refine any_val (i := 22) (v := .agg cs) hf91 rfl rfl rfl rfl rfl rfl (fun _ _ _ h => h) (by kernel_rfl) (by kernel_rfl) (by kernel_rfl) (fun wd33 hS31 => (r_loadW ag_28 sz_28 rfl (hS31.at 0 rfl) hc.size)) hS31 fun ac89 hf92 => ?_
        refine any_val (i := 23) (v := .agg #[.int .i64 (moreF n0 x), .int .i64 (moreF n1 y), .int .i64 (moreF n2 z)]) hf92 rfl rfl rfl rfl rfl rfl (fun _ _ _ h => h) (by kernel_rfl) (by kernel_rfl) (by kernel_rfl) (fun wd33 hS31 => (r_loadW ag_30 sz_30 rfl (hS31.at 2 rfl) rfl)) hS31 fun ac90 hf93 => ?_
        refine any_one (i := 24) (by kernel_rfl) ?_
        refine (op_pure hf93 rfl rfl rfl rfl ca_8 (why_pur _ r b f (moreF n0 x) (moreF n1 y) (moreF n2 z) hc ) hI52 fun ac91 wd34 hI53 hf94 => ⟨?_, ?_⟩)
        · exact (Has.cons (hI53.at 0 rfl) (Has.cons (hI53.at 1 rfl) (Has.cons (hI53.at 2 rfl) (Has.cons (hI53.at 3 rfl) Has.nil))))
        have hS32 : Has [(b1, cs, 28), (b2, #[.int .i64 n0, .int .i64 n1, .int .i64 n2], 30), (b3, #[.int .i64 (moreF n0 x), .int .i64 (moreF n1 y), .int .i64 (moreF n2 z)], 30), (b4, (((cs.setIfInBounds 0 (.int .i64 (moreF r x))).setIfInBounds 4 (.int .i64 (moreF b y))).setIfInBounds 3 (.int .i64 (moreF f z))), 28)] _ := (Has.cons (hI53.at 0 rfl) (Has.cons (hI53.at 1 rfl) (Has.cons (hI53.at 2 rfl) (Has.cons (hI53.at 3 rfl) Has.nil))))
        refine any_val (i := 25) (v := .bool ((whyF r b f (moreF n0 x) (moreF n1 y) (moreF n2 z)) == 0)) hf94 rfl rfl rfl rfl rfl rfl (fun _ _ _ h => h) (by kernel_rfl) (by kernel_rfl) (by kernel_rfl) (fun wd34 hS32 => (r_eql rfl rfl)) hS32 fun ac92 hf95 => ?_
        refine any_val (i := 26) (v := .bool ((whyF r b f (moreF n0 x) (moreF n1 y) (moreF n2 z)) == 0)) hf95 rfl rfl rfl rfl rfl rfl (fun _ _ _ h => h) (by kernel_rfl) (by kernel_rfl) (by kernel_rfl) (fun wd34 hS32 => (r_pickT rfl rfl)) hS32 fun ac93 hf96 => ?_
        refine any_val (i := 27) (v := .bool ((whyF r b f (moreF n0 x) (moreF n1 y) (moreF n2 z)) == 0)) hf96 rfl rfl rfl rfl rfl rfl (fun _ _ _ h => h) (by kernel_rfl) (by kernel_rfl) (by kernel_rfl) (fun wd34 hS32 => (r_pickF rfl rfl)) hS32 fun ac94 hf97 => ?_
        refine any_val (i := 28) (v := .bool ((whyF r b f (moreF n0 x) (moreF n1 y) (moreF n2 z)) == 0)) hf97 rfl rfl rfl rfl rfl rfl (fun _ _ _ h => h) (by kernel_rfl) (by kernel_rfl) (by kernel_rfl) (fun wd34 hS32 => (r_move rfl)) hS32 fun ac95 hf98 => ?_
        have hf99 := hf98.know 83 (u := .bool false) rfl (congrArg Value.bool (law5_80 hc n0r n1r n2r xl yl zl g76_1))
        refine any_val (i := 29) (v := .agg cs) hf99 rfl rfl rfl rfl rfl rfl (fun _ _ _ h => h) (by kernel_rfl) (by kernel_rfl) (by kernel_rfl) (fun wd34 hS32 => (r_loadW ag_28 sz_28 rfl (hS32.at 0 rfl) hc.size)) hS32 fun ac96 hf100 => ?_
        refine any_val (i := 30) (v := .agg #[.int .i64 n0, .int .i64 n1, .int .i64 n2]) hf100 rfl rfl rfl rfl rfl rfl (fun _ _ _ h => h) (by kernel_rfl) (by kernel_rfl) (by kernel_rfl) (fun wd34 hS32 => (r_loadW ag_30 sz_30 rfl (hS32.at 1 rfl) rfl)) hS32 fun ac97 hf101 => ?_
        refine any_one (i := 31) (by kernel_rfl) ?_
        refine (op_pure hf101 rfl rfl rfl rfl ca_8 (why_pur _ r b f n0 n1 n2 hc ) hI53 fun ac98 wd35 hI54 hf102 => ⟨?_, ?_⟩)
        · exact (Has.cons (hI54.at 0 rfl) (Has.cons (hI54.at 1 rfl) (Has.cons (hI54.at 2 rfl) (Has.cons (hI54.at 3 rfl) Has.nil))))
        have hS33 : Has [(b1, cs, 28), (b2, #[.int .i64 n0, .int .i64 n1, .int .i64 n2], 30), (b3, #[.int .i64 (moreF n0 x), .int .i64 (moreF n1 y), .int .i64 (moreF n2 z)], 30), (b4, (((cs.setIfInBounds 0 (.int .i64 (moreF r x))).setIfInBounds 4 (.int .i64 (moreF b y))).setIfInBounds 3 (.int .i64 (moreF f z))), 28)] _ := (Has.cons (hI54.at 0 rfl) (Has.cons (hI54.at 1 rfl) (Has.cons (hI54.at 2 rfl) (Has.cons (hI54.at 3 rfl) Has.nil))))
        refine any_val (i := 32) (v := .bool ((whyF r b f n0 n1 n2) == 0)) hf102 rfl rfl rfl rfl rfl rfl (fun _ _ _ h => h) (by kernel_rfl) (by kernel_rfl) (by kernel_rfl) (fun wd35 hS33 => (r_eql rfl rfl)) hS33 fun ac99 hf103 => ?_
        refine any_val (i := 33) (v := .bool ((whyF r b f n0 n1 n2) == 0)) hf103 rfl rfl rfl rfl rfl rfl (fun _ _ _ h => h) (by kernel_rfl) (by kernel_rfl) (by kernel_rfl) (fun wd35 hS33 => (r_move rfl)) hS33 fun ac100 hf104 => ?_
        rcases Bool.eq_false_or_eq_true ((whyF r b f n0 n1 n2) == 0 : Bool) with g88_2 | g88_2
        · have hf105 := hf104.know 88 (u := .bool true) rfl (congrArg Value.bool g88_2)
          refine any_val (i := 34) (v := .agg (((cs.setIfInBounds 0 (.int .i64 (moreF r x))).setIfInBounds 4 (.int .i64 (moreF b y))).setIfInBounds 3 (.int .i64 (moreF f z)))) hf105 rfl rfl rfl rfl rfl rfl (fun _ _ _ h => h) (by kernel_rfl) (by kernel_rfl) (by kernel_rfl) (fun wd35 hS33 => (r_loadW ag_28 sz_28 rfl (hS33.at 3 rfl) (((hc.set0 (moreF_range hc.rl hc.rr (Int.le_trans (by decide) xl) (Int.le_trans xr (by decide))).1 (moreF_range hc.rl hc.rr (Int.le_trans (by decide) xl) (Int.le_trans xr (by decide))).2).set4 (moreF_range hc.bl hc.br (Int.le_trans (by decide) yl) (Int.le_trans yr (by decide))).1 (moreF_range hc.bl hc.br (Int.le_trans (by decide) yl) (Int.le_trans yr (by decide))).2).set3 (moreF_range hc.fl hc.fr (Int.le_trans (by decide) zl) (Int.le_trans zr (by decide))).1 (moreF_range hc.fl hc.fr (Int.le_trans (by decide) zl) (Int.le_trans zr (by decide))).2).size)) hS33 fun ac101 hf106 => ?_
          refine any_val (i := 35) (v := .agg #[.int .i64 n0, .int .i64 n1, .int .i64 n2]) hf106 rfl rfl rfl rfl rfl rfl (fun _ _ _ h => h) (by kernel_rfl) (by kernel_rfl) (by kernel_rfl) (fun wd35 hS33 => (r_loadW ag_30 sz_30 rfl (hS33.at 1 rfl) rfl)) hS33 fun ac102 hf107 => ?_
          refine any_one (i := 36) (by kernel_rfl) ?_
          refine (op_pure hf107 rfl rfl rfl rfl ca_8 (why_pur _ (moreF r x) (moreF b y) (moreF f z) n0 n1 n2 (((hc.set0 (moreF_range hc.rl hc.rr (Int.le_trans (by decide) xl) (Int.le_trans xr (by decide))).1 (moreF_range hc.rl hc.rr (Int.le_trans (by decide) xl) (Int.le_trans xr (by decide))).2).set4 (moreF_range hc.bl hc.br (Int.le_trans (by decide) yl) (Int.le_trans yr (by decide))).1 (moreF_range hc.bl hc.br (Int.le_trans (by decide) yl) (Int.le_trans yr (by decide))).2).set3 (moreF_range hc.fl hc.fr (Int.le_trans (by decide) zl) (Int.le_trans zr (by decide))).1 (moreF_range hc.fl hc.fr (Int.le_trans (by decide) zl) (Int.le_trans zr (by decide))).2) ) hI54 fun ac103 wd36 hI55 hf108 => ⟨?_, ?_⟩)
          · exact (Has.cons (hI55.at 0 rfl) (Has.cons (hI55.at 1 rfl) (Has.cons (hI55.at 2 rfl) (Has.cons (hI55.at 3 rfl) Has.nil))))
          have hS34 : Has [(b1, cs, 28), (b2, #[.int .i64 n0, .int .i64 n1, .int .i64 n2], 30), (b3, #[.int .i64 (moreF n0 x), .int .i64 (moreF n1 y), .int .i64 (moreF n2 z)], 30), (b4, (((cs.setIfInBounds 0 (.int .i64 (moreF r x))).setIfInBounds 4 (.int .i64 (moreF b y))).setIfInBounds 3 (.int .i64 (moreF f z))), 28)] _ := (Has.cons (hI55.at 0 rfl) (Has.cons (hI55.at 1 rfl) (Has.cons (hI55.at 2 rfl) (Has.cons (hI55.at 3 rfl) Has.nil))))
          refine any_val (i := 37) (v := .bool ((whyF (moreF r x) (moreF b y) (moreF f z) n0 n1 n2) != 0)) hf108 rfl rfl rfl rfl rfl rfl (fun _ _ _ h => h) (by kernel_rfl) (by kernel_rfl) (by kernel_rfl) (fun wd36 hS34 => (r_neq rfl rfl)) hS34 fun ac104 hf109 => ?_
          refine any_val (i := 38) (v := .bool ((whyF (moreF r x) (moreF b y) (moreF f z) n0 n1 n2) != 0)) hf109 rfl rfl rfl rfl rfl rfl (fun _ _ _ h => h) (by kernel_rfl) (by kernel_rfl) (by kernel_rfl) (fun wd36 hS34 => (r_pickT rfl rfl)) hS34 fun ac105 hf110 => ?_
          refine any_val (i := 39) (v := .bool ((whyF (moreF r x) (moreF b y) (moreF f z) n0 n1 n2) != 0)) hf110 rfl rfl rfl rfl rfl rfl (fun _ _ _ h => h) (by kernel_rfl) (by kernel_rfl) (by kernel_rfl) (fun wd36 hS34 => (r_pickF rfl rfl)) hS34 fun ac106 hf111 => ?_
          refine any_end (by kernel_rfl) ?_
          clear hI46 ac66 hf66 ac67 hf67 ac68 hf68 ac69 hf69 ac70 wd28 hI47 hf70 hS26 ac71 wd29 hI48 hf71 hS27 ac72 hf72 ac73 hf73 hf74 ac74 hf75 ac75 hf76 ac76 hf77 ac77 hf78 ac78 wd30 hI49 hf79 hS28 ac79 wd31 hI50 hf80 hS29 ac80 hf81 ac81 hf82 ac82 hf83 hf84 ac83 hf85 ac84 hf86 ac85 wd32 hI51 hf87 hS30 ac86 hf88 ac87 hf89 hf90 ac88 hf91 ac89 hf92 ac90 wd33 hI52 hf93 hS31 ac91 hf94 ac92 hf95 ac93 hf96 ac94 hf97 hf98 ac95 hf99 ac96 hf100 ac97 wd34 hI53 hf101 hS32 ac98 hf102 ac99 hf103 hf104 ac100 hf105 ac101 hf106 ac102 wd35 hI54 hf107 hS33 ac103 hf108 ac104 hf109 ac105 hf110 hS34
          refine then_normal ?_
          have hf112 := hf111.know 94 (u := .bool false) rfl (congrArg Value.bool (law5_92 hc xl yl zl g88_2))
          clear hf111
          exact ⟨(hf112.cons 0 rfl (hf112.cons 1 rfl (hf112.cons 2 rfl (hf112.cons 3 rfl (hf112.cons 4 rfl (hf112.cons 5 rfl (hf112.cons 6 rfl (hf112.cons 10 rfl (hf112.cons 11 rfl (hf112.cons 12 rfl (hf112.cons 30 rfl (hf112.cons 31 rfl (hf112.cons 32 rfl (hf112.cons 33 rfl (hf112.cons 34 rfl (hf112.cons 35 rfl (hf112.cons 36 rfl (hf112.cons 37 rfl (hf112.cons 38 rfl (hf112.cons 39 rfl (hf112.cons 40 rfl (hf112.cons 41 rfl (hf112.cons 42 rfl (hf112.cons 43 rfl (hf112.cons 44 rfl (hf112.cons 45 rfl (hf112.cons 46 rfl (hf112.cons 47 rfl (hf112.cons 48 rfl (hf112.cons 49 rfl (hf112.cons 50 rfl (hf112.cons 51 rfl (hf112.cons 52 rfl (hf112.cons 53 rfl (hf112.cons 54 rfl (hf112.cons 94 rfl hf112.nil)))))))))))))))))))))))))))))))))))), hI55⟩
        · have hf113 := hf104.know 88 (u := .bool false) rfl (congrArg Value.bool g88_2)
          refine any_skip (i := 34) hf113 rfl rfl rfl rfl (fun _ _ _ h => h) (by kernel_rfl) (by kernel_rfl) (by kernel_rfl) hS33 fun ac107 hf114 => ?_
          refine any_skip (i := 35) hf114 rfl rfl rfl rfl (fun _ _ _ h => h) (by kernel_rfl) (by kernel_rfl) (by kernel_rfl) hS33 fun ac108 hf115 => ?_
          refine any_skip (i := 36) hf115 rfl rfl rfl rfl (fun _ _ _ h => h) (by kernel_rfl) (by kernel_rfl) (by kernel_rfl) hS33 fun ac109 hf116 => ?_
          refine any_skip (i := 37) hf116 rfl rfl rfl rfl (fun _ _ _ h => h) (by kernel_rfl) (by kernel_rfl) (by kernel_rfl) hS33 fun ac110 hf117 => ?_
          refine any_val (i := 38) (v := .bool false) hf117 rfl rfl rfl rfl rfl rfl (fun _ _ _ h => h) (by kernel_rfl) (by kernel_rfl) (by kernel_rfl) (fun wd35 hS33 => (r_pickF rfl rfl)) hS33 fun ac111 hf118 => ?_
          refine any_val (i := 39) (v := .bool false) hf118 rfl rfl rfl rfl rfl rfl (fun _ _ _ h => h) (by kernel_rfl) (by kernel_rfl) (by kernel_rfl) (fun wd35 hS33 => (r_pickF rfl rfl)) hS33 fun ac112 hf119 => ?_
          refine any_end (by kernel_rfl) ?_
          clear hI46 ac66 hf66 ac67 hf67 ac68 hf68 ac69 hf69 ac70 wd28 hI47 hf70 hS26 ac71 wd29 hI48 hf71 hS27 ac72 hf72 ac73 hf73 hf74 ac74 hf75 ac75 hf76 ac76 hf77 ac77 hf78 ac78 wd30 hI49 hf79 hS28 ac79 wd31 hI50 hf80 hS29 ac80 hf81 ac81 hf82 ac82 hf83 hf84 ac83 hf85 ac84 hf86 ac85 wd32 hI51 hf87 hS30 ac86 hf88 ac87 hf89 hf90 ac88 hf91 ac89 hf92 ac90 wd33 hI52 hf93 hS31 ac91 hf94 ac92 hf95 ac93 hf96 ac94 hf97 hf98 ac95 hf99 ac96 hf100 ac97 wd34 hI53 hf101 hS32 ac98 hf102 ac99 hf103 hf104 ac100 hf113 ac107 hf114 ac108 hf115 ac109 hf116 ac110 hf117 ac111 hf118 hS33
          refine then_normal ?_
          exact ⟨(hf119.cons 0 rfl (hf119.cons 1 rfl (hf119.cons 2 rfl (hf119.cons 3 rfl (hf119.cons 4 rfl (hf119.cons 5 rfl (hf119.cons 6 rfl (hf119.cons 10 rfl (hf119.cons 11 rfl (hf119.cons 12 rfl (hf119.cons 30 rfl (hf119.cons 31 rfl (hf119.cons 32 rfl (hf119.cons 33 rfl (hf119.cons 34 rfl (hf119.cons 35 rfl (hf119.cons 36 rfl (hf119.cons 37 rfl (hf119.cons 38 rfl (hf119.cons 39 rfl (hf119.cons 40 rfl (hf119.cons 41 rfl (hf119.cons 42 rfl (hf119.cons 43 rfl (hf119.cons 44 rfl (hf119.cons 45 rfl (hf119.cons 46 rfl (hf119.cons 47 rfl (hf119.cons 48 rfl (hf119.cons 49 rfl (hf119.cons 50 rfl (hf119.cons 51 rfl (hf119.cons 52 rfl (hf119.cons 53 rfl (hf119.cons 54 rfl (hf119.cons 94 rfl hf119.nil)))))))))))))))))))))))))))))))))))), hI54⟩
      · have hf120 := hf90.know 76 (u := .bool false) rfl (congrArg Value.bool g76_1)
        refine any_skip (i := 22) hf120 rfl rfl rfl rfl (fun _ _ _ h => h) (by kernel_rfl) (by kernel_rfl) (by kernel_rfl) hS31 fun ac113 hf121 => ?_
        refine any_skip (i := 23) hf121 rfl rfl rfl rfl (fun _ _ _ h => h) (by kernel_rfl) (by kernel_rfl) (by kernel_rfl) hS31 fun ac114 hf122 => ?_
        refine any_skip (i := 24) hf122 rfl rfl rfl rfl (fun _ _ _ h => h) (by kernel_rfl) (by kernel_rfl) (by kernel_rfl) hS31 fun ac115 hf123 => ?_
        refine any_skip (i := 25) hf123 rfl rfl rfl rfl (fun _ _ _ h => h) (by kernel_rfl) (by kernel_rfl) (by kernel_rfl) hS31 fun ac116 hf124 => ?_
        refine any_val (i := 26) (v := .bool false) hf124 rfl rfl rfl rfl rfl rfl (fun _ _ _ h => h) (by kernel_rfl) (by kernel_rfl) (by kernel_rfl) (fun wd33 hS31 => (r_pickF rfl rfl)) hS31 fun ac117 hf125 => ?_
        refine any_val (i := 27) (v := .bool false) hf125 rfl rfl rfl rfl rfl rfl (fun _ _ _ h => h) (by kernel_rfl) (by kernel_rfl) (by kernel_rfl) (fun wd33 hS31 => (r_pickF rfl rfl)) hS31 fun ac118 hf126 => ?_
        refine any_val (i := 28) (v := .bool false) hf126 rfl rfl rfl rfl rfl rfl (fun _ _ _ h => h) (by kernel_rfl) (by kernel_rfl) (by kernel_rfl) (fun wd33 hS31 => (r_move rfl)) hS31 fun ac119 hf127 => ?_
        refine any_val (i := 29) (v := .agg cs) hf127 rfl rfl rfl rfl rfl rfl (fun _ _ _ h => h) (by kernel_rfl) (by kernel_rfl) (by kernel_rfl) (fun wd33 hS31 => (r_loadW ag_28 sz_28 rfl (hS31.at 0 rfl) hc.size)) hS31 fun ac120 hf128 => ?_
        refine any_val (i := 30) (v := .agg #[.int .i64 n0, .int .i64 n1, .int .i64 n2]) hf128 rfl rfl rfl rfl rfl rfl (fun _ _ _ h => h) (by kernel_rfl) (by kernel_rfl) (by kernel_rfl) (fun wd33 hS31 => (r_loadW ag_30 sz_30 rfl (hS31.at 1 rfl) rfl)) hS31 fun ac121 hf129 => ?_
        refine any_one (i := 31) (by kernel_rfl) ?_
        refine (op_pure hf129 rfl rfl rfl rfl ca_8 (why_pur _ r b f n0 n1 n2 hc ) hI52 fun ac122 wd37 hI56 hf130 => ⟨?_, ?_⟩)
        · exact (Has.cons (hI56.at 0 rfl) (Has.cons (hI56.at 1 rfl) (Has.cons (hI56.at 2 rfl) (Has.cons (hI56.at 3 rfl) Has.nil))))
        have hS35 : Has [(b1, cs, 28), (b2, #[.int .i64 n0, .int .i64 n1, .int .i64 n2], 30), (b3, #[.int .i64 (moreF n0 x), .int .i64 (moreF n1 y), .int .i64 (moreF n2 z)], 30), (b4, (((cs.setIfInBounds 0 (.int .i64 (moreF r x))).setIfInBounds 4 (.int .i64 (moreF b y))).setIfInBounds 3 (.int .i64 (moreF f z))), 28)] _ := (Has.cons (hI56.at 0 rfl) (Has.cons (hI56.at 1 rfl) (Has.cons (hI56.at 2 rfl) (Has.cons (hI56.at 3 rfl) Has.nil))))
        refine any_val (i := 32) (v := .bool ((whyF r b f n0 n1 n2) == 0)) hf130 rfl rfl rfl rfl rfl rfl (fun _ _ _ h => h) (by kernel_rfl) (by kernel_rfl) (by kernel_rfl) (fun wd37 hS35 => (r_eql rfl rfl)) hS35 fun ac123 hf131 => ?_
        refine any_val (i := 33) (v := .bool ((whyF r b f n0 n1 n2) == 0)) hf131 rfl rfl rfl rfl rfl rfl (fun _ _ _ h => h) (by kernel_rfl) (by kernel_rfl) (by kernel_rfl) (fun wd37 hS35 => (r_move rfl)) hS35 fun ac124 hf132 => ?_
        rcases Bool.eq_false_or_eq_true ((whyF r b f n0 n1 n2) == 0 : Bool) with g88_3 | g88_3
        · have hf133 := hf132.know 88 (u := .bool true) rfl (congrArg Value.bool g88_3)
          refine any_val (i := 34) (v := .agg (((cs.setIfInBounds 0 (.int .i64 (moreF r x))).setIfInBounds 4 (.int .i64 (moreF b y))).setIfInBounds 3 (.int .i64 (moreF f z)))) hf133 rfl rfl rfl rfl rfl rfl (fun _ _ _ h => h) (by kernel_rfl) (by kernel_rfl) (by kernel_rfl) (fun wd37 hS35 => (r_loadW ag_28 sz_28 rfl (hS35.at 3 rfl) (((hc.set0 (moreF_range hc.rl hc.rr (Int.le_trans (by decide) xl) (Int.le_trans xr (by decide))).1 (moreF_range hc.rl hc.rr (Int.le_trans (by decide) xl) (Int.le_trans xr (by decide))).2).set4 (moreF_range hc.bl hc.br (Int.le_trans (by decide) yl) (Int.le_trans yr (by decide))).1 (moreF_range hc.bl hc.br (Int.le_trans (by decide) yl) (Int.le_trans yr (by decide))).2).set3 (moreF_range hc.fl hc.fr (Int.le_trans (by decide) zl) (Int.le_trans zr (by decide))).1 (moreF_range hc.fl hc.fr (Int.le_trans (by decide) zl) (Int.le_trans zr (by decide))).2).size)) hS35 fun ac125 hf134 => ?_
          refine any_val (i := 35) (v := .agg #[.int .i64 n0, .int .i64 n1, .int .i64 n2]) hf134 rfl rfl rfl rfl rfl rfl (fun _ _ _ h => h) (by kernel_rfl) (by kernel_rfl) (by kernel_rfl) (fun wd37 hS35 => (r_loadW ag_30 sz_30 rfl (hS35.at 1 rfl) rfl)) hS35 fun ac126 hf135 => ?_
          refine any_one (i := 36) (by kernel_rfl) ?_
          refine (op_pure hf135 rfl rfl rfl rfl ca_8 (why_pur _ (moreF r x) (moreF b y) (moreF f z) n0 n1 n2 (((hc.set0 (moreF_range hc.rl hc.rr (Int.le_trans (by decide) xl) (Int.le_trans xr (by decide))).1 (moreF_range hc.rl hc.rr (Int.le_trans (by decide) xl) (Int.le_trans xr (by decide))).2).set4 (moreF_range hc.bl hc.br (Int.le_trans (by decide) yl) (Int.le_trans yr (by decide))).1 (moreF_range hc.bl hc.br (Int.le_trans (by decide) yl) (Int.le_trans yr (by decide))).2).set3 (moreF_range hc.fl hc.fr (Int.le_trans (by decide) zl) (Int.le_trans zr (by decide))).1 (moreF_range hc.fl hc.fr (Int.le_trans (by decide) zl) (Int.le_trans zr (by decide))).2) ) hI56 fun ac127 wd38 hI57 hf136 => ⟨?_, ?_⟩)
          · exact (Has.cons (hI57.at 0 rfl) (Has.cons (hI57.at 1 rfl) (Has.cons (hI57.at 2 rfl) (Has.cons (hI57.at 3 rfl) Has.nil))))
          have hS36 : Has [(b1, cs, 28), (b2, #[.int .i64 n0, .int .i64 n1, .int .i64 n2], 30), (b3, #[.int .i64 (moreF n0 x), .int .i64 (moreF n1 y), .int .i64 (moreF n2 z)], 30), (b4, (((cs.setIfInBounds 0 (.int .i64 (moreF r x))).setIfInBounds 4 (.int .i64 (moreF b y))).setIfInBounds 3 (.int .i64 (moreF f z))), 28)] _ := (Has.cons (hI57.at 0 rfl) (Has.cons (hI57.at 1 rfl) (Has.cons (hI57.at 2 rfl) (Has.cons (hI57.at 3 rfl) Has.nil))))
          refine any_val (i := 37) (v := .bool ((whyF (moreF r x) (moreF b y) (moreF f z) n0 n1 n2) != 0)) hf136 rfl rfl rfl rfl rfl rfl (fun _ _ _ h => h) (by kernel_rfl) (by kernel_rfl) (by kernel_rfl) (fun wd38 hS36 => (r_neq rfl rfl)) hS36 fun ac128 hf137 => ?_
          refine any_val (i := 38) (v := .bool ((whyF (moreF r x) (moreF b y) (moreF f z) n0 n1 n2) != 0)) hf137 rfl rfl rfl rfl rfl rfl (fun _ _ _ h => h) (by kernel_rfl) (by kernel_rfl) (by kernel_rfl) (fun wd38 hS36 => (r_pickT rfl rfl)) hS36 fun ac129 hf138 => ?_
          refine any_val (i := 39) (v := .bool ((whyF (moreF r x) (moreF b y) (moreF f z) n0 n1 n2) != 0)) hf138 rfl rfl rfl rfl rfl rfl (fun _ _ _ h => h) (by kernel_rfl) (by kernel_rfl) (by kernel_rfl) (fun wd38 hS36 => (r_pickF rfl rfl)) hS36 fun ac130 hf139 => ?_
          refine any_end (by kernel_rfl) ?_
          clear hI46 ac66 hf66 ac67 hf67 ac68 hf68 ac69 hf69 ac70 wd28 hI47 hf70 hS26 ac71 wd29 hI48 hf71 hS27 ac72 hf72 ac73 hf73 hf74 ac74 hf75 ac75 hf76 ac76 hf77 ac77 hf78 ac78 wd30 hI49 hf79 hS28 ac79 wd31 hI50 hf80 hS29 ac80 hf81 ac81 hf82 ac82 hf83 hf84 ac83 hf85 ac84 hf86 ac85 wd32 hI51 hf87 hS30 ac86 hf88 ac87 hf89 hf90 ac88 hf120 ac113 hf121 ac114 hf122 ac115 hf123 ac116 hf124 ac117 hf125 ac118 hf126 ac119 hf127 ac120 hf128 ac121 wd33 hI52 hf129 hS31 ac122 hf130 ac123 hf131 hf132 ac124 hf133 ac125 hf134 ac126 wd37 hI56 hf135 hS35 ac127 hf136 ac128 hf137 ac129 hf138 hS36
          refine then_normal ?_
          have hf140 := hf139.know 94 (u := .bool false) rfl (congrArg Value.bool (law5_92 hc xl yl zl g88_3))
          clear hf139
          exact ⟨(hf140.cons 0 rfl (hf140.cons 1 rfl (hf140.cons 2 rfl (hf140.cons 3 rfl (hf140.cons 4 rfl (hf140.cons 5 rfl (hf140.cons 6 rfl (hf140.cons 10 rfl (hf140.cons 11 rfl (hf140.cons 12 rfl (hf140.cons 30 rfl (hf140.cons 31 rfl (hf140.cons 32 rfl (hf140.cons 33 rfl (hf140.cons 34 rfl (hf140.cons 35 rfl (hf140.cons 36 rfl (hf140.cons 37 rfl (hf140.cons 38 rfl (hf140.cons 39 rfl (hf140.cons 40 rfl (hf140.cons 41 rfl (hf140.cons 42 rfl (hf140.cons 43 rfl (hf140.cons 44 rfl (hf140.cons 45 rfl (hf140.cons 46 rfl (hf140.cons 47 rfl (hf140.cons 48 rfl (hf140.cons 49 rfl (hf140.cons 50 rfl (hf140.cons 51 rfl (hf140.cons 52 rfl (hf140.cons 53 rfl (hf140.cons 54 rfl (hf140.cons 94 rfl hf140.nil)))))))))))))))))))))))))))))))))))), hI57⟩
        · have hf141 := hf132.know 88 (u := .bool false) rfl (congrArg Value.bool g88_3)
          refine any_skip (i := 34) hf141 rfl rfl rfl rfl (fun _ _ _ h => h) (by kernel_rfl) (by kernel_rfl) (by kernel_rfl) hS35 fun ac131 hf142 => ?_
          refine any_skip (i := 35) hf142 rfl rfl rfl rfl (fun _ _ _ h => h) (by kernel_rfl) (by kernel_rfl) (by kernel_rfl) hS35 fun ac132 hf143 => ?_
          refine any_skip (i := 36) hf143 rfl rfl rfl rfl (fun _ _ _ h => h) (by kernel_rfl) (by kernel_rfl) (by kernel_rfl) hS35 fun ac133 hf144 => ?_
          refine any_skip (i := 37) hf144 rfl rfl rfl rfl (fun _ _ _ h => h) (by kernel_rfl) (by kernel_rfl) (by kernel_rfl) hS35 fun ac134 hf145 => ?_
          refine any_val (i := 38) (v := .bool false) hf145 rfl rfl rfl rfl rfl rfl (fun _ _ _ h => h) (by kernel_rfl) (by kernel_rfl) (by kernel_rfl) (fun wd37 hS35 => (r_pickF rfl rfl)) hS35 fun ac135 hf146 => ?_
          refine any_val (i := 39) (v := .bool false) hf146 rfl rfl rfl rfl rfl rfl (fun _ _ _ h => h) (by kernel_rfl) (by kernel_rfl) (by kernel_rfl) (fun wd37 hS35 => (r_pickF rfl rfl)) hS35 fun ac136 hf147 => ?_
          refine any_end (by kernel_rfl) ?_
          clear hI46 ac66 hf66 ac67 hf67 ac68 hf68 ac69 hf69 ac70 wd28 hI47 hf70 hS26 ac71 wd29 hI48 hf71 hS27 ac72 hf72 ac73 hf73 hf74 ac74 hf75 ac75 hf76 ac76 hf77 ac77 hf78 ac78 wd30 hI49 hf79 hS28 ac79 wd31 hI50 hf80 hS29 ac80 hf81 ac81 hf82 ac82 hf83 hf84 ac83 hf85 ac84 hf86 ac85 wd32 hI51 hf87 hS30 ac86 hf88 ac87 hf89 hf90 ac88 hf120 ac113 hf121 ac114 hf122 ac115 hf123 ac116 hf124 ac117 hf125 ac118 hf126 ac119 hf127 ac120 hf128 ac121 wd33 hI52 hf129 hS31 ac122 hf130 ac123 hf131 hf132 ac124 hf141 ac131 hf142 ac132 hf143 ac133 hf144 ac134 hf145 ac135 hf146 hS35
          refine then_normal ?_
          exact ⟨(hf147.cons 0 rfl (hf147.cons 1 rfl (hf147.cons 2 rfl (hf147.cons 3 rfl (hf147.cons 4 rfl (hf147.cons 5 rfl (hf147.cons 6 rfl (hf147.cons 10 rfl (hf147.cons 11 rfl (hf147.cons 12 rfl (hf147.cons 30 rfl (hf147.cons 31 rfl (hf147.cons 32 rfl (hf147.cons 33 rfl (hf147.cons 34 rfl (hf147.cons 35 rfl (hf147.cons 36 rfl (hf147.cons 37 rfl (hf147.cons 38 rfl (hf147.cons 39 rfl (hf147.cons 40 rfl (hf147.cons 41 rfl (hf147.cons 42 rfl (hf147.cons 43 rfl (hf147.cons 44 rfl (hf147.cons 45 rfl (hf147.cons 46 rfl (hf147.cons 47 rfl (hf147.cons 48 rfl (hf147.cons 49 rfl (hf147.cons 50 rfl (hf147.cons 51 rfl (hf147.cons 52 rfl (hf147.cons 53 rfl (hf147.cons 54 rfl (hf147.cons 94 rfl hf147.nil)))))))))))))))))))))))))))))))))))), hI56⟩
    ·
      intro ac137 wd39 hf148 hI58
      clear ac66 wd28 hf66 hI46
      refine then_normal ?_
      refine code_if_false hf148 rfl ?_
      refine wp_skip ?_
      refine then_normal ?_
      refine code_seq ?_
      refine seq_start (l := [0, 1, 2, 3]) rfl ?_
      refine seq_one (op_val (v := .agg cs) hf148 rfl rfl rfl rfl rfl rfl (r_loadW ag_28 sz_28 rfl (hI58.at 0 rfl) hc.size) fun ac138 hf149 => ?_)
      refine seq_one (op_val (v := .agg #[.int .i64 n0, .int .i64 n1, .int .i64 n2]) hf149 rfl rfl rfl rfl rfl rfl (r_loadW ag_30 sz_30 rfl (hI58.at 1 rfl) rfl) fun ac139 hf150 => ?_)
      refine seq_one (op_pure hf150 rfl rfl rfl rfl ca_8 (why_pur _ r b f n0 n1 n2 hc ) hI58 fun ac140 wd40 hI59 hf151 => ?_)
      refine seq_one (op_val (v := .int .u8 (whyF r b f n0 n1 n2)) hf151 rfl rfl rfl rfl rfl rfl (r_assign rfl) fun ac141 hf152 => ?_)
      refine seq_end ?_
      clear ac137 hf148 ac138 hf149 ac139 wd39 hI58 hf150 ac140 hf151
      refine then_normal ?_
      refine code_seq ?_
      refine seq_start (l := [0, 1, 2, 3, 4, 5, 6, 7, 8, 9, 10, 11, 12, 13, 14, 15, 16, 17, 18, 19, 20, 21, 22, 23, 24, 25, 26, 27, 28, 29, 30, 31, 32, 33, 34, 35, 36, 37, 38, 39, 40]) rfl ?_
      refine seq_one (op_val (v := .int .u8 (whyF r b f n0 n1 n2)) hf152 rfl rfl rfl rfl rfl rfl (r_move rfl) fun ac142 hf153 => ?_)
      refine seq_one (op_val (v := .bool ((whyF r b f n0 n1 n2) == 1)) hf153 rfl rfl rfl rfl rfl rfl (r_eql rfl rfl) fun ac143 hf154 => ?_)
      refine seq_one (op_val (v := .pointer (some ⟨b2, 0, none⟩)) hf154 rfl rfl rfl rfl rfl rfl (r_fieldAddr fi_30_0 rfl rfl) fun ac144 hf155 => ?_)
      refine seq_one (op_val (v := .int .i64 n0) hf155 rfl rfl rfl rfl rfl rfl (r_load ag_3 rfl (hI59.at 1 rfl) rfl) fun ac145 hf156 => ?_)
      refine seq_one (op_val (v := .pointer (some ⟨b1, 0, none⟩)) hf156 rfl rfl rfl rfl rfl rfl (r_fieldAddr fi_28_0 rfl rfl) fun ac146 hf157 => ?_)
      refine seq_one (op_val (v := .int .i64 r) hf157 rfl rfl rfl rfl rfl rfl (r_load ag_3 rfl (hI59.at 0 rfl) hc.c0) fun ac147 hf158 => ?_)
      refine seq_one (op_val (v := .bool (decide (n0 ≥ r))) hf158 rfl rfl rfl rfl rfl rfl (r_geq rfl rfl) fun ac148 hf159 => ?_)
      refine seq_one (op_val (v := .bool (((whyF r b f n0 n1 n2) == 1) == (decide (n0 ≥ r)))) hf159 rfl rfl rfl rfl rfl rfl (r_eqB ub_4 rfl rfl) fun ac149 hf160 => ?_)
      refine seq_one (op_val (v := .bool (((whyF r b f n0 n1 n2) == 1) == (decide (n0 ≥ r)))) hf160 rfl rfl rfl rfl rfl rfl (r_move rfl) fun ac150 hf161 => ?_)
      have hf162 := hf161.know 106 (u := .bool true) rfl (congrArg Value.bool (law5_106 r b f n0 n1 n2))
      refine seq_one (op_val (v := .int .u8 (whyF r b f n0 n1 n2)) hf162 rfl rfl rfl rfl rfl rfl (r_move rfl) fun ac151 hf163 => ?_)
      refine seq_one (op_val (v := .bool ((whyF r b f n0 n1 n2) != 3)) hf163 rfl rfl rfl rfl rfl rfl (r_neq rfl rfl) fun ac152 hf164 => ?_)
      refine seq_one (op_val (v := .bool ((whyF r b f n0 n1 n2) != 3)) hf164 rfl rfl rfl rfl rfl rfl (r_move rfl) fun ac153 hf165 => ?_)
      rcases Bool.eq_false_or_eq_true ((whyF r b f n0 n1 n2) != 3 : Bool) with g109_4 | g109_4
      · have hf166 := hf165.know 109 (u := .bool true) rfl (congrArg Value.bool g109_4)
        refine seq_one (op_skip hf166 rfl rfl rfl rfl fun ac154 hf167 => ?_)
        refine seq_one (op_skip hf167 rfl rfl rfl rfl fun ac155 hf168 => ?_)
        refine seq_one (op_skip hf168 rfl rfl rfl rfl fun ac156 hf169 => ?_)
        refine seq_one (op_skip hf169 rfl rfl rfl rfl fun ac157 hf170 => ?_)
        refine seq_one (op_skip hf170 rfl rfl rfl rfl fun ac158 hf171 => ?_)
        refine seq_one (op_skip hf171 rfl rfl rfl rfl fun ac159 hf172 => ?_)
        refine seq_one (op_skip hf172 rfl rfl rfl rfl fun ac160 hf173 => ?_)
        refine seq_one (op_skip hf173 rfl rfl rfl rfl fun ac161 hf174 => ?_)
        refine seq_one (op_skip hf174 rfl rfl rfl rfl fun ac162 hf175 => ?_)
        refine seq_one (op_skip hf175 rfl rfl rfl rfl fun ac163 hf176 => ?_)
        refine seq_one (op_skip hf176 rfl rfl rfl rfl fun ac164 hf177 => ?_)
        refine seq_one (op_skip hf177 rfl rfl rfl rfl fun ac165 hf178 => ?_)
        refine seq_one (op_val (v := .bool true) hf178 rfl rfl rfl rfl rfl rfl (r_pickT rfl rfl) fun ac166 hf179 => ?_)
        refine seq_one (op_val (v := .bool true) hf179 rfl rfl rfl rfl rfl rfl (r_pickT rfl rfl) fun ac167 hf180 => ?_)
        refine seq_one (op_val (v := .bool true) hf180 rfl rfl rfl rfl rfl rfl (r_move rfl) fun ac168 hf181 => ?_)
        refine seq_one (op_val (v := .int .u8 (whyF r b f n0 n1 n2)) hf181 rfl rfl rfl rfl rfl rfl (r_move rfl) fun ac169 hf182 => ?_)
        refine seq_one (op_val (v := .bool ((whyF r b f n0 n1 n2) != 2)) hf182 rfl rfl rfl rfl rfl rfl (r_neq rfl rfl) fun ac170 hf183 => ?_)
        refine seq_one (op_val (v := .bool ((whyF r b f n0 n1 n2) != 2)) hf183 rfl rfl rfl rfl rfl rfl (r_move rfl) fun ac171 hf184 => ?_)
        rcases Bool.eq_false_or_eq_true ((whyF r b f n0 n1 n2) != 2 : Bool) with g127_5 | g127_5
        · have hf185 := hf184.know 127 (u := .bool true) rfl (congrArg Value.bool g127_5)
          refine seq_one (op_skip hf185 rfl rfl rfl rfl fun ac172 hf186 => ?_)
          refine seq_one (op_skip hf186 rfl rfl rfl rfl fun ac173 hf187 => ?_)
          refine seq_one (op_skip hf187 rfl rfl rfl rfl fun ac174 hf188 => ?_)
          refine seq_one (op_skip hf188 rfl rfl rfl rfl fun ac175 hf189 => ?_)
          refine seq_one (op_skip hf189 rfl rfl rfl rfl fun ac176 hf190 => ?_)
          refine seq_one (op_val (v := .bool true) hf190 rfl rfl rfl rfl rfl rfl (r_pickT rfl rfl) fun ac177 hf191 => ?_)
          refine seq_one (op_val (v := .bool true) hf191 rfl rfl rfl rfl rfl rfl (r_pickT rfl rfl) fun ac178 hf192 => ?_)
          refine seq_one (op_val (v := .bool true) hf192 rfl rfl rfl rfl rfl rfl (r_move rfl) fun ac179 hf193 => ?_)
          refine seq_one (op_pure hf193 rfl rfl rfl rfl ca_16 awake_pur hI59 fun ac180 wd41 hI60 hf194 => ?_)
          refine seq_one (op_val (v := .bool true) hf194 rfl rfl rfl rfl rfl rfl (r_pickT rfl rfl) fun ac181 hf195 => ?_)
          refine seq_one (op_val (v := .bool true) hf195 rfl rfl rfl rfl rfl rfl (r_assign rfl) fun ac182 hf196 => ?_)
          refine seq_end ?_
          clear ac141 hf152 ac142 hf153 ac143 hf154 ac144 hf155 ac145 hf156 ac146 hf157 ac147 hf158 ac148 hf159 ac149 hf160 hf161 ac150 hf162 ac151 hf163 ac152 hf164 hf165 ac153 hf166 ac154 hf167 ac155 hf168 ac156 hf169 ac157 hf170 ac158 hf171 ac159 hf172 ac160 hf173 ac161 hf174 ac162 hf175 ac163 hf176 ac164 hf177 ac165 hf178 ac166 hf179 ac167 hf180 ac168 hf181 ac169 hf182 ac170 hf183 hf184 ac171 hf185 ac172 hf186 ac173 hf187 ac174 hf188 ac175 hf189 ac176 hf190 ac177 hf191 ac178 hf192 ac179 wd40 hI59 hf193 ac180 hf194 ac181 hf195
          refine then_normal ?_
          refine wp_ret ?_
          refine post1 rfl hf196 rfl ⟨?_, hI60.done (fresh_keys (ks := [b1, b2, b3, b4]) rfl (fk_cons hb1 (fk_cons hb2 (fk_cons hb3 (fk_cons hb4 fk_nil)))))⟩
          rfl
        · have hf197 := hf184.know 127 (u := .bool false) rfl (congrArg Value.bool g127_5)
          refine seq_one (op_val (v := .pointer (some ⟨b2, 1, none⟩)) hf197 rfl rfl rfl rfl rfl rfl (r_fieldAddr fi_30_1 rfl rfl) fun ac183 hf198 => ?_)
          refine seq_one (op_val (v := .int .i64 n1) hf198 rfl rfl rfl rfl rfl rfl (r_load ag_3 rfl (hI59.at 1 rfl) rfl) fun ac184 hf199 => ?_)
          refine seq_one (op_val (v := .pointer (some ⟨b1, 4, none⟩)) hf199 rfl rfl rfl rfl rfl rfl (r_fieldAddr fi_28_4 rfl rfl) fun ac185 hf200 => ?_)
          refine seq_one (op_val (v := .int .i64 b) hf200 rfl rfl rfl rfl rfl rfl (r_load ag_3 rfl (hI59.at 0 rfl) hc.c4) fun ac186 hf201 => ?_)
          refine seq_one (op_val (v := .bool (decide (n1 ≥ b))) hf201 rfl rfl rfl rfl rfl rfl (r_geq rfl rfl) fun ac187 hf202 => ?_)
          refine seq_one (op_val (v := .bool (decide (n1 ≥ b))) hf202 rfl rfl rfl rfl rfl rfl (r_pickF rfl rfl) fun ac188 hf203 => ?_)
          refine seq_one (op_val (v := .bool (decide (n1 ≥ b))) hf203 rfl rfl rfl rfl rfl rfl (r_pickT rfl rfl) fun ac189 hf204 => ?_)
          refine seq_one (op_val (v := .bool (decide (n1 ≥ b))) hf204 rfl rfl rfl rfl rfl rfl (r_move rfl) fun ac190 hf205 => ?_)
          have hf206 := hf205.know 135 (u := .bool true) rfl (congrArg Value.bool (law5_132 g127_5))
          refine seq_one (op_pure hf206 rfl rfl rfl rfl ca_16 awake_pur hI59 fun ac191 wd42 hI61 hf207 => ?_)
          refine seq_one (op_val (v := .bool true) hf207 rfl rfl rfl rfl rfl rfl (r_pickT rfl rfl) fun ac192 hf208 => ?_)
          refine seq_one (op_val (v := .bool true) hf208 rfl rfl rfl rfl rfl rfl (r_assign rfl) fun ac193 hf209 => ?_)
          refine seq_end ?_
          clear ac141 hf152 ac142 hf153 ac143 hf154 ac144 hf155 ac145 hf156 ac146 hf157 ac147 hf158 ac148 hf159 ac149 hf160 hf161 ac150 hf162 ac151 hf163 ac152 hf164 hf165 ac153 hf166 ac154 hf167 ac155 hf168 ac156 hf169 ac157 hf170 ac158 hf171 ac159 hf172 ac160 hf173 ac161 hf174 ac162 hf175 ac163 hf176 ac164 hf177 ac165 hf178 ac166 hf179 ac167 hf180 ac168 hf181 ac169 hf182 ac170 hf183 hf184 ac171 hf197 ac183 hf198 ac184 hf199 ac185 hf200 ac186 hf201 ac187 hf202 ac188 hf203 ac189 hf204 hf205 ac190 wd40 hI59 hf206 ac191 hf207 ac192 hf208
          refine then_normal ?_
          refine wp_ret ?_
          refine post1 rfl hf209 rfl ⟨?_, hI61.done (fresh_keys (ks := [b1, b2, b3, b4]) rfl (fk_cons hb1 (fk_cons hb2 (fk_cons hb3 (fk_cons hb4 fk_nil)))))⟩
          rfl
      · have hf210 := hf165.know 109 (u := .bool false) rfl (congrArg Value.bool g109_4)
        refine seq_one (op_val (v := .pointer (some ⟨b2, 2, none⟩)) hf210 rfl rfl rfl rfl rfl rfl (r_fieldAddr fi_30_2 rfl rfl) fun ac194 hf211 => ?_)
        refine seq_one (op_val (v := .int .i64 n2) hf211 rfl rfl rfl rfl rfl rfl (r_load ag_3 rfl (hI59.at 1 rfl) rfl) fun ac195 hf212 => ?_)
        refine seq_one (op_val (v := .pointer (some ⟨b1, 3, none⟩)) hf212 rfl rfl rfl rfl rfl rfl (r_fieldAddr fi_28_3 rfl rfl) fun ac196 hf213 => ?_)
        refine seq_one (op_val (v := .int .i64 f) hf213 rfl rfl rfl rfl rfl rfl (r_load ag_3 rfl (hI59.at 0 rfl) hc.c3) fun ac197 hf214 => ?_)
        refine seq_one (op_val (v := .bool (decide (n2 ≥ f))) hf214 rfl rfl rfl rfl rfl rfl (r_geq rfl rfl) fun ac198 hf215 => ?_)
        refine seq_one (op_val (v := .bool (decide (n2 ≥ f))) hf215 rfl rfl rfl rfl rfl rfl (r_move rfl) fun ac199 hf216 => ?_)
        have hf217 := hf216.know 115 (u := .bool true) rfl (congrArg Value.bool (law5_115 g109_4))
        refine seq_one (op_val (v := .pointer (some ⟨b2, 1, none⟩)) hf217 rfl rfl rfl rfl rfl rfl (r_fieldAddr fi_30_1 rfl rfl) fun ac200 hf218 => ?_)
        refine seq_one (op_val (v := .int .i64 n1) hf218 rfl rfl rfl rfl rfl rfl (r_load ag_3 rfl (hI59.at 1 rfl) rfl) fun ac201 hf219 => ?_)
        refine seq_one (op_val (v := .pointer (some ⟨b1, 4, none⟩)) hf219 rfl rfl rfl rfl rfl rfl (r_fieldAddr fi_28_4 rfl rfl) fun ac202 hf220 => ?_)
        refine seq_one (op_val (v := .int .i64 b) hf220 rfl rfl rfl rfl rfl rfl (r_load ag_3 rfl (hI59.at 0 rfl) hc.c4) fun ac203 hf221 => ?_)
        refine seq_one (op_val (v := .bool (decide (n1 < b))) hf221 rfl rfl rfl rfl rfl rfl (r_lss rfl rfl) fun ac204 hf222 => ?_)
        refine seq_one (op_val (v := .bool (decide (n1 < b))) hf222 rfl rfl rfl rfl rfl rfl (r_pickT rfl rfl) fun ac205 hf223 => ?_)
        refine seq_one (op_val (v := .bool (decide (n1 < b))) hf223 rfl rfl rfl rfl rfl rfl (r_pickF rfl rfl) fun ac206 hf224 => ?_)
        refine seq_one (op_val (v := .bool (decide (n1 < b))) hf224 rfl rfl rfl rfl rfl rfl (r_pickT rfl rfl) fun ac207 hf225 => ?_)
        refine seq_one (op_val (v := .bool (decide (n1 < b))) hf225 rfl rfl rfl rfl rfl rfl (r_move rfl) fun ac208 hf226 => ?_)
        have hf227 := hf226.know 124 (u := .bool true) rfl (congrArg Value.bool (law5_120 g109_4))
        refine seq_one (op_val (v := .int .u8 (whyF r b f n0 n1 n2)) hf227 rfl rfl rfl rfl rfl rfl (r_move rfl) fun ac209 hf228 => ?_)
        refine seq_one (op_val (v := .bool ((whyF r b f n0 n1 n2) != 2)) hf228 rfl rfl rfl rfl rfl rfl (r_neq rfl rfl) fun ac210 hf229 => ?_)
        refine seq_one (op_val (v := .bool ((whyF r b f n0 n1 n2) != 2)) hf229 rfl rfl rfl rfl rfl rfl (r_move rfl) fun ac211 hf230 => ?_)
        rcases Bool.eq_false_or_eq_true ((whyF r b f n0 n1 n2) != 2 : Bool) with g127_6 | g127_6
        · have hf231 := hf230.know 127 (u := .bool true) rfl (congrArg Value.bool g127_6)
          refine seq_one (op_skip hf231 rfl rfl rfl rfl fun ac212 hf232 => ?_)
          refine seq_one (op_skip hf232 rfl rfl rfl rfl fun ac213 hf233 => ?_)
          refine seq_one (op_skip hf233 rfl rfl rfl rfl fun ac214 hf234 => ?_)
          refine seq_one (op_skip hf234 rfl rfl rfl rfl fun ac215 hf235 => ?_)
          refine seq_one (op_skip hf235 rfl rfl rfl rfl fun ac216 hf236 => ?_)
          refine seq_one (op_val (v := .bool true) hf236 rfl rfl rfl rfl rfl rfl (r_pickT rfl rfl) fun ac217 hf237 => ?_)
          refine seq_one (op_val (v := .bool true) hf237 rfl rfl rfl rfl rfl rfl (r_pickT rfl rfl) fun ac218 hf238 => ?_)
          refine seq_one (op_val (v := .bool true) hf238 rfl rfl rfl rfl rfl rfl (r_move rfl) fun ac219 hf239 => ?_)
          refine seq_one (op_pure hf239 rfl rfl rfl rfl ca_16 awake_pur hI59 fun ac220 wd43 hI62 hf240 => ?_)
          refine seq_one (op_val (v := .bool true) hf240 rfl rfl rfl rfl rfl rfl (r_pickT rfl rfl) fun ac221 hf241 => ?_)
          refine seq_one (op_val (v := .bool true) hf241 rfl rfl rfl rfl rfl rfl (r_assign rfl) fun ac222 hf242 => ?_)
          refine seq_end ?_
          clear ac141 hf152 ac142 hf153 ac143 hf154 ac144 hf155 ac145 hf156 ac146 hf157 ac147 hf158 ac148 hf159 ac149 hf160 hf161 ac150 hf162 ac151 hf163 ac152 hf164 hf165 ac153 hf210 ac194 hf211 ac195 hf212 ac196 hf213 ac197 hf214 ac198 hf215 hf216 ac199 hf217 ac200 hf218 ac201 hf219 ac202 hf220 ac203 hf221 ac204 hf222 ac205 hf223 ac206 hf224 ac207 hf225 hf226 ac208 hf227 ac209 hf228 ac210 hf229 hf230 ac211 hf231 ac212 hf232 ac213 hf233 ac214 hf234 ac215 hf235 ac216 hf236 ac217 hf237 ac218 hf238 ac219 wd40 hI59 hf239 ac220 hf240 ac221 hf241
          refine then_normal ?_
          refine wp_ret ?_
          refine post1 rfl hf242 rfl ⟨?_, hI62.done (fresh_keys (ks := [b1, b2, b3, b4]) rfl (fk_cons hb1 (fk_cons hb2 (fk_cons hb3 (fk_cons hb4 fk_nil)))))⟩
          rfl
        · have hf243 := hf230.know 127 (u := .bool false) rfl (congrArg Value.bool g127_6)
          refine seq_one (op_val (v := .pointer (some ⟨b2, 1, none⟩)) hf243 rfl rfl rfl rfl rfl rfl (r_fieldAddr fi_30_1 rfl rfl) fun ac223 hf244 => ?_)
          refine seq_one (op_val (v := .int .i64 n1) hf244 rfl rfl rfl rfl rfl rfl (r_load ag_3 rfl (hI59.at 1 rfl) rfl) fun ac224 hf245 => ?_)
          refine seq_one (op_val (v := .pointer (some ⟨b1, 4, none⟩)) hf245 rfl rfl rfl rfl rfl rfl (r_fieldAddr fi_28_4 rfl rfl) fun ac225 hf246 => ?_)
          refine seq_one (op_val (v := .int .i64 b) hf246 rfl rfl rfl rfl rfl rfl (r_load ag_3 rfl (hI59.at 0 rfl) hc.c4) fun ac226 hf247 => ?_)
          refine seq_one (op_val (v := .bool (decide (n1 ≥ b))) hf247 rfl rfl rfl rfl rfl rfl (r_geq rfl rfl) fun ac227 hf248 => ?_)
          refine seq_one (op_val (v := .bool (decide (n1 ≥ b))) hf248 rfl rfl rfl rfl rfl rfl (r_pickF rfl rfl) fun ac228 hf249 => ?_)
          refine seq_one (op_val (v := .bool (decide (n1 ≥ b))) hf249 rfl rfl rfl rfl rfl rfl (r_pickT rfl rfl) fun ac229 hf250 => ?_)
          refine seq_one (op_val (v := .bool (decide (n1 ≥ b))) hf250 rfl rfl rfl rfl rfl rfl (r_move rfl) fun ac230 hf251 => ?_)
          have hf252 := hf251.know 135 (u := .bool true) rfl (congrArg Value.bool (law5_132 g127_6))
          refine seq_one (op_pure hf252 rfl rfl rfl rfl ca_16 awake_pur hI59 fun ac231 wd44 hI63 hf253 => ?_)
          refine seq_one (op_val (v := .bool true) hf253 rfl rfl rfl rfl rfl rfl (r_pickT rfl rfl) fun ac232 hf254 => ?_)
          refine seq_one (op_val (v := .bool true) hf254 rfl rfl rfl rfl rfl rfl (r_assign rfl) fun ac233 hf255 => ?_)
          refine seq_end ?_
          clear ac141 hf152 ac142 hf153 ac143 hf154 ac144 hf155 ac145 hf156 ac146 hf157 ac147 hf158 ac148 hf159 ac149 hf160 hf161 ac150 hf162 ac151 hf163 ac152 hf164 hf165 ac153 hf210 ac194 hf211 ac195 hf212 ac196 hf213 ac197 hf214 ac198 hf215 hf216 ac199 hf217 ac200 hf218 ac201 hf219 ac202 hf220 ac203 hf221 ac204 hf222 ac205 hf223 ac206 hf224 ac207 hf225 hf226 ac208 hf227 ac209 hf228 ac210 hf229 hf230 ac211 hf243 ac223 hf244 ac224 hf245 ac225 hf246 ac226 hf247 ac227 hf248 ac228 hf249 ac229 hf250 hf251 ac230 wd40 hI59 hf252 ac231 hf253 ac232 hf254
          refine then_normal ?_
          refine wp_ret ?_
          refine post1 rfl hf255 rfl ⟨?_, hI63.done (fresh_keys (ks := [b1, b2, b3, b4]) rfl (fk_cons hb1 (fk_cons hb2 (fk_cons hb3 (fk_cons hb4 fk_nil)))))⟩
          rfl
end Go.Proofs.Ytnajiccihfdggaa
