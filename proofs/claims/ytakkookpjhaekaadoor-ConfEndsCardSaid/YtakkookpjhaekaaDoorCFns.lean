/-
  The rules of conf: what each call comes to.
-/
import Derived.Test.YtakkookpjhaekaaDoorPlain2
import Derived.Test.YtakkookpjhaekaaDoorFwFun
namespace Go.Proofs.YtakkookpjhaekaaDoor
set_option linter.unusedVariables false
set_option linter.unusedSimpArgs false
set_option maxRecDepth 100000
open Go.RowKit
def inR (n lo hi : Int) : Bool := decide (n ≥ lo) && decide (n ≤ hi)
def paceF (q f m l : Int) : Bool := (decide (q ≥ 1) && decide (q ≤ 1048576)) && (decide (f ≥ 1) && decide (f ≤ 1048576)) && (decide (m ≤ 1099511627776) && decide (l ≤ 1099511627776))
def wrongF (c0 c1 c2 c3 c4 c5 c6 c8 c9 c10 c11 c12 : Int) (mp : List Int) (c29 c32 c33 c34 c35 c36 : Int) : Int := bif !(inR c0 1 65536) then 1 else bif !(inR c1 1 4096) then 2 else bif !(inR c2 0 10) then 3 else bif !(inR c3 1 c0 && inR c4 1 c0) then 4 else bif !(paceF c5 c6 c8 c9 && decide (c5 ≥ 64)) then 5 else bif !(inR c10 1024 1048576 && inR c11 1024 1048576 && inR c12 1024 1048576) then 6 else bif !(rightF mp) then 7 else bif !(decide (c29 ≤ 1125899906842624)) then 8 else bif !(inR c32 2 4096 && decide (c33 ≥ 1) && decide (c33 ≤ 1099511627776)) then 9 else bif !(inR c34 1 4096) then 10 else bif !(inR c35 64 65536 && inR c36 1 64) then 11 else 0
theorem ag_1 : aggB Tryd.prog 1 = some false := by kernel_rfl
theorem sz_1 : sizeB Tryd.prog 1 = some 1 := by kernel_rfl
theorem ag_24 : aggB Tryd.prog 24 = some false := by kernel_rfl
theorem sz_24 : sizeB Tryd.prog 24 = some 1 := by kernel_rfl
theorem ag_25 : aggB Tryd.prog 25 = some false := by kernel_rfl
theorem sz_25 : sizeB Tryd.prog 25 = some 1 := by kernel_rfl
theorem ag_26 : aggB Tryd.prog 26 = some false := by kernel_rfl
theorem sz_26 : sizeB Tryd.prog 26 = some 1 := by kernel_rfl
theorem ag_28 : aggB Tryd.prog 28 = some false := by kernel_rfl
theorem sz_28 : sizeB Tryd.prog 28 = some 1 := by kernel_rfl
theorem ag_29 : aggB Tryd.prog 29 = some false := by kernel_rfl
theorem sz_29 : sizeB Tryd.prog 29 = some 1 := by kernel_rfl
theorem ag_30 : aggB Tryd.prog 30 = some false := by kernel_rfl
theorem sz_30 : sizeB Tryd.prog 30 = some 1 := by kernel_rfl
theorem ag_31 : aggB Tryd.prog 31 = some false := by kernel_rfl
theorem sz_31 : sizeB Tryd.prog 31 = some 1 := by kernel_rfl
theorem ag_32 : aggB Tryd.prog 32 = some false := by kernel_rfl
theorem sz_32 : sizeB Tryd.prog 32 = some 1 := by kernel_rfl
theorem ag_34 : aggB Tryd.prog 34 = some false := by kernel_rfl
theorem sz_34 : sizeB Tryd.prog 34 = some 1 := by kernel_rfl
theorem ag_35 : aggB Tryd.prog 35 = some false := by kernel_rfl
theorem sz_35 : sizeB Tryd.prog 35 = some 1 := by kernel_rfl
theorem ag_42 : aggB Tryd.prog 42 = some false := by kernel_rfl
theorem sz_42 : sizeB Tryd.prog 42 = some 1 := by kernel_rfl
theorem ag_43 : aggB Tryd.prog 43 = some false := by kernel_rfl
theorem sz_43 : sizeB Tryd.prog 43 = some 1 := by kernel_rfl
theorem ag_44 : aggB Tryd.prog 44 = some false := by kernel_rfl
theorem sz_44 : sizeB Tryd.prog 44 = some 1 := by kernel_rfl
theorem ag_47 : aggB Tryd.prog 47 = some false := by kernel_rfl
theorem sz_47 : sizeB Tryd.prog 47 = some 1 := by kernel_rfl
theorem ag_48 : aggB Tryd.prog 48 = some false := by kernel_rfl
theorem sz_48 : sizeB Tryd.prog 48 = some 1 := by kernel_rfl
theorem ag_49 : aggB Tryd.prog 49 = some false := by kernel_rfl
theorem sz_49 : sizeB Tryd.prog 49 = some 1 := by kernel_rfl
theorem ag_51 : aggB Tryd.prog 51 = some false := by kernel_rfl
theorem sz_51 : sizeB Tryd.prog 51 = some 1 := by kernel_rfl
theorem ag_52 : aggB Tryd.prog 52 = some false := by kernel_rfl
theorem sz_52 : sizeB Tryd.prog 52 = some 1 := by kernel_rfl
theorem ag_53 : aggB Tryd.prog 53 = some false := by kernel_rfl
theorem sz_53 : sizeB Tryd.prog 53 = some 1 := by kernel_rfl
theorem ag_59 : aggB Tryd.prog 59 = some false := by kernel_rfl
theorem sz_59 : sizeB Tryd.prog 59 = some 1 := by kernel_rfl
theorem ag_61 : aggB Tryd.prog 61 = some false := by kernel_rfl
theorem sz_61 : sizeB Tryd.prog 61 = some 1 := by kernel_rfl
theorem ag_62 : aggB Tryd.prog 62 = some false := by kernel_rfl
theorem sz_62 : sizeB Tryd.prog 62 = some 1 := by kernel_rfl
theorem ag_63 : aggB Tryd.prog 63 = some false := by kernel_rfl
theorem sz_63 : sizeB Tryd.prog 63 = some 1 := by kernel_rfl
theorem ag_64 : aggB Tryd.prog 64 = some false := by kernel_rfl
theorem sz_64 : sizeB Tryd.prog 64 = some 1 := by kernel_rfl
theorem ag_70 : aggB Tryd.prog 70 = some false := by kernel_rfl
theorem sz_70 : sizeB Tryd.prog 70 = some 1 := by kernel_rfl
theorem ag_74 : aggB Tryd.prog 74 = some false := by kernel_rfl
theorem sz_74 : sizeB Tryd.prog 74 = some 1 := by kernel_rfl
theorem maxle {m l b : Int} : decide ((if l > m then l else m) ≤ b) = (decide (m ≤ b) && decide (l ≤ b)) := by
  by_cases h : l > m
  · rw [if_pos h]; by_cases g : l ≤ b <;> simp [g] <;> omega
  · rw [if_neg h]; by_cases g : m ≤ b <;> simp [g] <;> omega
set_option maxHeartbeats 8000000 in
theorem within_pur (n lo hi : Int) : Pur Tryd.prog 49 [.int .i64 n, .int .i64 lo, .int .i64 hi] (.bool (inR n lo hi)) := by
  intro w
  have hI1 := Inv.start w
  refine enter (n := 15) Tryd.func49 rfl rfl rfl ?_
  intro ac1 hf1
  refine code_seq ?_
  refine seq_start (l := [0]) rfl ?_
  refine seq_one (op_val (v := .bool false) hf1 rfl rfl rfl rfl rfl rfl (r_assign rfl) fun ac2 hf2 => ?_)
  refine seq_end ?_
  clear ac1 hf1
  refine then_normal ?_
  refine code_seq ?_
  refine seq_start (l := [0, 1, 2, 3, 4, 5, 6, 7, 8]) rfl ?_
  refine seq_one (op_val (v := .int .i64 n) hf2 rfl rfl rfl rfl rfl rfl (r_move rfl) fun ac3 hf3 => ?_)
  refine seq_one (op_val (v := .int .i64 lo) hf3 rfl rfl rfl rfl rfl rfl (r_move rfl) fun ac4 hf4 => ?_)
  refine seq_one (op_val (v := .bool (decide (n ≥ lo))) hf4 rfl rfl rfl rfl rfl rfl (r_geq rfl rfl) fun ac5 hf5 => ?_)
  refine seq_one (op_val (v := .bool (decide (n ≥ lo))) hf5 rfl rfl rfl rfl rfl rfl (r_move rfl) fun ac6 hf6 => ?_)
  rcases Bool.eq_false_or_eq_true (decide (n ≥ lo) : Bool) with g10_1 | g10_1
  · have hf7 := hf6.know 10 (u := .bool true) rfl (congrArg Value.bool g10_1)
    refine seq_one (op_val (v := .int .i64 n) hf7 rfl rfl rfl rfl rfl rfl (r_move rfl) fun ac7 hf8 => ?_)
    refine seq_one (op_val (v := .int .i64 hi) hf8 rfl rfl rfl rfl rfl rfl (r_move rfl) fun ac8 hf9 => ?_)
    refine seq_one (op_val (v := .bool (decide (n ≤ hi))) hf9 rfl rfl rfl rfl rfl rfl (r_leq rfl rfl) fun ac9 hf10 => ?_)
    refine seq_one (op_val (v := .bool (decide (n ≤ hi))) hf10 rfl rfl rfl rfl rfl rfl (r_pickT rfl rfl) fun ac10 hf11 => ?_)
    refine seq_one (op_val (v := .bool (decide (n ≤ hi))) hf11 rfl rfl rfl rfl rfl rfl (r_assign rfl) fun ac11 hf12 => ?_)
    refine seq_end ?_
    clear ac2 hf2 ac3 hf3 ac4 hf4 ac5 hf5 hf6 ac6 hf7 ac7 hf8 ac8 hf9 ac9 hf10 ac10 hf11
    refine then_normal ?_
    refine wp_ret ?_
    refine post1 rfl hf12 rfl ⟨?_, hI1.done (fresh_keys (ks := []) rfl fk_nil)⟩
    try simp only [decide_eq_true_eq, decide_eq_false_iff_not, Bool.not_eq_true', Bool.not_eq_false'] at g10_1
    first | (simp [g10_1]; done) | (simp [inR, paceF, g10_1] <;> omega)
  · have hf13 := hf6.know 10 (u := .bool false) rfl (congrArg Value.bool g10_1)
    refine seq_one (op_skip hf13 rfl rfl rfl rfl fun ac12 hf14 => ?_)
    refine seq_one (op_skip hf14 rfl rfl rfl rfl fun ac13 hf15 => ?_)
    refine seq_one (op_skip hf15 rfl rfl rfl rfl fun ac14 hf16 => ?_)
    refine seq_one (op_val (v := .bool false) hf16 rfl rfl rfl rfl rfl rfl (r_pickF rfl rfl) fun ac15 hf17 => ?_)
    refine seq_one (op_val (v := .bool false) hf17 rfl rfl rfl rfl rfl rfl (r_assign rfl) fun ac16 hf18 => ?_)
    refine seq_end ?_
    clear ac2 hf2 ac3 hf3 ac4 hf4 ac5 hf5 hf6 ac6 hf13 ac12 hf14 ac13 hf15 ac14 hf16 ac15 hf17
    refine then_normal ?_
    refine wp_ret ?_
    refine post1 rfl hf18 rfl ⟨?_, hI1.done (fresh_keys (ks := []) rfl fk_nil)⟩
    try simp only [decide_eq_true_eq, decide_eq_false_iff_not, Bool.not_eq_true', Bool.not_eq_false'] at g10_1
    first | (simp [g10_1]; done) | (simp [inR, paceF, g10_1] <;> omega)
set_option maxHeartbeats 8000000 in
theorem flowR_pur (q f r m l : Int) : Pur Tryd.prog 54 [.agg #[.int .i64 q, .int .i64 f, .int .u64 r, .int .u64 m, .int .u64 l]] (.bool (paceF q f m l)) := by
  intro w
  have hI1 := Inv.start w
  refine enter (n := 29) Tryd.func54 rfl rfl rfl ?_
  intro ac1 hf1
  refine code_seq ?_
  refine seq_start (l := [0, 1]) rfl ?_
  refine seq_one (op_box hf1 rfl rfl rfl rfl hI1 fun ac2 b1 wd1 hb1 hI2 hf2 => ?_)
  have hI3 : Inv w [(b1, #[.int .i64 q, .int .i64 f, .int .u64 r, .int .u64 m, .int .u64 l], 38)] wd1 := hI2
  refine seq_one (op_val (v := .bool false) hf2 rfl rfl rfl rfl rfl rfl (r_assign rfl) fun ac3 hf3 => ?_)
  refine seq_end ?_
  clear ac1 hI1 hf1 hI2 ac2 hf2
  refine then_normal ?_
  refine code_seq ?_
  refine seq_start (l := [0, 1, 2, 3, 4, 5, 6, 7, 8, 9, 10, 11, 12, 13, 14, 15, 16, 17, 18, 19, 20, 21, 22, 23, 24, 25, 26]) rfl ?_
  refine seq_one (op_val (v := .pointer (some ⟨b1, 0, none⟩)) hf3 rfl rfl rfl rfl rfl rfl (r_fieldAddr fi_38_0 rfl rfl) fun ac4 hf4 => ?_)
  refine seq_one (op_val (v := .int .i64 q) hf4 rfl rfl rfl rfl rfl rfl (r_load ag_3 rfl (hI3.at 0 rfl) rfl) fun ac5 hf5 => ?_)
  refine seq_one (op_val (v := .bool (decide (q ≥ 1))) hf5 rfl rfl rfl rfl rfl rfl (r_geq rfl rfl) fun ac6 hf6 => ?_)
  refine seq_one (op_val (v := .bool (decide (q ≥ 1))) hf6 rfl rfl rfl rfl rfl rfl (r_move rfl) fun ac7 hf7 => ?_)
  rcases Bool.eq_false_or_eq_true (decide (q ≥ 1) : Bool) with g6_1 | g6_1
  · have hf8 := hf7.know 6 (u := .bool true) rfl (congrArg Value.bool g6_1)
    refine seq_one (op_val (v := .pointer (some ⟨b1, 0, none⟩)) hf8 rfl rfl rfl rfl rfl rfl (r_fieldAddr fi_38_0 rfl rfl) fun ac8 hf9 => ?_)
    refine seq_one (op_val (v := .int .i64 q) hf9 rfl rfl rfl rfl rfl rfl (r_load ag_3 rfl (hI3.at 0 rfl) rfl) fun ac9 hf10 => ?_)
    refine seq_one (op_val (v := .bool (decide (q ≤ 1048576))) hf10 rfl rfl rfl rfl rfl rfl (r_leq rfl rfl) fun ac10 hf11 => ?_)
    refine seq_one (op_val (v := .bool (decide (q ≤ 1048576))) hf11 rfl rfl rfl rfl rfl rfl (r_pickT rfl rfl) fun ac11 hf12 => ?_)
    refine seq_one (op_val (v := .bool (decide (q ≤ 1048576))) hf12 rfl rfl rfl rfl rfl rfl (r_move rfl) fun ac12 hf13 => ?_)
    rcases Bool.eq_false_or_eq_true (decide (q ≤ 1048576) : Bool) with g11_2 | g11_2
    · have hf14 := hf13.know 11 (u := .bool true) rfl (congrArg Value.bool g11_2)
      refine seq_one (op_val (v := .pointer (some ⟨b1, 1, none⟩)) hf14 rfl rfl rfl rfl rfl rfl (r_fieldAddr fi_38_1 rfl rfl) fun ac13 hf15 => ?_)
      refine seq_one (op_val (v := .int .i64 f) hf15 rfl rfl rfl rfl rfl rfl (r_load ag_3 rfl (hI3.at 0 rfl) rfl) fun ac14 hf16 => ?_)
      refine seq_one (op_val (v := .bool (decide (f ≥ 1))) hf16 rfl rfl rfl rfl rfl rfl (r_geq rfl rfl) fun ac15 hf17 => ?_)
      refine seq_one (op_val (v := .bool (decide (f ≥ 1))) hf17 rfl rfl rfl rfl rfl rfl (r_pickT rfl rfl) fun ac16 hf18 => ?_)
      refine seq_one (op_val (v := .bool (decide (f ≥ 1))) hf18 rfl rfl rfl rfl rfl rfl (r_move rfl) fun ac17 hf19 => ?_)
      rcases Bool.eq_false_or_eq_true (decide (f ≥ 1) : Bool) with g16_3 | g16_3
      · have hf20 := hf19.know 16 (u := .bool true) rfl (congrArg Value.bool g16_3)
        refine seq_one (op_val (v := .pointer (some ⟨b1, 1, none⟩)) hf20 rfl rfl rfl rfl rfl rfl (r_fieldAddr fi_38_1 rfl rfl) fun ac18 hf21 => ?_)
        refine seq_one (op_val (v := .int .i64 f) hf21 rfl rfl rfl rfl rfl rfl (r_load ag_3 rfl (hI3.at 0 rfl) rfl) fun ac19 hf22 => ?_)
        refine seq_one (op_val (v := .bool (decide (f ≤ 1048576))) hf22 rfl rfl rfl rfl rfl rfl (r_leq rfl rfl) fun ac20 hf23 => ?_)
        refine seq_one (op_val (v := .bool (decide (f ≤ 1048576))) hf23 rfl rfl rfl rfl rfl rfl (r_pickT rfl rfl) fun ac21 hf24 => ?_)
        refine seq_one (op_val (v := .bool (decide (f ≤ 1048576))) hf24 rfl rfl rfl rfl rfl rfl (r_move rfl) fun ac22 hf25 => ?_)
        rcases Bool.eq_false_or_eq_true (decide (f ≤ 1048576) : Bool) with g21_4 | g21_4
        · have hf26 := hf25.know 21 (u := .bool true) rfl (congrArg Value.bool g21_4)
          refine seq_one (op_val (v := .pointer (some ⟨b1, 3, none⟩)) hf26 rfl rfl rfl rfl rfl rfl (r_fieldAddr fi_38_3 rfl rfl) fun ac23 hf27 => ?_)
          refine seq_one (op_val (v := .int .u64 m) hf27 rfl rfl rfl rfl rfl rfl (r_load ag_36 rfl (hI3.at 0 rfl) rfl) fun ac24 hf28 => ?_)
          refine seq_one (op_val (v := .pointer (some ⟨b1, 4, none⟩)) hf28 rfl rfl rfl rfl rfl rfl (r_fieldAddr fi_38_4 rfl rfl) fun ac25 hf29 => ?_)
          refine seq_one (op_val (v := .int .u64 l) hf29 rfl rfl rfl rfl rfl rfl (r_load ag_36 rfl (hI3.at 0 rfl) rfl) fun ac26 hf30 => ?_)
          refine seq_one (op_val (v := .int .u64 (if l > m then l else m)) hf30 rfl rfl rfl rfl rfl rfl (r_max rfl rfl) fun ac27 hf31 => ?_)
          refine seq_one (op_val (v := .bool (decide ((if l > m then l else m) ≤ 1099511627776))) hf31 rfl rfl rfl rfl rfl rfl (r_leq rfl rfl) fun ac28 hf32 => ?_)
          refine seq_one (op_val (v := .bool (decide ((if l > m then l else m) ≤ 1099511627776))) hf32 rfl rfl rfl rfl rfl rfl (r_pickT rfl rfl) fun ac29 hf33 => ?_)
          refine seq_one (op_val (v := .bool (decide ((if l > m then l else m) ≤ 1099511627776))) hf33 rfl rfl rfl rfl rfl rfl (r_assign rfl) fun ac30 hf34 => ?_)
          refine seq_end ?_
          clear ac3 hf3 ac4 hf4 ac5 hf5 ac6 hf6 hf7 ac7 hf8 ac8 hf9 ac9 hf10 ac10 hf11 ac11 hf12 hf13 ac12 hf14 ac13 hf15 ac14 hf16 ac15 hf17 ac16 hf18 hf19 ac17 hf20 ac18 hf21 ac19 hf22 ac20 hf23 ac21 hf24 hf25 ac22 hf26 ac23 hf27 ac24 hf28 ac25 hf29 ac26 hf30 ac27 hf31 ac28 hf32 ac29 hf33
          refine then_normal ?_
          refine wp_ret ?_
          refine post1 rfl hf34 rfl ⟨?_, hI3.done (fresh_keys (ks := [b1]) rfl (fk_cons hb1 fk_nil))⟩
          simp only [decide_eq_true_eq, decide_eq_false_iff_not, Bool.not_eq_true', Bool.not_eq_false'] at g6_1 g11_2 g16_3 g21_4
          simp [paceF, maxle, g6_1, g11_2, g16_3, g21_4] <;> omega
        · have hf35 := hf25.know 21 (u := .bool false) rfl (congrArg Value.bool g21_4)
          refine seq_one (op_skip hf35 rfl rfl rfl rfl fun ac31 hf36 => ?_)
          refine seq_one (op_skip hf36 rfl rfl rfl rfl fun ac32 hf37 => ?_)
          refine seq_one (op_skip hf37 rfl rfl rfl rfl fun ac33 hf38 => ?_)
          refine seq_one (op_skip hf38 rfl rfl rfl rfl fun ac34 hf39 => ?_)
          refine seq_one (op_skip hf39 rfl rfl rfl rfl fun ac35 hf40 => ?_)
          refine seq_one (op_skip hf40 rfl rfl rfl rfl fun ac36 hf41 => ?_)
          refine seq_one (op_val (v := .bool false) hf41 rfl rfl rfl rfl rfl rfl (r_pickF rfl rfl) fun ac37 hf42 => ?_)
          refine seq_one (op_val (v := .bool false) hf42 rfl rfl rfl rfl rfl rfl (r_assign rfl) fun ac38 hf43 => ?_)
          refine seq_end ?_
          clear ac3 hf3 ac4 hf4 ac5 hf5 ac6 hf6 hf7 ac7 hf8 ac8 hf9 ac9 hf10 ac10 hf11 ac11 hf12 hf13 ac12 hf14 ac13 hf15 ac14 hf16 ac15 hf17 ac16 hf18 hf19 ac17 hf20 ac18 hf21 ac19 hf22 ac20 hf23 ac21 hf24 hf25 ac22 hf35 ac31 hf36 ac32 hf37 ac33 hf38 ac34 hf39 ac35 hf40 ac36 hf41 ac37 hf42
          refine then_normal ?_
          refine wp_ret ?_
          refine post1 rfl hf43 rfl ⟨?_, hI3.done (fresh_keys (ks := [b1]) rfl (fk_cons hb1 fk_nil))⟩
          simp only [decide_eq_true_eq, decide_eq_false_iff_not, Bool.not_eq_true', Bool.not_eq_false'] at g6_1 g11_2 g16_3 g21_4
          simp [paceF, maxle, g6_1, g11_2, g16_3, g21_4] <;> omega
      · have hf44 := hf19.know 16 (u := .bool false) rfl (congrArg Value.bool g16_3)
        refine seq_one (op_skip hf44 rfl rfl rfl rfl fun ac39 hf45 => ?_)
        refine seq_one (op_skip hf45 rfl rfl rfl rfl fun ac40 hf46 => ?_)
        refine seq_one (op_skip hf46 rfl rfl rfl rfl fun ac41 hf47 => ?_)
        refine seq_one (op_val (v := .bool false) hf47 rfl rfl rfl rfl rfl rfl (r_pickF rfl rfl) fun ac42 hf48 => ?_)
        refine seq_one (op_val (v := .bool false) hf48 rfl rfl rfl rfl rfl rfl (r_move rfl) fun ac43 hf49 => ?_)
        refine seq_one (op_skip hf49 rfl rfl rfl rfl fun ac44 hf50 => ?_)
        refine seq_one (op_skip hf50 rfl rfl rfl rfl fun ac45 hf51 => ?_)
        refine seq_one (op_skip hf51 rfl rfl rfl rfl fun ac46 hf52 => ?_)
        refine seq_one (op_skip hf52 rfl rfl rfl rfl fun ac47 hf53 => ?_)
        refine seq_one (op_skip hf53 rfl rfl rfl rfl fun ac48 hf54 => ?_)
        refine seq_one (op_skip hf54 rfl rfl rfl rfl fun ac49 hf55 => ?_)
        refine seq_one (op_val (v := .bool false) hf55 rfl rfl rfl rfl rfl rfl (r_pickF rfl rfl) fun ac50 hf56 => ?_)
        refine seq_one (op_val (v := .bool false) hf56 rfl rfl rfl rfl rfl rfl (r_assign rfl) fun ac51 hf57 => ?_)
        refine seq_end ?_
        clear ac3 hf3 ac4 hf4 ac5 hf5 ac6 hf6 hf7 ac7 hf8 ac8 hf9 ac9 hf10 ac10 hf11 ac11 hf12 hf13 ac12 hf14 ac13 hf15 ac14 hf16 ac15 hf17 ac16 hf18 hf19 ac17 hf44 ac39 hf45 ac40 hf46 ac41 hf47 ac42 hf48 ac43 hf49 ac44 hf50 ac45 hf51 ac46 hf52 ac47 hf53 ac48 hf54 ac49 hf55 ac50 hf56
        refine then_normal ?_
        refine wp_ret ?_
        refine post1 rfl hf57 rfl ⟨?_, hI3.done (fresh_keys (ks := [b1]) rfl (fk_cons hb1 fk_nil))⟩
        simp only [decide_eq_true_eq, decide_eq_false_iff_not, Bool.not_eq_true', Bool.not_eq_false'] at g6_1 g11_2 g16_3
        simp [paceF, maxle, g6_1, g11_2, g16_3] <;> omega
    · have hf58 := hf13.know 11 (u := .bool false) rfl (congrArg Value.bool g11_2)
      refine seq_one (op_skip hf58 rfl rfl rfl rfl fun ac52 hf59 => ?_)
      refine seq_one (op_skip hf59 rfl rfl rfl rfl fun ac53 hf60 => ?_)
      refine seq_one (op_skip hf60 rfl rfl rfl rfl fun ac54 hf61 => ?_)
      refine seq_one (op_val (v := .bool false) hf61 rfl rfl rfl rfl rfl rfl (r_pickF rfl rfl) fun ac55 hf62 => ?_)
      refine seq_one (op_val (v := .bool false) hf62 rfl rfl rfl rfl rfl rfl (r_move rfl) fun ac56 hf63 => ?_)
      refine seq_one (op_skip hf63 rfl rfl rfl rfl fun ac57 hf64 => ?_)
      refine seq_one (op_skip hf64 rfl rfl rfl rfl fun ac58 hf65 => ?_)
      refine seq_one (op_skip hf65 rfl rfl rfl rfl fun ac59 hf66 => ?_)
      refine seq_one (op_val (v := .bool false) hf66 rfl rfl rfl rfl rfl rfl (r_pickF rfl rfl) fun ac60 hf67 => ?_)
      refine seq_one (op_val (v := .bool false) hf67 rfl rfl rfl rfl rfl rfl (r_move rfl) fun ac61 hf68 => ?_)
      refine seq_one (op_skip hf68 rfl rfl rfl rfl fun ac62 hf69 => ?_)
      refine seq_one (op_skip hf69 rfl rfl rfl rfl fun ac63 hf70 => ?_)
      refine seq_one (op_skip hf70 rfl rfl rfl rfl fun ac64 hf71 => ?_)
      refine seq_one (op_skip hf71 rfl rfl rfl rfl fun ac65 hf72 => ?_)
      refine seq_one (op_skip hf72 rfl rfl rfl rfl fun ac66 hf73 => ?_)
      refine seq_one (op_skip hf73 rfl rfl rfl rfl fun ac67 hf74 => ?_)
      refine seq_one (op_val (v := .bool false) hf74 rfl rfl rfl rfl rfl rfl (r_pickF rfl rfl) fun ac68 hf75 => ?_)
      refine seq_one (op_val (v := .bool false) hf75 rfl rfl rfl rfl rfl rfl (r_assign rfl) fun ac69 hf76 => ?_)
      refine seq_end ?_
      clear ac3 hf3 ac4 hf4 ac5 hf5 ac6 hf6 hf7 ac7 hf8 ac8 hf9 ac9 hf10 ac10 hf11 ac11 hf12 hf13 ac12 hf58 ac52 hf59 ac53 hf60 ac54 hf61 ac55 hf62 ac56 hf63 ac57 hf64 ac58 hf65 ac59 hf66 ac60 hf67 ac61 hf68 ac62 hf69 ac63 hf70 ac64 hf71 ac65 hf72 ac66 hf73 ac67 hf74 ac68 hf75
      refine then_normal ?_
      refine wp_ret ?_
      refine post1 rfl hf76 rfl ⟨?_, hI3.done (fresh_keys (ks := [b1]) rfl (fk_cons hb1 fk_nil))⟩
      simp only [decide_eq_true_eq, decide_eq_false_iff_not, Bool.not_eq_true', Bool.not_eq_false'] at g6_1 g11_2
      simp [paceF, maxle, g6_1, g11_2] <;> omega
  · have hf77 := hf7.know 6 (u := .bool false) rfl (congrArg Value.bool g6_1)
    refine seq_one (op_skip hf77 rfl rfl rfl rfl fun ac70 hf78 => ?_)
    refine seq_one (op_skip hf78 rfl rfl rfl rfl fun ac71 hf79 => ?_)
    refine seq_one (op_skip hf79 rfl rfl rfl rfl fun ac72 hf80 => ?_)
    refine seq_one (op_val (v := .bool false) hf80 rfl rfl rfl rfl rfl rfl (r_pickF rfl rfl) fun ac73 hf81 => ?_)
    refine seq_one (op_val (v := .bool false) hf81 rfl rfl rfl rfl rfl rfl (r_move rfl) fun ac74 hf82 => ?_)
    refine seq_one (op_skip hf82 rfl rfl rfl rfl fun ac75 hf83 => ?_)
    refine seq_one (op_skip hf83 rfl rfl rfl rfl fun ac76 hf84 => ?_)
    refine seq_one (op_skip hf84 rfl rfl rfl rfl fun ac77 hf85 => ?_)
    refine seq_one (op_val (v := .bool false) hf85 rfl rfl rfl rfl rfl rfl (r_pickF rfl rfl) fun ac78 hf86 => ?_)
    refine seq_one (op_val (v := .bool false) hf86 rfl rfl rfl rfl rfl rfl (r_move rfl) fun ac79 hf87 => ?_)
    refine seq_one (op_skip hf87 rfl rfl rfl rfl fun ac80 hf88 => ?_)
    refine seq_one (op_skip hf88 rfl rfl rfl rfl fun ac81 hf89 => ?_)
    refine seq_one (op_skip hf89 rfl rfl rfl rfl fun ac82 hf90 => ?_)
    refine seq_one (op_val (v := .bool false) hf90 rfl rfl rfl rfl rfl rfl (r_pickF rfl rfl) fun ac83 hf91 => ?_)
    refine seq_one (op_val (v := .bool false) hf91 rfl rfl rfl rfl rfl rfl (r_move rfl) fun ac84 hf92 => ?_)
    refine seq_one (op_skip hf92 rfl rfl rfl rfl fun ac85 hf93 => ?_)
    refine seq_one (op_skip hf93 rfl rfl rfl rfl fun ac86 hf94 => ?_)
    refine seq_one (op_skip hf94 rfl rfl rfl rfl fun ac87 hf95 => ?_)
    refine seq_one (op_skip hf95 rfl rfl rfl rfl fun ac88 hf96 => ?_)
    refine seq_one (op_skip hf96 rfl rfl rfl rfl fun ac89 hf97 => ?_)
    refine seq_one (op_skip hf97 rfl rfl rfl rfl fun ac90 hf98 => ?_)
    refine seq_one (op_val (v := .bool false) hf98 rfl rfl rfl rfl rfl rfl (r_pickF rfl rfl) fun ac91 hf99 => ?_)
    refine seq_one (op_val (v := .bool false) hf99 rfl rfl rfl rfl rfl rfl (r_assign rfl) fun ac92 hf100 => ?_)
    refine seq_end ?_
    clear ac3 hf3 ac4 hf4 ac5 hf5 ac6 hf6 hf7 ac7 hf77 ac70 hf78 ac71 hf79 ac72 hf80 ac73 hf81 ac74 hf82 ac75 hf83 ac76 hf84 ac77 hf85 ac78 hf86 ac79 hf87 ac80 hf88 ac81 hf89 ac82 hf90 ac83 hf91 ac84 hf92 ac85 hf93 ac86 hf94 ac87 hf95 ac88 hf96 ac89 hf97 ac90 hf98 ac91 hf99
    refine then_normal ?_
    refine wp_ret ?_
    refine post1 rfl hf100 rfl ⟨?_, hI3.done (fresh_keys (ks := [b1]) rfl (fk_cons hb1 fk_nil))⟩
    simp only [decide_eq_true_eq, decide_eq_false_iff_not, Bool.not_eq_true', Bool.not_eq_false'] at g6_1
    simp [paceF, maxle, g6_1] <;> omega
set_option maxHeartbeats 8000000 in
theorem flowRR_pur (q f r m l : Int) : Pur Tryd.prog 47 [.agg #[.int .i64 q, .int .i64 f, .int .u64 r, .int .u64 m, .int .u64 l]] (.bool (paceF q f m l)) := by
  intro w
  have hI1 := Inv.start w
  refine enter (n := 29) Tryd.func47 rfl rfl rfl ?_
  intro ac1 hf1
  refine code_seq ?_
  refine seq_start (l := [0, 1]) rfl ?_
  refine seq_one (op_box hf1 rfl rfl rfl rfl hI1 fun ac2 b1 wd1 hb1 hI2 hf2 => ?_)
  have hI3 : Inv w [(b1, #[.int .i64 q, .int .i64 f, .int .u64 r, .int .u64 m, .int .u64 l], 38)] wd1 := hI2
  refine seq_one (op_val (v := .bool false) hf2 rfl rfl rfl rfl rfl rfl (r_assign rfl) fun ac3 hf3 => ?_)
  refine seq_end ?_
  clear ac1 hI1 hf1 hI2 ac2 hf2
  refine then_normal ?_
  refine code_seq ?_
  refine code_seq ?_
  refine seq_start (l := [0, 1, 2, 3, 4, 5, 6, 7, 8, 9, 10, 11, 12, 13, 14, 15, 16, 17]) rfl ?_
  refine seq_one (op_val (v := .pointer (some ⟨b1, 0, none⟩)) hf3 rfl rfl rfl rfl rfl rfl (r_fieldAddr fi_38_0 rfl rfl) fun ac4 hf4 => ?_)
  refine seq_one (op_val (v := .int .i64 q) hf4 rfl rfl rfl rfl rfl rfl (r_load ag_3 rfl (hI3.at 0 rfl) rfl) fun ac5 hf5 => ?_)
  refine seq_one (op_val (v := .bool (decide (q < 1))) hf5 rfl rfl rfl rfl rfl rfl (r_lss rfl rfl) fun ac6 hf6 => ?_)
  refine seq_one (op_val (v := .bool (decide (q < 1))) hf6 rfl rfl rfl rfl rfl rfl (r_move rfl) fun ac7 hf7 => ?_)
  rcases Bool.eq_false_or_eq_true (decide (q < 1) : Bool) with g6_1 | g6_1
  · have hf8 := hf7.know 6 (u := .bool true) rfl (congrArg Value.bool g6_1)
    refine seq_one (op_skip hf8 rfl rfl rfl rfl fun ac8 hf9 => ?_)
    refine seq_one (op_skip hf9 rfl rfl rfl rfl fun ac9 hf10 => ?_)
    refine seq_one (op_skip hf10 rfl rfl rfl rfl fun ac10 hf11 => ?_)
    refine seq_one (op_val (v := .bool true) hf11 rfl rfl rfl rfl rfl rfl (r_pickT rfl rfl) fun ac11 hf12 => ?_)
    refine seq_one (op_val (v := .bool true) hf12 rfl rfl rfl rfl rfl rfl (r_move rfl) fun ac12 hf13 => ?_)
    refine seq_one (op_skip hf13 rfl rfl rfl rfl fun ac13 hf14 => ?_)
    refine seq_one (op_skip hf14 rfl rfl rfl rfl fun ac14 hf15 => ?_)
    refine seq_one (op_skip hf15 rfl rfl rfl rfl fun ac15 hf16 => ?_)
    refine seq_one (op_val (v := .bool true) hf16 rfl rfl rfl rfl rfl rfl (r_pickT rfl rfl) fun ac16 hf17 => ?_)
    refine seq_one (op_val (v := .bool true) hf17 rfl rfl rfl rfl rfl rfl (r_move rfl) fun ac17 hf18 => ?_)
    refine seq_one (op_skip hf18 rfl rfl rfl rfl fun ac18 hf19 => ?_)
    refine seq_one (op_skip hf19 rfl rfl rfl rfl fun ac19 hf20 => ?_)
    refine seq_one (op_skip hf20 rfl rfl rfl rfl fun ac20 hf21 => ?_)
    refine seq_one (op_val (v := .bool true) hf21 rfl rfl rfl rfl rfl rfl (r_pickT rfl rfl) fun ac21 hf22 => ?_)
    refine seq_end ?_
    clear ac3 hf3 ac4 hf4 ac5 hf5 ac6 hf6 hf7 ac7 hf8 ac8 hf9 ac9 hf10 ac10 hf11 ac11 hf12 ac12 hf13 ac13 hf14 ac14 hf15 ac15 hf16 ac16 hf17 ac17 hf18 ac18 hf19 ac19 hf20 ac20 hf21
    refine then_normal ?_
    refine code_if_true hf22 rfl ?_
    refine code_seq ?_
    refine seq_start (l := [0]) rfl ?_
    refine seq_one (op_val (v := .bool false) hf22 rfl rfl rfl rfl rfl rfl (r_assign rfl) fun ac22 hf23 => ?_)
    refine seq_end ?_
    clear ac21 hf22
    refine then_normal ?_
    refine wp_ret ?_
    refine then_ret ?_
    refine post1 rfl hf23 rfl ⟨?_, hI3.done (fresh_keys (ks := [b1]) rfl (fk_cons hb1 fk_nil))⟩
    try simp only [decide_eq_true_eq, decide_eq_false_iff_not, Bool.not_eq_true', Bool.not_eq_false'] at g6_1
    first | (simp [g6_1]; done) | (simp [inR, paceF, g6_1] <;> omega)
  · have hf24 := hf7.know 6 (u := .bool false) rfl (congrArg Value.bool g6_1)
    refine seq_one (op_val (v := .pointer (some ⟨b1, 0, none⟩)) hf24 rfl rfl rfl rfl rfl rfl (r_fieldAddr fi_38_0 rfl rfl) fun ac23 hf25 => ?_)
    refine seq_one (op_val (v := .int .i64 q) hf25 rfl rfl rfl rfl rfl rfl (r_load ag_3 rfl (hI3.at 0 rfl) rfl) fun ac24 hf26 => ?_)
    refine seq_one (op_val (v := .bool (decide (q > 1048576))) hf26 rfl rfl rfl rfl rfl rfl (r_gtr rfl rfl) fun ac25 hf27 => ?_)
    refine seq_one (op_val (v := .bool (decide (q > 1048576))) hf27 rfl rfl rfl rfl rfl rfl (r_pickF rfl rfl) fun ac26 hf28 => ?_)
    refine seq_one (op_val (v := .bool (decide (q > 1048576))) hf28 rfl rfl rfl rfl rfl rfl (r_move rfl) fun ac27 hf29 => ?_)
    rcases Bool.eq_false_or_eq_true (decide (q > 1048576) : Bool) with g11_2 | g11_2
    · have hf30 := hf29.know 11 (u := .bool true) rfl (congrArg Value.bool g11_2)
      refine seq_one (op_skip hf30 rfl rfl rfl rfl fun ac28 hf31 => ?_)
      refine seq_one (op_skip hf31 rfl rfl rfl rfl fun ac29 hf32 => ?_)
      refine seq_one (op_skip hf32 rfl rfl rfl rfl fun ac30 hf33 => ?_)
      refine seq_one (op_val (v := .bool true) hf33 rfl rfl rfl rfl rfl rfl (r_pickT rfl rfl) fun ac31 hf34 => ?_)
      refine seq_one (op_val (v := .bool true) hf34 rfl rfl rfl rfl rfl rfl (r_move rfl) fun ac32 hf35 => ?_)
      refine seq_one (op_skip hf35 rfl rfl rfl rfl fun ac33 hf36 => ?_)
      refine seq_one (op_skip hf36 rfl rfl rfl rfl fun ac34 hf37 => ?_)
      refine seq_one (op_skip hf37 rfl rfl rfl rfl fun ac35 hf38 => ?_)
      refine seq_one (op_val (v := .bool true) hf38 rfl rfl rfl rfl rfl rfl (r_pickT rfl rfl) fun ac36 hf39 => ?_)
      refine seq_end ?_
      clear ac3 hf3 ac4 hf4 ac5 hf5 ac6 hf6 hf7 ac7 hf24 ac23 hf25 ac24 hf26 ac25 hf27 ac26 hf28 hf29 ac27 hf30 ac28 hf31 ac29 hf32 ac30 hf33 ac31 hf34 ac32 hf35 ac33 hf36 ac34 hf37 ac35 hf38
      refine then_normal ?_
      refine code_if_true hf39 rfl ?_
      refine code_seq ?_
      refine seq_start (l := [0]) rfl ?_
      refine seq_one (op_val (v := .bool false) hf39 rfl rfl rfl rfl rfl rfl (r_assign rfl) fun ac37 hf40 => ?_)
      refine seq_end ?_
      clear ac36 hf39
      refine then_normal ?_
      refine wp_ret ?_
      refine then_ret ?_
      refine post1 rfl hf40 rfl ⟨?_, hI3.done (fresh_keys (ks := [b1]) rfl (fk_cons hb1 fk_nil))⟩
      try simp only [decide_eq_true_eq, decide_eq_false_iff_not, Bool.not_eq_true', Bool.not_eq_false'] at g6_1
      try simp only [decide_eq_true_eq, decide_eq_false_iff_not, Bool.not_eq_true', Bool.not_eq_false'] at g11_2
      first | (simp [g6_1, g11_2]; done) | (simp [inR, paceF, g6_1, g11_2] <;> omega)
    · have hf41 := hf29.know 11 (u := .bool false) rfl (congrArg Value.bool g11_2)
      refine seq_one (op_val (v := .pointer (some ⟨b1, 1, none⟩)) hf41 rfl rfl rfl rfl rfl rfl (r_fieldAddr fi_38_1 rfl rfl) fun ac38 hf42 => ?_)
      refine seq_one (op_val (v := .int .i64 f) hf42 rfl rfl rfl rfl rfl rfl (r_load ag_3 rfl (hI3.at 0 rfl) rfl) fun ac39 hf43 => ?_)
      refine seq_one (op_val (v := .bool (decide (f < 1))) hf43 rfl rfl rfl rfl rfl rfl (r_lss rfl rfl) fun ac40 hf44 => ?_)
      refine seq_one (op_val (v := .bool (decide (f < 1))) hf44 rfl rfl rfl rfl rfl rfl (r_pickF rfl rfl) fun ac41 hf45 => ?_)
      refine seq_one (op_val (v := .bool (decide (f < 1))) hf45 rfl rfl rfl rfl rfl rfl (r_move rfl) fun ac42 hf46 => ?_)
      rcases Bool.eq_false_or_eq_true (decide (f < 1) : Bool) with g16_3 | g16_3
      · have hf47 := hf46.know 16 (u := .bool true) rfl (congrArg Value.bool g16_3)
        refine seq_one (op_skip hf47 rfl rfl rfl rfl fun ac43 hf48 => ?_)
        refine seq_one (op_skip hf48 rfl rfl rfl rfl fun ac44 hf49 => ?_)
        refine seq_one (op_skip hf49 rfl rfl rfl rfl fun ac45 hf50 => ?_)
        refine seq_one (op_val (v := .bool true) hf50 rfl rfl rfl rfl rfl rfl (r_pickT rfl rfl) fun ac46 hf51 => ?_)
        refine seq_end ?_
        clear ac3 hf3 ac4 hf4 ac5 hf5 ac6 hf6 hf7 ac7 hf24 ac23 hf25 ac24 hf26 ac25 hf27 ac26 hf28 hf29 ac27 hf41 ac38 hf42 ac39 hf43 ac40 hf44 ac41 hf45 hf46 ac42 hf47 ac43 hf48 ac44 hf49 ac45 hf50
        refine then_normal ?_
        refine code_if_true hf51 rfl ?_
        refine code_seq ?_
        refine seq_start (l := [0]) rfl ?_
        refine seq_one (op_val (v := .bool false) hf51 rfl rfl rfl rfl rfl rfl (r_assign rfl) fun ac47 hf52 => ?_)
        refine seq_end ?_
        clear ac46 hf51
        refine then_normal ?_
        refine wp_ret ?_
        refine then_ret ?_
        refine post1 rfl hf52 rfl ⟨?_, hI3.done (fresh_keys (ks := [b1]) rfl (fk_cons hb1 fk_nil))⟩
        try simp only [decide_eq_true_eq, decide_eq_false_iff_not, Bool.not_eq_true', Bool.not_eq_false'] at g6_1
        try simp only [decide_eq_true_eq, decide_eq_false_iff_not, Bool.not_eq_true', Bool.not_eq_false'] at g11_2
        try simp only [decide_eq_true_eq, decide_eq_false_iff_not, Bool.not_eq_true', Bool.not_eq_false'] at g16_3
        first | (simp [g6_1, g11_2, g16_3]; done) | (simp [inR, paceF, g6_1, g11_2, g16_3] <;> omega)
      · have hf53 := hf46.know 16 (u := .bool false) rfl (congrArg Value.bool g16_3)
        refine seq_one (op_val (v := .pointer (some ⟨b1, 1, none⟩)) hf53 rfl rfl rfl rfl rfl rfl (r_fieldAddr fi_38_1 rfl rfl) fun ac48 hf54 => ?_)
        refine seq_one (op_val (v := .int .i64 f) hf54 rfl rfl rfl rfl rfl rfl (r_load ag_3 rfl (hI3.at 0 rfl) rfl) fun ac49 hf55 => ?_)
        refine seq_one (op_val (v := .bool (decide (f > 1048576))) hf55 rfl rfl rfl rfl rfl rfl (r_gtr rfl rfl) fun ac50 hf56 => ?_)
        refine seq_one (op_val (v := .bool (decide (f > 1048576))) hf56 rfl rfl rfl rfl rfl rfl (r_pickF rfl rfl) fun ac51 hf57 => ?_)
        refine seq_end ?_
        clear ac3 hf3 ac4 hf4 ac5 hf5 ac6 hf6 hf7 ac7 hf24 ac23 hf25 ac24 hf26 ac25 hf27 ac26 hf28 hf29 ac27 hf41 ac38 hf42 ac39 hf43 ac40 hf44 ac41 hf45 hf46 ac42 hf53 ac48 hf54 ac49 hf55 ac50 hf56
        refine then_normal ?_
        refine code_if hf57 rfl (fun c20_4 => ?_) (fun c20_4 => ?_)
        · have hf58 := hf57.know 20 (u := .bool true) rfl (congrArg Value.bool c20_4)
          refine code_seq ?_
          refine seq_start (l := [0]) rfl ?_
          refine seq_one (op_val (v := .bool false) hf58 rfl rfl rfl rfl rfl rfl (r_assign rfl) fun ac52 hf59 => ?_)
          refine seq_end ?_
          clear hf57 ac51 hf58
          refine then_normal ?_
          refine wp_ret ?_
          refine then_ret ?_
          refine post1 rfl hf59 rfl ⟨?_, hI3.done (fresh_keys (ks := [b1]) rfl (fk_cons hb1 fk_nil))⟩
          try simp only [decide_eq_true_eq, decide_eq_false_iff_not, Bool.not_eq_true', Bool.not_eq_false'] at g6_1
          try simp only [decide_eq_true_eq, decide_eq_false_iff_not, Bool.not_eq_true', Bool.not_eq_false'] at g11_2
          try simp only [decide_eq_true_eq, decide_eq_false_iff_not, Bool.not_eq_true', Bool.not_eq_false'] at g16_3
          try simp only [decide_eq_true_eq, decide_eq_false_iff_not, Bool.not_eq_true', Bool.not_eq_false'] at c20_4
          first | (simp [g6_1, g11_2, g16_3, c20_4]; done) | (simp [inR, paceF, g6_1, g11_2, g16_3, c20_4] <;> omega)
        · have hf60 := hf57.know 20 (u := .bool false) rfl (congrArg Value.bool c20_4)
          refine wp_skip ?_
          refine then_normal ?_
          refine code_seq ?_
          refine seq_start (l := [0, 1, 2, 3, 4, 5, 6, 7, 8]) rfl ?_
          refine seq_one (op_val (v := .pointer (some ⟨b1, 3, none⟩)) hf60 rfl rfl rfl rfl rfl rfl (r_fieldAddr fi_38_3 rfl rfl) fun ac53 hf61 => ?_)
          refine seq_one (op_val (v := .int .u64 m) hf61 rfl rfl rfl rfl rfl rfl (r_load ag_36 rfl (hI3.at 0 rfl) rfl) fun ac54 hf62 => ?_)
          refine seq_one (op_val (v := .bool (decide (m ≤ 1099511627776))) hf62 rfl rfl rfl rfl rfl rfl (r_leq rfl rfl) fun ac55 hf63 => ?_)
          refine seq_one (op_val (v := .bool (decide (m ≤ 1099511627776))) hf63 rfl rfl rfl rfl rfl rfl (r_move rfl) fun ac56 hf64 => ?_)
          rcases Bool.eq_false_or_eq_true (decide (m ≤ 1099511627776) : Bool) with g24_5 | g24_5
          · have hf65 := hf64.know 24 (u := .bool true) rfl (congrArg Value.bool g24_5)
            refine seq_one (op_val (v := .pointer (some ⟨b1, 4, none⟩)) hf65 rfl rfl rfl rfl rfl rfl (r_fieldAddr fi_38_4 rfl rfl) fun ac57 hf66 => ?_)
            refine seq_one (op_val (v := .int .u64 l) hf66 rfl rfl rfl rfl rfl rfl (r_load ag_36 rfl (hI3.at 0 rfl) rfl) fun ac58 hf67 => ?_)
            refine seq_one (op_val (v := .bool (decide (l ≤ 1099511627776))) hf67 rfl rfl rfl rfl rfl rfl (r_leq rfl rfl) fun ac59 hf68 => ?_)
            refine seq_one (op_val (v := .bool (decide (l ≤ 1099511627776))) hf68 rfl rfl rfl rfl rfl rfl (r_pickT rfl rfl) fun ac60 hf69 => ?_)
            refine seq_one (op_val (v := .bool (decide (l ≤ 1099511627776))) hf69 rfl rfl rfl rfl rfl rfl (r_assign rfl) fun ac61 hf70 => ?_)
            refine seq_end ?_
            clear hf57 ac51 hf60 ac53 hf61 ac54 hf62 ac55 hf63 hf64 ac56 hf65 ac57 hf66 ac58 hf67 ac59 hf68 ac60 hf69
            refine then_normal ?_
            refine wp_ret ?_
            refine post1 rfl hf70 rfl ⟨?_, hI3.done (fresh_keys (ks := [b1]) rfl (fk_cons hb1 fk_nil))⟩
            try simp only [decide_eq_true_eq, decide_eq_false_iff_not, Bool.not_eq_true', Bool.not_eq_false'] at g6_1
            try simp only [decide_eq_true_eq, decide_eq_false_iff_not, Bool.not_eq_true', Bool.not_eq_false'] at g11_2
            try simp only [decide_eq_true_eq, decide_eq_false_iff_not, Bool.not_eq_true', Bool.not_eq_false'] at g16_3
            try simp only [decide_eq_true_eq, decide_eq_false_iff_not, Bool.not_eq_true', Bool.not_eq_false'] at c20_4
            try simp only [decide_eq_true_eq, decide_eq_false_iff_not, Bool.not_eq_true', Bool.not_eq_false'] at g24_5
            first | (simp [g6_1, g11_2, g16_3, c20_4, g24_5]; done) | (simp [inR, paceF, g6_1, g11_2, g16_3, c20_4, g24_5] <;> omega)
          · have hf71 := hf64.know 24 (u := .bool false) rfl (congrArg Value.bool g24_5)
            refine seq_one (op_skip hf71 rfl rfl rfl rfl fun ac62 hf72 => ?_)
            refine seq_one (op_skip hf72 rfl rfl rfl rfl fun ac63 hf73 => ?_)
            refine seq_one (op_skip hf73 rfl rfl rfl rfl fun ac64 hf74 => ?_)
            refine seq_one (op_val (v := .bool false) hf74 rfl rfl rfl rfl rfl rfl (r_pickF rfl rfl) fun ac65 hf75 => ?_)
            refine seq_one (op_val (v := .bool false) hf75 rfl rfl rfl rfl rfl rfl (r_assign rfl) fun ac66 hf76 => ?_)
            refine seq_end ?_
            clear hf57 ac51 hf60 ac53 hf61 ac54 hf62 ac55 hf63 hf64 ac56 hf71 ac62 hf72 ac63 hf73 ac64 hf74 ac65 hf75
            refine then_normal ?_
            refine wp_ret ?_
            refine post1 rfl hf76 rfl ⟨?_, hI3.done (fresh_keys (ks := [b1]) rfl (fk_cons hb1 fk_nil))⟩
            try simp only [decide_eq_true_eq, decide_eq_false_iff_not, Bool.not_eq_true', Bool.not_eq_false'] at g6_1
            try simp only [decide_eq_true_eq, decide_eq_false_iff_not, Bool.not_eq_true', Bool.not_eq_false'] at g11_2
            try simp only [decide_eq_true_eq, decide_eq_false_iff_not, Bool.not_eq_true', Bool.not_eq_false'] at g16_3
            try simp only [decide_eq_true_eq, decide_eq_false_iff_not, Bool.not_eq_true', Bool.not_eq_false'] at c20_4
            try simp only [decide_eq_true_eq, decide_eq_false_iff_not, Bool.not_eq_true', Bool.not_eq_false'] at g24_5
            first | (simp [g6_1, g11_2, g16_3, c20_4, g24_5]; done) | (simp [inR, paceF, g6_1, g11_2, g16_3, c20_4, g24_5] <;> omega)
set_option maxHeartbeats 8000000 in
theorem rule1_walk (x0 x1 x2 x3 x4 x5 x6 x7 x8 x9 x10 x11 x12 x13 x14 x15 x16 x17 x18 x19 x20 x21 x22 x23 x24 x25 x26 x27 x28 x29 x31 x32 x33 x34 x35 x36 : Int) (x30 : Bool) (ink : InK .u8 [x13, x14, x15, x16, x17, x18, x19, x20, x21, x22, x23, x24, x25, x26, x27, x28]) (b : Nat) (w : World) (h0_ : Has [(b, #[.int .i64 x0, .int .i64 x1, .int .i64 x2, .int .i64 x3, .int .i64 x4, .int .i64 x5, .int .i64 x6, .int .u64 x7, .int .u64 x8, .int .u64 x9, .int .i64 x10, .int .i64 x11, .int .i64 x12, .int .u8 x13, .int .u8 x14, .int .u8 x15, .int .u8 x16, .int .u8 x17, .int .u8 x18, .int .u8 x19, .int .u8 x20, .int .u8 x21, .int .u8 x22, .int .u8 x23, .int .u8 x24, .int .u8 x25, .int .u8 x26, .int .u8 x27, .int .u8 x28, .int .u64 x29, .bool x30, .int .u64 x31, .int .i64 x32, .int .u64 x33, .int .i64 x34, .int .i64 x35, .int .i64 x36], 41)] w) : Calls Tryd.prog 48 [.pointer (some ⟨b, 0, none⟩)].toArray w fun e w' => e = .returned (.bool (inR x0 1 65536)) ∧ Inv w [] w' := by
  have hI1 := Inv.startS h0_ (List.pairwise_singleton _ _)
  refine enter (n := 5) Tryd.func48 rfl rfl rfl ?_
  intro ac1 hf1
  refine code_seq ?_
  refine seq_start (l := [0]) rfl ?_
  refine seq_one (op_val (v := .bool false) hf1 rfl rfl rfl rfl rfl rfl (r_assign rfl) fun ac2 hf2 => ?_)
  refine seq_end ?_
  clear ac1 hf1
  refine then_normal ?_
  refine code_seq ?_
  refine seq_start (l := [0, 1, 2, 3]) rfl ?_
  refine seq_one (op_val (v := .pointer (some ⟨b, 0, none⟩)) hf2 rfl rfl rfl rfl rfl rfl (r_fieldAddr fi_41_0 rfl rfl) fun ac3 hf3 => ?_)
  refine seq_one (op_val (v := .int .i64 x0) hf3 rfl rfl rfl rfl rfl rfl (r_load ag_3 rfl (hI1.at 0 rfl) rfl) fun ac4 hf4 => ?_)
  refine seq_one (op_pure hf4 rfl rfl rfl rfl ca_49 (within_pur x0 1 65536) hI1 fun ac5 wd1 hI2 hf5 => ?_)
  refine seq_one (op_val (v := .bool (inR x0 1 65536)) hf5 rfl rfl rfl rfl rfl rfl (r_assign rfl) fun ac6 hf6 => ?_)
  refine seq_end ?_
  clear ac2 hf2 ac3 hf3 ac4 hI1 hf4 ac5 hf5
  refine then_normal ?_
  refine wp_ret ?_
  refine post1 rfl hf6 rfl ⟨?_, (hI2).unread h0_⟩
  first | (simp; done) | (simp [inR, paceF] <;> omega)
set_option maxHeartbeats 8000000 in
theorem rule2_walk (x0 x1 x2 x3 x4 x5 x6 x7 x8 x9 x10 x11 x12 x13 x14 x15 x16 x17 x18 x19 x20 x21 x22 x23 x24 x25 x26 x27 x28 x29 x31 x32 x33 x34 x35 x36 : Int) (x30 : Bool) (ink : InK .u8 [x13, x14, x15, x16, x17, x18, x19, x20, x21, x22, x23, x24, x25, x26, x27, x28]) (b : Nat) (w : World) (h0_ : Has [(b, #[.int .i64 x0, .int .i64 x1, .int .i64 x2, .int .i64 x3, .int .i64 x4, .int .i64 x5, .int .i64 x6, .int .u64 x7, .int .u64 x8, .int .u64 x9, .int .i64 x10, .int .i64 x11, .int .i64 x12, .int .u8 x13, .int .u8 x14, .int .u8 x15, .int .u8 x16, .int .u8 x17, .int .u8 x18, .int .u8 x19, .int .u8 x20, .int .u8 x21, .int .u8 x22, .int .u8 x23, .int .u8 x24, .int .u8 x25, .int .u8 x26, .int .u8 x27, .int .u8 x28, .int .u64 x29, .bool x30, .int .u64 x31, .int .i64 x32, .int .u64 x33, .int .i64 x34, .int .i64 x35, .int .i64 x36], 41)] w) : Calls Tryd.prog 50 [.pointer (some ⟨b, 0, none⟩)].toArray w fun e w' => e = .returned (.bool (inR x1 1 4096)) ∧ Inv w [] w' := by
  have hI1 := Inv.startS h0_ (List.pairwise_singleton _ _)
  refine enter (n := 5) Tryd.func50 rfl rfl rfl ?_
  intro ac1 hf1
  refine code_seq ?_
  refine seq_start (l := [0]) rfl ?_
  refine seq_one (op_val (v := .bool false) hf1 rfl rfl rfl rfl rfl rfl (r_assign rfl) fun ac2 hf2 => ?_)
  refine seq_end ?_
  clear ac1 hf1
  refine then_normal ?_
  refine code_seq ?_
  refine seq_start (l := [0, 1, 2, 3]) rfl ?_
  refine seq_one (op_val (v := .pointer (some ⟨b, 1, none⟩)) hf2 rfl rfl rfl rfl rfl rfl (r_fieldAddr fi_41_1 rfl rfl) fun ac3 hf3 => ?_)
  refine seq_one (op_val (v := .int .i64 x1) hf3 rfl rfl rfl rfl rfl rfl (r_load ag_3 rfl (hI1.at 0 rfl) rfl) fun ac4 hf4 => ?_)
  refine seq_one (op_pure hf4 rfl rfl rfl rfl ca_49 (within_pur x1 1 4096) hI1 fun ac5 wd1 hI2 hf5 => ?_)
  refine seq_one (op_val (v := .bool (inR x1 1 4096)) hf5 rfl rfl rfl rfl rfl rfl (r_assign rfl) fun ac6 hf6 => ?_)
  refine seq_end ?_
  clear ac2 hf2 ac3 hf3 ac4 hI1 hf4 ac5 hf5
  refine then_normal ?_
  refine wp_ret ?_
  refine post1 rfl hf6 rfl ⟨?_, (hI2).unread h0_⟩
  first | (simp; done) | (simp [inR, paceF] <;> omega)
set_option maxHeartbeats 8000000 in
theorem rule3_walk (x0 x1 x2 x3 x4 x5 x6 x7 x8 x9 x10 x11 x12 x13 x14 x15 x16 x17 x18 x19 x20 x21 x22 x23 x24 x25 x26 x27 x28 x29 x31 x32 x33 x34 x35 x36 : Int) (x30 : Bool) (ink : InK .u8 [x13, x14, x15, x16, x17, x18, x19, x20, x21, x22, x23, x24, x25, x26, x27, x28]) (b : Nat) (w : World) (h0_ : Has [(b, #[.int .i64 x0, .int .i64 x1, .int .i64 x2, .int .i64 x3, .int .i64 x4, .int .i64 x5, .int .i64 x6, .int .u64 x7, .int .u64 x8, .int .u64 x9, .int .i64 x10, .int .i64 x11, .int .i64 x12, .int .u8 x13, .int .u8 x14, .int .u8 x15, .int .u8 x16, .int .u8 x17, .int .u8 x18, .int .u8 x19, .int .u8 x20, .int .u8 x21, .int .u8 x22, .int .u8 x23, .int .u8 x24, .int .u8 x25, .int .u8 x26, .int .u8 x27, .int .u8 x28, .int .u64 x29, .bool x30, .int .u64 x31, .int .i64 x32, .int .u64 x33, .int .i64 x34, .int .i64 x35, .int .i64 x36], 41)] w) : Calls Tryd.prog 51 [.pointer (some ⟨b, 0, none⟩)].toArray w fun e w' => e = .returned (.bool (inR x2 0 10)) ∧ Inv w [] w' := by
  have hI1 := Inv.startS h0_ (List.pairwise_singleton _ _)
  refine enter (n := 5) Tryd.func51 rfl rfl rfl ?_
  intro ac1 hf1
  refine code_seq ?_
  refine seq_start (l := [0]) rfl ?_
  refine seq_one (op_val (v := .bool false) hf1 rfl rfl rfl rfl rfl rfl (r_assign rfl) fun ac2 hf2 => ?_)
  refine seq_end ?_
  clear ac1 hf1
  refine then_normal ?_
  refine code_seq ?_
  refine seq_start (l := [0, 1, 2, 3]) rfl ?_
  refine seq_one (op_val (v := .pointer (some ⟨b, 2, none⟩)) hf2 rfl rfl rfl rfl rfl rfl (r_fieldAddr fi_41_2 rfl rfl) fun ac3 hf3 => ?_)
  refine seq_one (op_val (v := .int .i64 x2) hf3 rfl rfl rfl rfl rfl rfl (r_load ag_3 rfl (hI1.at 0 rfl) rfl) fun ac4 hf4 => ?_)
  refine seq_one (op_pure hf4 rfl rfl rfl rfl ca_49 (within_pur x2 0 10) hI1 fun ac5 wd1 hI2 hf5 => ?_)
  refine seq_one (op_val (v := .bool (inR x2 0 10)) hf5 rfl rfl rfl rfl rfl rfl (r_assign rfl) fun ac6 hf6 => ?_)
  refine seq_end ?_
  clear ac2 hf2 ac3 hf3 ac4 hI1 hf4 ac5 hf5
  refine then_normal ?_
  refine wp_ret ?_
  refine post1 rfl hf6 rfl ⟨?_, (hI2).unread h0_⟩
  first | (simp; done) | (simp [inR, paceF] <;> omega)
set_option maxHeartbeats 8000000 in
theorem rule4_walk (x0 x1 x2 x3 x4 x5 x6 x7 x8 x9 x10 x11 x12 x13 x14 x15 x16 x17 x18 x19 x20 x21 x22 x23 x24 x25 x26 x27 x28 x29 x31 x32 x33 x34 x35 x36 : Int) (x30 : Bool) (ink : InK .u8 [x13, x14, x15, x16, x17, x18, x19, x20, x21, x22, x23, x24, x25, x26, x27, x28]) (b : Nat) (w : World) (h0_ : Has [(b, #[.int .i64 x0, .int .i64 x1, .int .i64 x2, .int .i64 x3, .int .i64 x4, .int .i64 x5, .int .i64 x6, .int .u64 x7, .int .u64 x8, .int .u64 x9, .int .i64 x10, .int .i64 x11, .int .i64 x12, .int .u8 x13, .int .u8 x14, .int .u8 x15, .int .u8 x16, .int .u8 x17, .int .u8 x18, .int .u8 x19, .int .u8 x20, .int .u8 x21, .int .u8 x22, .int .u8 x23, .int .u8 x24, .int .u8 x25, .int .u8 x26, .int .u8 x27, .int .u8 x28, .int .u64 x29, .bool x30, .int .u64 x31, .int .i64 x32, .int .u64 x33, .int .i64 x34, .int .i64 x35, .int .i64 x36], 41)] w) : Calls Tryd.prog 52 [.pointer (some ⟨b, 0, none⟩)].toArray w fun e w' => e = .returned (.bool (inR x3 1 x0 && inR x4 1 x0)) ∧ Inv w [] w' := by
  have hI1 := Inv.startS h0_ (List.pairwise_singleton _ _)
  refine enter (n := 14) Tryd.func52 rfl rfl rfl ?_
  intro ac1 hf1
  refine code_seq ?_
  refine seq_start (l := [0]) rfl ?_
  refine seq_one (op_val (v := .bool false) hf1 rfl rfl rfl rfl rfl rfl (r_assign rfl) fun ac2 hf2 => ?_)
  refine seq_end ?_
  clear ac1 hf1
  refine then_normal ?_
  refine code_seq ?_
  refine seq_start (l := [0, 1, 2, 3, 4, 5, 6, 7, 8, 9, 10, 11, 12]) rfl ?_
  refine seq_one (op_val (v := .pointer (some ⟨b, 3, none⟩)) hf2 rfl rfl rfl rfl rfl rfl (r_fieldAddr fi_41_3 rfl rfl) fun ac3 hf3 => ?_)
  refine seq_one (op_val (v := .int .i64 x3) hf3 rfl rfl rfl rfl rfl rfl (r_load ag_3 rfl (hI1.at 0 rfl) rfl) fun ac4 hf4 => ?_)
  refine seq_one (op_val (v := .pointer (some ⟨b, 0, none⟩)) hf4 rfl rfl rfl rfl rfl rfl (r_fieldAddr fi_41_0 rfl rfl) fun ac5 hf5 => ?_)
  refine seq_one (op_val (v := .int .i64 x0) hf5 rfl rfl rfl rfl rfl rfl (r_load ag_3 rfl (hI1.at 0 rfl) rfl) fun ac6 hf6 => ?_)
  refine seq_one (op_pure hf6 rfl rfl rfl rfl ca_49 (within_pur x3 1 x0) hI1 fun ac7 wd1 hI2 hf7 => ?_)
  refine seq_one (op_val (v := .bool (inR x3 1 x0)) hf7 rfl rfl rfl rfl rfl rfl (r_move rfl) fun ac8 hf8 => ?_)
  rcases Bool.eq_false_or_eq_true (inR x3 1 x0 : Bool) with g7_1 | g7_1
  · have hf9 := hf8.know 7 (u := .bool true) rfl (congrArg Value.bool g7_1)
    refine seq_one (op_val (v := .pointer (some ⟨b, 4, none⟩)) hf9 rfl rfl rfl rfl rfl rfl (r_fieldAddr fi_41_4 rfl rfl) fun ac9 hf10 => ?_)
    refine seq_one (op_val (v := .int .i64 x4) hf10 rfl rfl rfl rfl rfl rfl (r_load ag_3 rfl (hI2.at 0 rfl) rfl) fun ac10 hf11 => ?_)
    refine seq_one (op_val (v := .pointer (some ⟨b, 0, none⟩)) hf11 rfl rfl rfl rfl rfl rfl (r_fieldAddr fi_41_0 rfl rfl) fun ac11 hf12 => ?_)
    refine seq_one (op_val (v := .int .i64 x0) hf12 rfl rfl rfl rfl rfl rfl (r_load ag_3 rfl (hI2.at 0 rfl) rfl) fun ac12 hf13 => ?_)
    refine seq_one (op_pure hf13 rfl rfl rfl rfl ca_49 (within_pur x4 1 x0) hI2 fun ac13 wd2 hI3 hf14 => ?_)
    refine seq_one (op_val (v := .bool (inR x4 1 x0)) hf14 rfl rfl rfl rfl rfl rfl (r_pickT rfl rfl) fun ac14 hf15 => ?_)
    refine seq_one (op_val (v := .bool (inR x4 1 x0)) hf15 rfl rfl rfl rfl rfl rfl (r_assign rfl) fun ac15 hf16 => ?_)
    refine seq_end ?_
    clear ac2 hf2 ac3 hf3 ac4 hf4 ac5 hf5 ac6 hI1 hf6 ac7 hf7 hf8 ac8 hf9 ac9 hf10 ac10 hf11 ac11 hf12 ac12 wd1 hI2 hf13 ac13 hf14 ac14 hf15
    refine then_normal ?_
    refine wp_ret ?_
    refine post1 rfl hf16 rfl ⟨?_, (hI3).unread h0_⟩
    try simp only [decide_eq_true_eq, decide_eq_false_iff_not, Bool.not_eq_true', Bool.not_eq_false'] at g7_1
    first | (simp [g7_1]; done) | (simp [inR, paceF, g7_1] <;> omega)
  · have hf17 := hf8.know 7 (u := .bool false) rfl (congrArg Value.bool g7_1)
    refine seq_one (op_skip hf17 rfl rfl rfl rfl fun ac16 hf18 => ?_)
    refine seq_one (op_skip hf18 rfl rfl rfl rfl fun ac17 hf19 => ?_)
    refine seq_one (op_skip hf19 rfl rfl rfl rfl fun ac18 hf20 => ?_)
    refine seq_one (op_skip hf20 rfl rfl rfl rfl fun ac19 hf21 => ?_)
    refine seq_one (op_skip hf21 rfl rfl rfl rfl fun ac20 hf22 => ?_)
    refine seq_one (op_val (v := .bool false) hf22 rfl rfl rfl rfl rfl rfl (r_pickF rfl rfl) fun ac21 hf23 => ?_)
    refine seq_one (op_val (v := .bool false) hf23 rfl rfl rfl rfl rfl rfl (r_assign rfl) fun ac22 hf24 => ?_)
    refine seq_end ?_
    clear ac2 hf2 ac3 hf3 ac4 hf4 ac5 hf5 ac6 hI1 hf6 ac7 hf7 hf8 ac8 hf17 ac16 hf18 ac17 hf19 ac18 hf20 ac19 hf21 ac20 hf22 ac21 hf23
    refine then_normal ?_
    refine wp_ret ?_
    refine post1 rfl hf24 rfl ⟨?_, (hI2).unread h0_⟩
    try simp only [decide_eq_true_eq, decide_eq_false_iff_not, Bool.not_eq_true', Bool.not_eq_false'] at g7_1
    first | (simp [g7_1]; done) | (simp [inR, paceF, g7_1] <;> omega)
set_option maxHeartbeats 8000000 in
theorem rule5_walk (x0 x1 x2 x3 x4 x5 x6 x7 x8 x9 x10 x11 x12 x13 x14 x15 x16 x17 x18 x19 x20 x21 x22 x23 x24 x25 x26 x27 x28 x29 x31 x32 x33 x34 x35 x36 : Int) (x30 : Bool) (ink : InK .u8 [x13, x14, x15, x16, x17, x18, x19, x20, x21, x22, x23, x24, x25, x26, x27, x28]) (b : Nat) (w : World) (h0_ : Has [(b, #[.int .i64 x0, .int .i64 x1, .int .i64 x2, .int .i64 x3, .int .i64 x4, .int .i64 x5, .int .i64 x6, .int .u64 x7, .int .u64 x8, .int .u64 x9, .int .i64 x10, .int .i64 x11, .int .i64 x12, .int .u8 x13, .int .u8 x14, .int .u8 x15, .int .u8 x16, .int .u8 x17, .int .u8 x18, .int .u8 x19, .int .u8 x20, .int .u8 x21, .int .u8 x22, .int .u8 x23, .int .u8 x24, .int .u8 x25, .int .u8 x26, .int .u8 x27, .int .u8 x28, .int .u64 x29, .bool x30, .int .u64 x31, .int .i64 x32, .int .u64 x33, .int .i64 x34, .int .i64 x35, .int .i64 x36], 41)] w) : Calls Tryd.prog 53 [.pointer (some ⟨b, 0, none⟩)].toArray w fun e w' => e = .returned (.bool (paceF x5 x6 x8 x9 && decide (x5 ≥ 64))) ∧ Inv w [] w' := by
  have hI1 := Inv.startS h0_ (List.pairwise_singleton _ _)
  refine enter (n := 11) Tryd.func53 rfl rfl rfl ?_
  intro ac1 hf1
  refine code_seq ?_
  refine seq_start (l := [0]) rfl ?_
  refine seq_one (op_val (v := .bool false) hf1 rfl rfl rfl rfl rfl rfl (r_assign rfl) fun ac2 hf2 => ?_)
  refine seq_end ?_
  clear ac1 hf1
  refine then_normal ?_
  refine code_seq ?_
  refine seq_start (l := [0, 1, 2, 3, 4, 5, 6, 7, 8, 9]) rfl ?_
  refine seq_one (op_val (v := .pointer (some ⟨b, 5, none⟩)) hf2 rfl rfl rfl rfl rfl rfl (r_fieldAddr fi_41_5 rfl rfl) fun ac3 hf3 => ?_)
  refine seq_one (op_val (v := .agg #[.int .i64 x5, .int .i64 x6, .int .u64 x7, .int .u64 x8, .int .u64 x9]) hf3 rfl rfl rfl rfl rfl rfl (r_loadP (sz := 5) ag_38 sz_38 rfl (hI1.at 0 rfl) (leb rfl) (by kernel_rfl)) fun ac4 hf4 => ?_)
  refine seq_one (op_pure hf4 rfl rfl rfl rfl ca_54 (flowR_pur x5 x6 x7 x8 x9) hI1 fun ac5 wd1 hI2 hf5 => ?_)
  refine seq_one (op_val (v := .bool (paceF x5 x6 x8 x9)) hf5 rfl rfl rfl rfl rfl rfl (r_move rfl) fun ac6 hf6 => ?_)
  rcases Bool.eq_false_or_eq_true (paceF x5 x6 x8 x9 : Bool) with g5_1 | g5_1
  · have hf7 := hf6.know 5 (u := .bool true) rfl (congrArg Value.bool g5_1)
    refine seq_one (op_val (v := .pointer (some ⟨b, 5, none⟩)) hf7 rfl rfl rfl rfl rfl rfl (r_fieldAddr fi_41_5 rfl rfl) fun ac7 hf8 => ?_)
    refine seq_one (op_val (v := .pointer (some ⟨b, 5, none⟩)) hf8 rfl rfl rfl rfl rfl rfl (r_fieldAddr fi_38_0 rfl rfl) fun ac8 hf9 => ?_)
    refine seq_one (op_val (v := .int .i64 x5) hf9 rfl rfl rfl rfl rfl rfl (r_load ag_3 rfl (hI2.at 0 rfl) rfl) fun ac9 hf10 => ?_)
    refine seq_one (op_val (v := .bool (decide (x5 ≥ 64))) hf10 rfl rfl rfl rfl rfl rfl (r_geq rfl rfl) fun ac10 hf11 => ?_)
    refine seq_one (op_val (v := .bool (decide (x5 ≥ 64))) hf11 rfl rfl rfl rfl rfl rfl (r_pickT rfl rfl) fun ac11 hf12 => ?_)
    refine seq_one (op_val (v := .bool (decide (x5 ≥ 64))) hf12 rfl rfl rfl rfl rfl rfl (r_assign rfl) fun ac12 hf13 => ?_)
    refine seq_end ?_
    clear ac2 hf2 ac3 hf3 ac4 hI1 hf4 ac5 hf5 hf6 ac6 hf7 ac7 hf8 ac8 hf9 ac9 hf10 ac10 hf11 ac11 hf12
    refine then_normal ?_
    refine wp_ret ?_
    refine post1 rfl hf13 rfl ⟨?_, (hI2).unread h0_⟩
    try simp only [decide_eq_true_eq, decide_eq_false_iff_not, Bool.not_eq_true', Bool.not_eq_false'] at g5_1
    first | (simp [g5_1]; done) | (simp [inR, paceF, g5_1] <;> omega)
  · have hf14 := hf6.know 5 (u := .bool false) rfl (congrArg Value.bool g5_1)
    refine seq_one (op_skip hf14 rfl rfl rfl rfl fun ac13 hf15 => ?_)
    refine seq_one (op_skip hf15 rfl rfl rfl rfl fun ac14 hf16 => ?_)
    refine seq_one (op_skip hf16 rfl rfl rfl rfl fun ac15 hf17 => ?_)
    refine seq_one (op_skip hf17 rfl rfl rfl rfl fun ac16 hf18 => ?_)
    refine seq_one (op_val (v := .bool false) hf18 rfl rfl rfl rfl rfl rfl (r_pickF rfl rfl) fun ac17 hf19 => ?_)
    refine seq_one (op_val (v := .bool false) hf19 rfl rfl rfl rfl rfl rfl (r_assign rfl) fun ac18 hf20 => ?_)
    refine seq_end ?_
    clear ac2 hf2 ac3 hf3 ac4 hI1 hf4 ac5 hf5 hf6 ac6 hf14 ac13 hf15 ac14 hf16 ac15 hf17 ac16 hf18 ac17 hf19
    refine then_normal ?_
    refine wp_ret ?_
    refine post1 rfl hf20 rfl ⟨?_, (hI2).unread h0_⟩
    try simp only [decide_eq_true_eq, decide_eq_false_iff_not, Bool.not_eq_true', Bool.not_eq_false'] at g5_1
    first | (simp [g5_1]; done) | (simp [inR, paceF, g5_1] <;> omega)
set_option maxHeartbeats 8000000 in
theorem rule6_walk (x0 x1 x2 x3 x4 x5 x6 x7 x8 x9 x10 x11 x12 x13 x14 x15 x16 x17 x18 x19 x20 x21 x22 x23 x24 x25 x26 x27 x28 x29 x31 x32 x33 x34 x35 x36 : Int) (x30 : Bool) (ink : InK .u8 [x13, x14, x15, x16, x17, x18, x19, x20, x21, x22, x23, x24, x25, x26, x27, x28]) (b : Nat) (w : World) (h0_ : Has [(b, #[.int .i64 x0, .int .i64 x1, .int .i64 x2, .int .i64 x3, .int .i64 x4, .int .i64 x5, .int .i64 x6, .int .u64 x7, .int .u64 x8, .int .u64 x9, .int .i64 x10, .int .i64 x11, .int .i64 x12, .int .u8 x13, .int .u8 x14, .int .u8 x15, .int .u8 x16, .int .u8 x17, .int .u8 x18, .int .u8 x19, .int .u8 x20, .int .u8 x21, .int .u8 x22, .int .u8 x23, .int .u8 x24, .int .u8 x25, .int .u8 x26, .int .u8 x27, .int .u8 x28, .int .u64 x29, .bool x30, .int .u64 x31, .int .i64 x32, .int .u64 x33, .int .i64 x34, .int .i64 x35, .int .i64 x36], 41)] w) : Calls Tryd.prog 55 [.pointer (some ⟨b, 0, none⟩)].toArray w fun e w' => e = .returned (.bool (inR x10 1024 1048576 && inR x11 1024 1048576 && inR x12 1024 1048576)) ∧ Inv w [] w' := by
  have hI1 := Inv.startS h0_ (List.pairwise_singleton _ _)
  refine enter (n := 13) Tryd.func55 rfl rfl rfl ?_
  intro ac1 hf1
  refine code_seq ?_
  refine seq_start (l := [0]) rfl ?_
  refine seq_one (op_val (v := .bool false) hf1 rfl rfl rfl rfl rfl rfl (r_assign rfl) fun ac2 hf2 => ?_)
  refine seq_end ?_
  clear ac1 hf1
  refine then_normal ?_
  refine code_seq ?_
  refine code_seq ?_
  refine seq_start (l := [0, 1, 2]) rfl ?_
  refine seq_one (op_val (v := .pointer (some ⟨b, 10, none⟩)) hf2 rfl rfl rfl rfl rfl rfl (r_fieldAddr fi_41_6 rfl rfl) fun ac3 hf3 => ?_)
  refine seq_one (op_val (v := .agg #[.int .i64 x10, .int .i64 x11, .int .i64 x12]) hf3 rfl rfl rfl rfl rfl rfl (r_loadP (sz := 3) ag_39 sz_39 rfl (hI1.at 0 rfl) (leb rfl) (by kernel_rfl)) fun ac4 hf4 => ?_)
  refine seq_one (op_val (v := .int .i64 0) hf4 rfl rfl rfl rfl rfl rfl (r_move rfl) fun ac5 hf5 => ?_)
  refine seq_end ?_
  clear ac2 hf2 ac3 hf3 ac4 hf4
  refine then_normal ?_
  refine wp_block ?_
  refine wp_loop_rounds 4 ?_
  refine rounds_go ?_
  refine code_seq ?_
  refine seq_start (l := [0]) rfl ?_
  refine seq_one (op_val (v := .bool true) hf5 rfl rfl rfl rfl rfl rfl (r_lssC rfl rfl (by decide)) fun ac6 hf6 => ?_)
  refine seq_end ?_
  clear ac5 hf5
  refine then_normal ?_
  refine code_seq ?_
  refine code_if_true hf6 rfl ?_
  refine wp_skip ?_
  refine then_normal ?_
  refine code_seq ?_
  refine wp_block ?_
  refine code_seq ?_
  refine seq_start (l := [0, 1]) rfl ?_
  refine seq_one (op_val (v := .int .i64 x10) hf6 rfl rfl rfl rfl rfl rfl (r_index (i := 0) ar_39 ag_3 rfl rfl rfl (by decide) rfl) fun ac7 hf7 => ?_)
  refine seq_one (op_val (v := .int .i64 x10) hf7 rfl rfl rfl rfl rfl rfl (r_assign rfl) fun ac8 hf8 => ?_)
  refine seq_end ?_
  clear ac6 hf6 ac7 hf7
  refine then_normal ?_
  refine code_seq ?_
  refine seq_start (l := [0, 1, 2]) rfl ?_
  refine seq_one (op_val (v := .int .i64 x10) hf8 rfl rfl rfl rfl rfl rfl (r_move rfl) fun ac9 hf9 => ?_)
  refine seq_one (op_pure hf9 rfl rfl rfl rfl ca_49 (within_pur x10 1024 1048576) hI1 fun ac10 wd1 hI2 hf10 => ?_)
  refine seq_one (op_val (v := .bool (!(inR x10 1024 1048576))) hf10 rfl rfl rfl rfl rfl rfl (r_not rfl) fun ac11 hf11 => ?_)
  refine seq_end ?_
  clear ac8 hf8 ac9 hI1 hf9 ac10 hf10
  refine then_normal ?_
  refine code_if hf11 rfl (fun c11_1 => ?_) (fun c11_1 => ?_)
  · have hf12 := hf11.know 11 (u := .bool true) rfl (congrArg Value.bool c11_1)
    refine code_seq ?_
    refine seq_start (l := [0]) rfl ?_
    refine seq_one (op_val (v := .bool false) hf12 rfl rfl rfl rfl rfl rfl (r_assign rfl) fun ac12 hf13 => ?_)
    refine seq_end ?_
    clear hf11 ac11 hf12
    refine then_normal ?_
    refine wp_ret ?_
    refine block_ret ?_
    refine then_ret ?_
    refine then_ret ?_
    refine block_ret ?_
    refine then_ret ?_
    refine post1 rfl hf13 rfl ⟨?_, (hI2).unread h0_⟩
    try simp only [decide_eq_true_eq, decide_eq_false_iff_not, Bool.not_eq_true', Bool.not_eq_false'] at c11_1
    first | (simp [c11_1]; done) | (simp [inR, paceF, c11_1] <;> omega)
  · have hf14 := hf11.know 11 (u := .bool false) rfl (congrArg Value.bool c11_1)
    refine wp_skip ?_
    refine block_normal ?_
    refine then_normal ?_
    refine seq_start (l := [0, 1]) rfl ?_
    refine seq_one (op_val (v := .int .i64 1) hf14 rfl rfl rfl rfl rfl rfl (r_add (c := 1) rfl rfl (by rfl)) fun ac13 hf15 => ?_)
    refine seq_one (op_val (v := .int .i64 1) hf15 rfl rfl rfl rfl rfl rfl (r_move rfl) fun ac14 hf16 => ?_)
    refine seq_end ?_
    clear hf11 ac11 hf14 ac13 hf15
    refine then_normal ?_
    refine rounds_go ?_
    refine code_seq ?_
    refine seq_start (l := [0]) rfl ?_
    refine seq_one (op_val (v := .bool true) hf16 rfl rfl rfl rfl rfl rfl (r_lssC rfl rfl (by decide)) fun ac15 hf17 => ?_)
    refine seq_end ?_
    clear ac14 hf16
    refine then_normal ?_
    refine code_seq ?_
    refine code_if_true hf17 rfl ?_
    refine wp_skip ?_
    refine then_normal ?_
    refine code_seq ?_
    refine wp_block ?_
    refine code_seq ?_
    refine seq_start (l := [0, 1]) rfl ?_
    refine seq_one (op_val (v := .int .i64 x11) hf17 rfl rfl rfl rfl rfl rfl (r_index (i := 1) ar_39 ag_3 rfl rfl rfl (by decide) rfl) fun ac16 hf18 => ?_)
    refine seq_one (op_val (v := .int .i64 x11) hf18 rfl rfl rfl rfl rfl rfl (r_assign rfl) fun ac17 hf19 => ?_)
    refine seq_end ?_
    clear ac15 hf17 ac16 hf18
    refine then_normal ?_
    refine code_seq ?_
    refine seq_start (l := [0, 1, 2]) rfl ?_
    refine seq_one (op_val (v := .int .i64 x11) hf19 rfl rfl rfl rfl rfl rfl (r_move rfl) fun ac18 hf20 => ?_)
    refine seq_one (op_pure hf20 rfl rfl rfl rfl ca_49 (within_pur x11 1024 1048576) hI2 fun ac19 wd2 hI3 hf21 => ?_)
    refine seq_one (op_val (v := .bool (!(inR x11 1024 1048576))) hf21 rfl rfl rfl rfl rfl rfl (r_not rfl) fun ac20 hf22 => ?_)
    refine seq_end ?_
    clear ac17 hf19 ac18 wd1 hI2 hf20 ac19 hf21
    refine then_normal ?_
    refine code_if hf22 rfl (fun c11_2 => ?_) (fun c11_2 => ?_)
    · have hf23 := hf22.know 11 (u := .bool true) rfl (congrArg Value.bool c11_2)
      refine code_seq ?_
      refine seq_start (l := [0]) rfl ?_
      refine seq_one (op_val (v := .bool false) hf23 rfl rfl rfl rfl rfl rfl (r_assign rfl) fun ac21 hf24 => ?_)
      refine seq_end ?_
      clear hf22 ac20 hf23
      refine then_normal ?_
      refine wp_ret ?_
      refine block_ret ?_
      refine then_ret ?_
      refine then_ret ?_
      refine block_ret ?_
      refine then_ret ?_
      refine post1 rfl hf24 rfl ⟨?_, (hI3).unread h0_⟩
      try simp only [decide_eq_true_eq, decide_eq_false_iff_not, Bool.not_eq_true', Bool.not_eq_false'] at c11_1
      try simp only [decide_eq_true_eq, decide_eq_false_iff_not, Bool.not_eq_true', Bool.not_eq_false'] at c11_2
      first | (simp [c11_1, c11_2]; done) | (simp [inR, paceF, c11_1, c11_2] <;> omega)
    · have hf25 := hf22.know 11 (u := .bool false) rfl (congrArg Value.bool c11_2)
      refine wp_skip ?_
      refine block_normal ?_
      refine then_normal ?_
      refine seq_start (l := [0, 1]) rfl ?_
      refine seq_one (op_val (v := .int .i64 2) hf25 rfl rfl rfl rfl rfl rfl (r_add (c := 2) rfl rfl (by rfl)) fun ac22 hf26 => ?_)
      refine seq_one (op_val (v := .int .i64 2) hf26 rfl rfl rfl rfl rfl rfl (r_move rfl) fun ac23 hf27 => ?_)
      refine seq_end ?_
      clear hf22 ac20 hf25 ac22 hf26
      refine then_normal ?_
      refine rounds_go ?_
      refine code_seq ?_
      refine seq_start (l := [0]) rfl ?_
      refine seq_one (op_val (v := .bool true) hf27 rfl rfl rfl rfl rfl rfl (r_lssC rfl rfl (by decide)) fun ac24 hf28 => ?_)
      refine seq_end ?_
      clear ac23 hf27
      refine then_normal ?_
      refine code_seq ?_
      refine code_if_true hf28 rfl ?_
      refine wp_skip ?_
      refine then_normal ?_
      refine code_seq ?_
      refine wp_block ?_
      refine code_seq ?_
      refine seq_start (l := [0, 1]) rfl ?_
      refine seq_one (op_val (v := .int .i64 x12) hf28 rfl rfl rfl rfl rfl rfl (r_index (i := 2) ar_39 ag_3 rfl rfl rfl (by decide) rfl) fun ac25 hf29 => ?_)
      refine seq_one (op_val (v := .int .i64 x12) hf29 rfl rfl rfl rfl rfl rfl (r_assign rfl) fun ac26 hf30 => ?_)
      refine seq_end ?_
      clear ac24 hf28 ac25 hf29
      refine then_normal ?_
      refine code_seq ?_
      refine seq_start (l := [0, 1, 2]) rfl ?_
      refine seq_one (op_val (v := .int .i64 x12) hf30 rfl rfl rfl rfl rfl rfl (r_move rfl) fun ac27 hf31 => ?_)
      refine seq_one (op_pure hf31 rfl rfl rfl rfl ca_49 (within_pur x12 1024 1048576) hI3 fun ac28 wd3 hI4 hf32 => ?_)
      refine seq_one (op_val (v := .bool (!(inR x12 1024 1048576))) hf32 rfl rfl rfl rfl rfl rfl (r_not rfl) fun ac29 hf33 => ?_)
      refine seq_end ?_
      clear ac26 hf30 ac27 wd2 hI3 hf31 ac28 hf32
      refine then_normal ?_
      refine code_if hf33 rfl (fun c11_3 => ?_) (fun c11_3 => ?_)
      · have hf34 := hf33.know 11 (u := .bool true) rfl (congrArg Value.bool c11_3)
        refine code_seq ?_
        refine seq_start (l := [0]) rfl ?_
        refine seq_one (op_val (v := .bool false) hf34 rfl rfl rfl rfl rfl rfl (r_assign rfl) fun ac30 hf35 => ?_)
        refine seq_end ?_
        clear hf33 ac29 hf34
        refine then_normal ?_
        refine wp_ret ?_
        refine block_ret ?_
        refine then_ret ?_
        refine then_ret ?_
        refine block_ret ?_
        refine then_ret ?_
        refine post1 rfl hf35 rfl ⟨?_, (hI4).unread h0_⟩
        try simp only [decide_eq_true_eq, decide_eq_false_iff_not, Bool.not_eq_true', Bool.not_eq_false'] at c11_1
        try simp only [decide_eq_true_eq, decide_eq_false_iff_not, Bool.not_eq_true', Bool.not_eq_false'] at c11_2
        try simp only [decide_eq_true_eq, decide_eq_false_iff_not, Bool.not_eq_true', Bool.not_eq_false'] at c11_3
        first | (simp [c11_1, c11_2, c11_3]; done) | (simp [inR, paceF, c11_1, c11_2, c11_3] <;> omega)
      · have hf36 := hf33.know 11 (u := .bool false) rfl (congrArg Value.bool c11_3)
        refine wp_skip ?_
        refine block_normal ?_
        refine then_normal ?_
        refine seq_start (l := [0, 1]) rfl ?_
        refine seq_one (op_val (v := .int .i64 3) hf36 rfl rfl rfl rfl rfl rfl (r_add (c := 3) rfl rfl (by rfl)) fun ac31 hf37 => ?_)
        refine seq_one (op_val (v := .int .i64 3) hf37 rfl rfl rfl rfl rfl rfl (r_move rfl) fun ac32 hf38 => ?_)
        refine seq_end ?_
        clear hf33 ac29 hf36 ac31 hf37
        refine then_normal ?_
        refine rounds_go ?_
        refine code_seq ?_
        refine seq_start (l := [0]) rfl ?_
        refine seq_one (op_val (v := .bool false) hf38 rfl rfl rfl rfl rfl rfl (r_lssC rfl rfl (by decide)) fun ac33 hf39 => ?_)
        refine seq_end ?_
        clear ac32 hf38
        refine then_normal ?_
        refine code_seq ?_
        refine code_if_false hf39 rfl ?_
        refine wp_exit ?_
        refine then_exit ?_
        refine then_exit ?_
        refine block_here ?_
        refine then_normal ?_
        refine code_seq ?_
        refine seq_start (l := [0]) rfl ?_
        refine seq_one (op_val (v := .bool true) hf39 rfl rfl rfl rfl rfl rfl (r_assign rfl) fun ac34 hf40 => ?_)
        refine seq_end ?_
        clear ac33 hf39
        refine then_normal ?_
        refine wp_ret ?_
        refine post1 rfl hf40 rfl ⟨?_, (hI4).unread h0_⟩
        try simp only [decide_eq_true_eq, decide_eq_false_iff_not, Bool.not_eq_true', Bool.not_eq_false'] at c11_1
        try simp only [decide_eq_true_eq, decide_eq_false_iff_not, Bool.not_eq_true', Bool.not_eq_false'] at c11_2
        try simp only [decide_eq_true_eq, decide_eq_false_iff_not, Bool.not_eq_true', Bool.not_eq_false'] at c11_3
        first | (simp [c11_1, c11_2, c11_3]; done) | (simp [inR, paceF, c11_1, c11_2, c11_3] <;> omega)
set_option maxHeartbeats 8000000 in
theorem rule7_walk (x0 x1 x2 x3 x4 x5 x6 x7 x8 x9 x10 x11 x12 x13 x14 x15 x16 x17 x18 x19 x20 x21 x22 x23 x24 x25 x26 x27 x28 x29 x31 x32 x33 x34 x35 x36 : Int) (x30 : Bool) (ink : InK .u8 [x13, x14, x15, x16, x17, x18, x19, x20, x21, x22, x23, x24, x25, x26, x27, x28]) (b : Nat) (w : World) (h0_ : Has [(b, #[.int .i64 x0, .int .i64 x1, .int .i64 x2, .int .i64 x3, .int .i64 x4, .int .i64 x5, .int .i64 x6, .int .u64 x7, .int .u64 x8, .int .u64 x9, .int .i64 x10, .int .i64 x11, .int .i64 x12, .int .u8 x13, .int .u8 x14, .int .u8 x15, .int .u8 x16, .int .u8 x17, .int .u8 x18, .int .u8 x19, .int .u8 x20, .int .u8 x21, .int .u8 x22, .int .u8 x23, .int .u8 x24, .int .u8 x25, .int .u8 x26, .int .u8 x27, .int .u8 x28, .int .u64 x29, .bool x30, .int .u64 x31, .int .i64 x32, .int .u64 x33, .int .i64 x34, .int .i64 x35, .int .i64 x36], 41)] w) : Calls Tryd.prog 56 [.pointer (some ⟨b, 0, none⟩)].toArray w fun e w' => e = .returned (.bool (rightF [x13, x14, x15, x16, x17, x18, x19, x20, x21, x22, x23, x24, x25, x26, x27, x28])) ∧ Inv w [] w' := by
  have hI1 := Inv.startS h0_ (List.pairwise_singleton _ _)
  refine enter (n := 5) Tryd.func56 rfl rfl rfl ?_
  intro ac1 hf1
  refine code_seq ?_
  refine seq_start (l := [0]) rfl ?_
  refine seq_one (op_val (v := .bool false) hf1 rfl rfl rfl rfl rfl rfl (r_assign rfl) fun ac2 hf2 => ?_)
  refine seq_end ?_
  clear ac1 hf1
  refine then_normal ?_
  refine code_seq ?_
  refine seq_start (l := [0, 1, 2, 3]) rfl ?_
  refine seq_one (op_val (v := .pointer (some ⟨b, 13, none⟩)) hf2 rfl rfl rfl rfl rfl rfl (r_fieldAddr fi_41_7 rfl rfl) fun ac3 hf3 => ?_)
  refine seq_one (op_val (v := .agg #[.int .u8 x13, .int .u8 x14, .int .u8 x15, .int .u8 x16, .int .u8 x17, .int .u8 x18, .int .u8 x19, .int .u8 x20, .int .u8 x21, .int .u8 x22, .int .u8 x23, .int .u8 x24, .int .u8 x25, .int .u8 x26, .int .u8 x27, .int .u8 x28]) hf3 rfl rfl rfl rfl rfl rfl (r_loadP (sz := 16) ag_22 sz_22 rfl (hI1.at 0 rfl) (leb rfl) (by kernel_rfl)) fun ac4 hf4 => ?_)
  refine seq_one (op_pure hf4 rfl rfl rfl rfl ca_14 (right_pur [x13, x14, x15, x16, x17, x18, x19, x20, x21, x22, x23, x24, x25, x26, x27, x28] rfl ink) hI1 fun ac5 wd1 hI2 hf5 => ?_)
  refine seq_one (op_val (v := .bool (rightF [x13, x14, x15, x16, x17, x18, x19, x20, x21, x22, x23, x24, x25, x26, x27, x28])) hf5 rfl rfl rfl rfl rfl rfl (r_assign rfl) fun ac6 hf6 => ?_)
  refine seq_end ?_
  clear ac2 hf2 ac3 hf3 ac4 hI1 hf4 ac5 hf5
  refine then_normal ?_
  refine wp_ret ?_
  refine post1 rfl hf6 rfl ⟨?_, (hI2).unread h0_⟩
  rfl
set_option maxHeartbeats 8000000 in
theorem rule8_walk (x0 x1 x2 x3 x4 x5 x6 x7 x8 x9 x10 x11 x12 x13 x14 x15 x16 x17 x18 x19 x20 x21 x22 x23 x24 x25 x26 x27 x28 x29 x31 x32 x33 x34 x35 x36 : Int) (x30 : Bool) (ink : InK .u8 [x13, x14, x15, x16, x17, x18, x19, x20, x21, x22, x23, x24, x25, x26, x27, x28]) (b : Nat) (w : World) (h0_ : Has [(b, #[.int .i64 x0, .int .i64 x1, .int .i64 x2, .int .i64 x3, .int .i64 x4, .int .i64 x5, .int .i64 x6, .int .u64 x7, .int .u64 x8, .int .u64 x9, .int .i64 x10, .int .i64 x11, .int .i64 x12, .int .u8 x13, .int .u8 x14, .int .u8 x15, .int .u8 x16, .int .u8 x17, .int .u8 x18, .int .u8 x19, .int .u8 x20, .int .u8 x21, .int .u8 x22, .int .u8 x23, .int .u8 x24, .int .u8 x25, .int .u8 x26, .int .u8 x27, .int .u8 x28, .int .u64 x29, .bool x30, .int .u64 x31, .int .i64 x32, .int .u64 x33, .int .i64 x34, .int .i64 x35, .int .i64 x36], 41)] w) : Calls Tryd.prog 57 [.pointer (some ⟨b, 0, none⟩)].toArray w fun e w' => e = .returned (.bool (decide (x29 ≤ 1125899906842624))) ∧ Inv w [] w' := by
  have hI1 := Inv.startS h0_ (List.pairwise_singleton _ _)
  refine enter (n := 5) Tryd.func57 rfl rfl rfl ?_
  intro ac1 hf1
  refine code_seq ?_
  refine seq_start (l := [0]) rfl ?_
  refine seq_one (op_val (v := .bool false) hf1 rfl rfl rfl rfl rfl rfl (r_assign rfl) fun ac2 hf2 => ?_)
  refine seq_end ?_
  clear ac1 hf1
  refine then_normal ?_
  refine code_seq ?_
  refine seq_start (l := [0, 1, 2, 3]) rfl ?_
  refine seq_one (op_val (v := .pointer (some ⟨b, 29, none⟩)) hf2 rfl rfl rfl rfl rfl rfl (r_fieldAddr fi_41_8 rfl rfl) fun ac3 hf3 => ?_)
  refine seq_one (op_val (v := .int .u64 x29) hf3 rfl rfl rfl rfl rfl rfl (r_load ag_36 rfl (hI1.at 0 rfl) rfl) fun ac4 hf4 => ?_)
  refine seq_one (op_val (v := .bool (decide (x29 ≤ 1125899906842624))) hf4 rfl rfl rfl rfl rfl rfl (r_leq rfl rfl) fun ac5 hf5 => ?_)
  refine seq_one (op_val (v := .bool (decide (x29 ≤ 1125899906842624))) hf5 rfl rfl rfl rfl rfl rfl (r_assign rfl) fun ac6 hf6 => ?_)
  refine seq_end ?_
  clear ac2 hf2 ac3 hf3 ac4 hf4 ac5 hf5
  refine then_normal ?_
  refine wp_ret ?_
  refine post1 rfl hf6 rfl ⟨?_, (hI1).unread h0_⟩
  first | (simp; done) | (simp [inR, paceF] <;> omega)
set_option maxHeartbeats 8000000 in
theorem rule9_walk (x0 x1 x2 x3 x4 x5 x6 x7 x8 x9 x10 x11 x12 x13 x14 x15 x16 x17 x18 x19 x20 x21 x22 x23 x24 x25 x26 x27 x28 x29 x31 x32 x33 x34 x35 x36 : Int) (x30 : Bool) (ink : InK .u8 [x13, x14, x15, x16, x17, x18, x19, x20, x21, x22, x23, x24, x25, x26, x27, x28]) (b : Nat) (w : World) (h0_ : Has [(b, #[.int .i64 x0, .int .i64 x1, .int .i64 x2, .int .i64 x3, .int .i64 x4, .int .i64 x5, .int .i64 x6, .int .u64 x7, .int .u64 x8, .int .u64 x9, .int .i64 x10, .int .i64 x11, .int .i64 x12, .int .u8 x13, .int .u8 x14, .int .u8 x15, .int .u8 x16, .int .u8 x17, .int .u8 x18, .int .u8 x19, .int .u8 x20, .int .u8 x21, .int .u8 x22, .int .u8 x23, .int .u8 x24, .int .u8 x25, .int .u8 x26, .int .u8 x27, .int .u8 x28, .int .u64 x29, .bool x30, .int .u64 x31, .int .i64 x32, .int .u64 x33, .int .i64 x34, .int .i64 x35, .int .i64 x36], 41)] w) : Calls Tryd.prog 58 [.pointer (some ⟨b, 0, none⟩)].toArray w fun e w' => e = .returned (.bool (inR x32 2 4096 && decide (x33 ≥ 1) && decide (x33 ≤ 1099511627776))) ∧ Inv w [] w' := by
  have hI1 := Inv.startS h0_ (List.pairwise_singleton _ _)
  refine enter (n := 15) Tryd.func58 rfl rfl rfl ?_
  intro ac1 hf1
  refine code_seq ?_
  refine seq_start (l := [0]) rfl ?_
  refine seq_one (op_val (v := .bool false) hf1 rfl rfl rfl rfl rfl rfl (r_assign rfl) fun ac2 hf2 => ?_)
  refine seq_end ?_
  clear ac1 hf1
  refine then_normal ?_
  refine code_seq ?_
  refine seq_start (l := [0, 1, 2, 3, 4, 5, 6, 7, 8, 9, 10, 11, 12, 13]) rfl ?_
  refine seq_one (op_val (v := .pointer (some ⟨b, 32, none⟩)) hf2 rfl rfl rfl rfl rfl rfl (r_fieldAddr fi_41_11 rfl rfl) fun ac3 hf3 => ?_)
  refine seq_one (op_val (v := .int .i64 x32) hf3 rfl rfl rfl rfl rfl rfl (r_load ag_3 rfl (hI1.at 0 rfl) rfl) fun ac4 hf4 => ?_)
  refine seq_one (op_pure hf4 rfl rfl rfl rfl ca_49 (within_pur x32 2 4096) hI1 fun ac5 wd1 hI2 hf5 => ?_)
  refine seq_one (op_val (v := .bool (inR x32 2 4096)) hf5 rfl rfl rfl rfl rfl rfl (r_move rfl) fun ac6 hf6 => ?_)
  rcases Bool.eq_false_or_eq_true (inR x32 2 4096 : Bool) with g5_1 | g5_1
  · have hf7 := hf6.know 5 (u := .bool true) rfl (congrArg Value.bool g5_1)
    refine seq_one (op_val (v := .pointer (some ⟨b, 33, none⟩)) hf7 rfl rfl rfl rfl rfl rfl (r_fieldAddr fi_41_12 rfl rfl) fun ac7 hf8 => ?_)
    refine seq_one (op_val (v := .int .u64 x33) hf8 rfl rfl rfl rfl rfl rfl (r_load ag_36 rfl (hI2.at 0 rfl) rfl) fun ac8 hf9 => ?_)
    refine seq_one (op_val (v := .bool (decide (x33 ≥ 1))) hf9 rfl rfl rfl rfl rfl rfl (r_geq rfl rfl) fun ac9 hf10 => ?_)
    refine seq_one (op_val (v := .bool (decide (x33 ≥ 1))) hf10 rfl rfl rfl rfl rfl rfl (r_pickT rfl rfl) fun ac10 hf11 => ?_)
    refine seq_one (op_val (v := .bool (decide (x33 ≥ 1))) hf11 rfl rfl rfl rfl rfl rfl (r_move rfl) fun ac11 hf12 => ?_)
    rcases Bool.eq_false_or_eq_true (decide (x33 ≥ 1) : Bool) with g10_2 | g10_2
    · have hf13 := hf12.know 10 (u := .bool true) rfl (congrArg Value.bool g10_2)
      refine seq_one (op_val (v := .pointer (some ⟨b, 33, none⟩)) hf13 rfl rfl rfl rfl rfl rfl (r_fieldAddr fi_41_12 rfl rfl) fun ac12 hf14 => ?_)
      refine seq_one (op_val (v := .int .u64 x33) hf14 rfl rfl rfl rfl rfl rfl (r_load ag_36 rfl (hI2.at 0 rfl) rfl) fun ac13 hf15 => ?_)
      refine seq_one (op_val (v := .bool (decide (x33 ≤ 1099511627776))) hf15 rfl rfl rfl rfl rfl rfl (r_leq rfl rfl) fun ac14 hf16 => ?_)
      refine seq_one (op_val (v := .bool (decide (x33 ≤ 1099511627776))) hf16 rfl rfl rfl rfl rfl rfl (r_pickT rfl rfl) fun ac15 hf17 => ?_)
      refine seq_one (op_val (v := .bool (decide (x33 ≤ 1099511627776))) hf17 rfl rfl rfl rfl rfl rfl (r_assign rfl) fun ac16 hf18 => ?_)
      refine seq_end ?_
      clear ac2 hf2 ac3 hf3 ac4 hI1 hf4 ac5 hf5 hf6 ac6 hf7 ac7 hf8 ac8 hf9 ac9 hf10 ac10 hf11 hf12 ac11 hf13 ac12 hf14 ac13 hf15 ac14 hf16 ac15 hf17
      refine then_normal ?_
      refine wp_ret ?_
      refine post1 rfl hf18 rfl ⟨?_, (hI2).unread h0_⟩
      try simp only [decide_eq_true_eq, decide_eq_false_iff_not, Bool.not_eq_true', Bool.not_eq_false'] at g5_1
      try simp only [decide_eq_true_eq, decide_eq_false_iff_not, Bool.not_eq_true', Bool.not_eq_false'] at g10_2
      first | (simp [g5_1, g10_2]; done) | (simp [inR, paceF, g5_1, g10_2] <;> omega)
    · have hf19 := hf12.know 10 (u := .bool false) rfl (congrArg Value.bool g10_2)
      refine seq_one (op_skip hf19 rfl rfl rfl rfl fun ac17 hf20 => ?_)
      refine seq_one (op_skip hf20 rfl rfl rfl rfl fun ac18 hf21 => ?_)
      refine seq_one (op_skip hf21 rfl rfl rfl rfl fun ac19 hf22 => ?_)
      refine seq_one (op_val (v := .bool false) hf22 rfl rfl rfl rfl rfl rfl (r_pickF rfl rfl) fun ac20 hf23 => ?_)
      refine seq_one (op_val (v := .bool false) hf23 rfl rfl rfl rfl rfl rfl (r_assign rfl) fun ac21 hf24 => ?_)
      refine seq_end ?_
      clear ac2 hf2 ac3 hf3 ac4 hI1 hf4 ac5 hf5 hf6 ac6 hf7 ac7 hf8 ac8 hf9 ac9 hf10 ac10 hf11 hf12 ac11 hf19 ac17 hf20 ac18 hf21 ac19 hf22 ac20 hf23
      refine then_normal ?_
      refine wp_ret ?_
      refine post1 rfl hf24 rfl ⟨?_, (hI2).unread h0_⟩
      try simp only [decide_eq_true_eq, decide_eq_false_iff_not, Bool.not_eq_true', Bool.not_eq_false'] at g5_1
      try simp only [decide_eq_true_eq, decide_eq_false_iff_not, Bool.not_eq_true', Bool.not_eq_false'] at g10_2
      first | (simp [g5_1, g10_2]; done) | (simp [inR, paceF, g5_1, g10_2] <;> omega)
  · have hf25 := hf6.know 5 (u := .bool false) rfl (congrArg Value.bool g5_1)
    refine seq_one (op_skip hf25 rfl rfl rfl rfl fun ac22 hf26 => ?_)
    refine seq_one (op_skip hf26 rfl rfl rfl rfl fun ac23 hf27 => ?_)
    refine seq_one (op_skip hf27 rfl rfl rfl rfl fun ac24 hf28 => ?_)
    refine seq_one (op_val (v := .bool false) hf28 rfl rfl rfl rfl rfl rfl (r_pickF rfl rfl) fun ac25 hf29 => ?_)
    refine seq_one (op_val (v := .bool false) hf29 rfl rfl rfl rfl rfl rfl (r_move rfl) fun ac26 hf30 => ?_)
    refine seq_one (op_skip hf30 rfl rfl rfl rfl fun ac27 hf31 => ?_)
    refine seq_one (op_skip hf31 rfl rfl rfl rfl fun ac28 hf32 => ?_)
    refine seq_one (op_skip hf32 rfl rfl rfl rfl fun ac29 hf33 => ?_)
    refine seq_one (op_val (v := .bool false) hf33 rfl rfl rfl rfl rfl rfl (r_pickF rfl rfl) fun ac30 hf34 => ?_)
    refine seq_one (op_val (v := .bool false) hf34 rfl rfl rfl rfl rfl rfl (r_assign rfl) fun ac31 hf35 => ?_)
    refine seq_end ?_
    clear ac2 hf2 ac3 hf3 ac4 hI1 hf4 ac5 hf5 hf6 ac6 hf25 ac22 hf26 ac23 hf27 ac24 hf28 ac25 hf29 ac26 hf30 ac27 hf31 ac28 hf32 ac29 hf33 ac30 hf34
    refine then_normal ?_
    refine wp_ret ?_
    refine post1 rfl hf35 rfl ⟨?_, (hI2).unread h0_⟩
    try simp only [decide_eq_true_eq, decide_eq_false_iff_not, Bool.not_eq_true', Bool.not_eq_false'] at g5_1
    first | (simp [g5_1]; done) | (simp [inR, paceF, g5_1] <;> omega)
set_option maxHeartbeats 8000000 in
theorem rule10_walk (x0 x1 x2 x3 x4 x5 x6 x7 x8 x9 x10 x11 x12 x13 x14 x15 x16 x17 x18 x19 x20 x21 x22 x23 x24 x25 x26 x27 x28 x29 x31 x32 x33 x34 x35 x36 : Int) (x30 : Bool) (ink : InK .u8 [x13, x14, x15, x16, x17, x18, x19, x20, x21, x22, x23, x24, x25, x26, x27, x28]) (b : Nat) (w : World) (h0_ : Has [(b, #[.int .i64 x0, .int .i64 x1, .int .i64 x2, .int .i64 x3, .int .i64 x4, .int .i64 x5, .int .i64 x6, .int .u64 x7, .int .u64 x8, .int .u64 x9, .int .i64 x10, .int .i64 x11, .int .i64 x12, .int .u8 x13, .int .u8 x14, .int .u8 x15, .int .u8 x16, .int .u8 x17, .int .u8 x18, .int .u8 x19, .int .u8 x20, .int .u8 x21, .int .u8 x22, .int .u8 x23, .int .u8 x24, .int .u8 x25, .int .u8 x26, .int .u8 x27, .int .u8 x28, .int .u64 x29, .bool x30, .int .u64 x31, .int .i64 x32, .int .u64 x33, .int .i64 x34, .int .i64 x35, .int .i64 x36], 41)] w) : Calls Tryd.prog 59 [.pointer (some ⟨b, 0, none⟩)].toArray w fun e w' => e = .returned (.bool (inR x34 1 4096)) ∧ Inv w [] w' := by
  have hI1 := Inv.startS h0_ (List.pairwise_singleton _ _)
  refine enter (n := 5) Tryd.func59 rfl rfl rfl ?_
  intro ac1 hf1
  refine code_seq ?_
  refine seq_start (l := [0]) rfl ?_
  refine seq_one (op_val (v := .bool false) hf1 rfl rfl rfl rfl rfl rfl (r_assign rfl) fun ac2 hf2 => ?_)
  refine seq_end ?_
  clear ac1 hf1
  refine then_normal ?_
  refine code_seq ?_
  refine seq_start (l := [0, 1, 2, 3]) rfl ?_
  refine seq_one (op_val (v := .pointer (some ⟨b, 34, none⟩)) hf2 rfl rfl rfl rfl rfl rfl (r_fieldAddr fi_41_13 rfl rfl) fun ac3 hf3 => ?_)
  refine seq_one (op_val (v := .int .i64 x34) hf3 rfl rfl rfl rfl rfl rfl (r_load ag_3 rfl (hI1.at 0 rfl) rfl) fun ac4 hf4 => ?_)
  refine seq_one (op_pure hf4 rfl rfl rfl rfl ca_49 (within_pur x34 1 4096) hI1 fun ac5 wd1 hI2 hf5 => ?_)
  refine seq_one (op_val (v := .bool (inR x34 1 4096)) hf5 rfl rfl rfl rfl rfl rfl (r_assign rfl) fun ac6 hf6 => ?_)
  refine seq_end ?_
  clear ac2 hf2 ac3 hf3 ac4 hI1 hf4 ac5 hf5
  refine then_normal ?_
  refine wp_ret ?_
  refine post1 rfl hf6 rfl ⟨?_, (hI2).unread h0_⟩
  first | (simp; done) | (simp [inR, paceF] <;> omega)
set_option maxHeartbeats 8000000 in
theorem rule11_walk (x0 x1 x2 x3 x4 x5 x6 x7 x8 x9 x10 x11 x12 x13 x14 x15 x16 x17 x18 x19 x20 x21 x22 x23 x24 x25 x26 x27 x28 x29 x31 x32 x33 x34 x35 x36 : Int) (x30 : Bool) (ink : InK .u8 [x13, x14, x15, x16, x17, x18, x19, x20, x21, x22, x23, x24, x25, x26, x27, x28]) (b : Nat) (w : World) (h0_ : Has [(b, #[.int .i64 x0, .int .i64 x1, .int .i64 x2, .int .i64 x3, .int .i64 x4, .int .i64 x5, .int .i64 x6, .int .u64 x7, .int .u64 x8, .int .u64 x9, .int .i64 x10, .int .i64 x11, .int .i64 x12, .int .u8 x13, .int .u8 x14, .int .u8 x15, .int .u8 x16, .int .u8 x17, .int .u8 x18, .int .u8 x19, .int .u8 x20, .int .u8 x21, .int .u8 x22, .int .u8 x23, .int .u8 x24, .int .u8 x25, .int .u8 x26, .int .u8 x27, .int .u8 x28, .int .u64 x29, .bool x30, .int .u64 x31, .int .i64 x32, .int .u64 x33, .int .i64 x34, .int .i64 x35, .int .i64 x36], 41)] w) : Calls Tryd.prog 60 [.pointer (some ⟨b, 0, none⟩)].toArray w fun e w' => e = .returned (.bool (inR x35 64 65536 && inR x36 1 64)) ∧ Inv w [] w' := by
  have hI1 := Inv.startS h0_ (List.pairwise_singleton _ _)
  refine enter (n := 10) Tryd.func60 rfl rfl rfl ?_
  intro ac1 hf1
  refine code_seq ?_
  refine seq_start (l := [0]) rfl ?_
  refine seq_one (op_val (v := .bool false) hf1 rfl rfl rfl rfl rfl rfl (r_assign rfl) fun ac2 hf2 => ?_)
  refine seq_end ?_
  clear ac1 hf1
  refine then_normal ?_
  refine code_seq ?_
  refine seq_start (l := [0, 1, 2, 3, 4, 5, 6, 7, 8]) rfl ?_
  refine seq_one (op_val (v := .pointer (some ⟨b, 35, none⟩)) hf2 rfl rfl rfl rfl rfl rfl (r_fieldAddr fi_41_14 rfl rfl) fun ac3 hf3 => ?_)
  refine seq_one (op_val (v := .int .i64 x35) hf3 rfl rfl rfl rfl rfl rfl (r_load ag_3 rfl (hI1.at 0 rfl) rfl) fun ac4 hf4 => ?_)
  refine seq_one (op_pure hf4 rfl rfl rfl rfl ca_49 (within_pur x35 64 65536) hI1 fun ac5 wd1 hI2 hf5 => ?_)
  refine seq_one (op_val (v := .bool (inR x35 64 65536)) hf5 rfl rfl rfl rfl rfl rfl (r_move rfl) fun ac6 hf6 => ?_)
  rcases Bool.eq_false_or_eq_true (inR x35 64 65536 : Bool) with g5_1 | g5_1
  · have hf7 := hf6.know 5 (u := .bool true) rfl (congrArg Value.bool g5_1)
    refine seq_one (op_val (v := .pointer (some ⟨b, 36, none⟩)) hf7 rfl rfl rfl rfl rfl rfl (r_fieldAddr fi_41_15 rfl rfl) fun ac7 hf8 => ?_)
    refine seq_one (op_val (v := .int .i64 x36) hf8 rfl rfl rfl rfl rfl rfl (r_load ag_3 rfl (hI2.at 0 rfl) rfl) fun ac8 hf9 => ?_)
    refine seq_one (op_pure hf9 rfl rfl rfl rfl ca_49 (within_pur x36 1 64) hI2 fun ac9 wd2 hI3 hf10 => ?_)
    refine seq_one (op_val (v := .bool (inR x36 1 64)) hf10 rfl rfl rfl rfl rfl rfl (r_pickT rfl rfl) fun ac10 hf11 => ?_)
    refine seq_one (op_val (v := .bool (inR x36 1 64)) hf11 rfl rfl rfl rfl rfl rfl (r_assign rfl) fun ac11 hf12 => ?_)
    refine seq_end ?_
    clear ac2 hf2 ac3 hf3 ac4 hI1 hf4 ac5 hf5 hf6 ac6 hf7 ac7 hf8 ac8 wd1 hI2 hf9 ac9 hf10 ac10 hf11
    refine then_normal ?_
    refine wp_ret ?_
    refine post1 rfl hf12 rfl ⟨?_, (hI3).unread h0_⟩
    try simp only [decide_eq_true_eq, decide_eq_false_iff_not, Bool.not_eq_true', Bool.not_eq_false'] at g5_1
    first | (simp [g5_1]; done) | (simp [inR, paceF, g5_1] <;> omega)
  · have hf13 := hf6.know 5 (u := .bool false) rfl (congrArg Value.bool g5_1)
    refine seq_one (op_skip hf13 rfl rfl rfl rfl fun ac12 hf14 => ?_)
    refine seq_one (op_skip hf14 rfl rfl rfl rfl fun ac13 hf15 => ?_)
    refine seq_one (op_skip hf15 rfl rfl rfl rfl fun ac14 hf16 => ?_)
    refine seq_one (op_val (v := .bool false) hf16 rfl rfl rfl rfl rfl rfl (r_pickF rfl rfl) fun ac15 hf17 => ?_)
    refine seq_one (op_val (v := .bool false) hf17 rfl rfl rfl rfl rfl rfl (r_assign rfl) fun ac16 hf18 => ?_)
    refine seq_end ?_
    clear ac2 hf2 ac3 hf3 ac4 hI1 hf4 ac5 hf5 hf6 ac6 hf13 ac12 hf14 ac13 hf15 ac14 hf16 ac15 hf17
    refine then_normal ?_
    refine wp_ret ?_
    refine post1 rfl hf18 rfl ⟨?_, (hI2).unread h0_⟩
    try simp only [decide_eq_true_eq, decide_eq_false_iff_not, Bool.not_eq_true', Bool.not_eq_false'] at g5_1
    first | (simp [g5_1]; done) | (simp [inR, paceF, g5_1] <;> omega)
set_option maxHeartbeats 8000000 in
theorem rules_walk (x0 x1 x2 x3 x4 x5 x6 x7 x8 x9 x10 x11 x12 x13 x14 x15 x16 x17 x18 x19 x20 x21 x22 x23 x24 x25 x26 x27 x28 x29 x31 x32 x33 x34 x35 x36 : Int) (x30 : Bool) (w : World) : Calls Tryd.prog 46 [.agg #[.int .i64 x0, .int .i64 x1, .int .i64 x2, .int .i64 x3, .int .i64 x4, .int .i64 x5, .int .i64 x6, .int .u64 x7, .int .u64 x8, .int .u64 x9, .int .i64 x10, .int .i64 x11, .int .i64 x12, .int .u8 x13, .int .u8 x14, .int .u8 x15, .int .u8 x16, .int .u8 x17, .int .u8 x18, .int .u8 x19, .int .u8 x20, .int .u8 x21, .int .u8 x22, .int .u8 x23, .int .u8 x24, .int .u8 x25, .int .u8 x26, .int .u8 x27, .int .u8 x28, .int .u64 x29, .bool x30, .int .u64 x31, .int .i64 x32, .int .u64 x33, .int .i64 x34, .int .i64 x35, .int .i64 x36]].toArray w fun e w' => ∃ b1 b2, w.heap.size ≤ b1 ∧ w.heap.size ≤ b2 ∧ e = .returned (.slice (some ⟨b2, 0, none⟩) 11 11) ∧ Inv w [(b1, #[.int .i64 x0, .int .i64 x1, .int .i64 x2, .int .i64 x3, .int .i64 x4, .int .i64 x5, .int .i64 x6, .int .u64 x7, .int .u64 x8, .int .u64 x9, .int .i64 x10, .int .i64 x11, .int .i64 x12, .int .u8 x13, .int .u8 x14, .int .u8 x15, .int .u8 x16, .int .u8 x17, .int .u8 x18, .int .u8 x19, .int .u8 x20, .int .u8 x21, .int .u8 x22, .int .u8 x23, .int .u8 x24, .int .u8 x25, .int .u8 x26, .int .u8 x27, .int .u8 x28, .int .u64 x29, .bool x30, .int .u64 x31, .int .i64 x32, .int .u64 x33, .int .i64 x34, .int .i64 x35, .int .i64 x36], 41), (b2, #[.func (.func 48) #[] #[.pointer (some ⟨b1, 0, none⟩)], .func (.func 50) #[] #[.pointer (some ⟨b1, 0, none⟩)], .func (.func 51) #[] #[.pointer (some ⟨b1, 0, none⟩)], .func (.func 52) #[] #[.pointer (some ⟨b1, 0, none⟩)], .func (.func 53) #[] #[.pointer (some ⟨b1, 0, none⟩)], .func (.func 55) #[] #[.pointer (some ⟨b1, 0, none⟩)], .func (.func 56) #[] #[.pointer (some ⟨b1, 0, none⟩)], .func (.func 57) #[] #[.pointer (some ⟨b1, 0, none⟩)], .func (.func 58) #[] #[.pointer (some ⟨b1, 0, none⟩)], .func (.func 59) #[] #[.pointer (some ⟨b1, 0, none⟩)], .func (.func 60) #[] #[.pointer (some ⟨b1, 0, none⟩)]], 31)] w' := by
  have hI1 := Inv.start w
  refine enter (n := 15) Tryd.func46 rfl rfl rfl ?_
  intro ac1 hf1
  refine code_seq ?_
  refine seq_start (l := [0, 1]) rfl ?_
  refine seq_one (op_box hf1 rfl rfl rfl rfl hI1 fun ac2 b1 wd1 hb1 hI2 hf2 => ?_)
  have hI3 : Inv w [(b1, #[.int .i64 x0, .int .i64 x1, .int .i64 x2, .int .i64 x3, .int .i64 x4, .int .i64 x5, .int .i64 x6, .int .u64 x7, .int .u64 x8, .int .u64 x9, .int .i64 x10, .int .i64 x11, .int .i64 x12, .int .u8 x13, .int .u8 x14, .int .u8 x15, .int .u8 x16, .int .u8 x17, .int .u8 x18, .int .u8 x19, .int .u8 x20, .int .u8 x21, .int .u8 x22, .int .u8 x23, .int .u8 x24, .int .u8 x25, .int .u8 x26, .int .u8 x27, .int .u8 x28, .int .u64 x29, .bool x30, .int .u64 x31, .int .i64 x32, .int .u64 x33, .int .i64 x34, .int .i64 x35, .int .i64 x36], 41)] wd1 := hI2
  refine seq_one (op_val (v := .slice none 0 0) hf2 rfl rfl rfl rfl rfl rfl (r_assign rfl) fun ac3 hf3 => ?_)
  refine seq_end ?_
  clear ac1 hI1 hf1 hI2 ac2 hf2
  refine then_normal ?_
  refine code_seq ?_
  refine seq_start (l := [0, 1, 2, 3, 4, 5, 6, 7, 8, 9, 10, 11, 12]) rfl ?_
  refine seq_one (op_val (v := .func (.func 48) #[] #[.pointer (some ⟨b1, 0, none⟩)]) hf3 rfl rfl rfl rfl rfl rfl (r_makeFunc rfl) fun ac4 hf4 => ?_)
  refine seq_one (op_val (v := .func (.func 50) #[] #[.pointer (some ⟨b1, 0, none⟩)]) hf4 rfl rfl rfl rfl rfl rfl (r_makeFunc rfl) fun ac5 hf5 => ?_)
  refine seq_one (op_val (v := .func (.func 51) #[] #[.pointer (some ⟨b1, 0, none⟩)]) hf5 rfl rfl rfl rfl rfl rfl (r_makeFunc rfl) fun ac6 hf6 => ?_)
  refine seq_one (op_val (v := .func (.func 52) #[] #[.pointer (some ⟨b1, 0, none⟩)]) hf6 rfl rfl rfl rfl rfl rfl (r_makeFunc rfl) fun ac7 hf7 => ?_)
  refine seq_one (op_val (v := .func (.func 53) #[] #[.pointer (some ⟨b1, 0, none⟩)]) hf7 rfl rfl rfl rfl rfl rfl (r_makeFunc rfl) fun ac8 hf8 => ?_)
  refine seq_one (op_val (v := .func (.func 55) #[] #[.pointer (some ⟨b1, 0, none⟩)]) hf8 rfl rfl rfl rfl rfl rfl (r_makeFunc rfl) fun ac9 hf9 => ?_)
  refine seq_one (op_val (v := .func (.func 56) #[] #[.pointer (some ⟨b1, 0, none⟩)]) hf9 rfl rfl rfl rfl rfl rfl (r_makeFunc rfl) fun ac10 hf10 => ?_)
  refine seq_one (op_val (v := .func (.func 57) #[] #[.pointer (some ⟨b1, 0, none⟩)]) hf10 rfl rfl rfl rfl rfl rfl (r_makeFunc rfl) fun ac11 hf11 => ?_)
  refine seq_one (op_val (v := .func (.func 58) #[] #[.pointer (some ⟨b1, 0, none⟩)]) hf11 rfl rfl rfl rfl rfl rfl (r_makeFunc rfl) fun ac12 hf12 => ?_)
  refine seq_one (op_val (v := .func (.func 59) #[] #[.pointer (some ⟨b1, 0, none⟩)]) hf12 rfl rfl rfl rfl rfl rfl (r_makeFunc rfl) fun ac13 hf13 => ?_)
  refine seq_one (op_val (v := .func (.func 60) #[] #[.pointer (some ⟨b1, 0, none⟩)]) hf13 rfl rfl rfl rfl rfl rfl (r_makeFunc rfl) fun ac14 hf14 => ?_)
  refine seq_one (op_bslice (s := 31) (cells := #[.func (.func 48) #[] #[.pointer (some ⟨b1, 0, none⟩)], .func (.func 50) #[] #[.pointer (some ⟨b1, 0, none⟩)], .func (.func 51) #[] #[.pointer (some ⟨b1, 0, none⟩)], .func (.func 52) #[] #[.pointer (some ⟨b1, 0, none⟩)], .func (.func 53) #[] #[.pointer (some ⟨b1, 0, none⟩)], .func (.func 55) #[] #[.pointer (some ⟨b1, 0, none⟩)], .func (.func 56) #[] #[.pointer (some ⟨b1, 0, none⟩)], .func (.func 57) #[] #[.pointer (some ⟨b1, 0, none⟩)], .func (.func 58) #[] #[.pointer (some ⟨b1, 0, none⟩)], .func (.func 59) #[] #[.pointer (some ⟨b1, 0, none⟩)], .func (.func 60) #[] #[.pointer (some ⟨b1, 0, none⟩)]]) hf14 rfl rfl rfl rfl rfl (fun _ => by kernel_rfl) hI3 fun ac15 b2 wd2 hb2 hI4 hf15 => ?_)
  have hI5 : Inv w [(b1, #[.int .i64 x0, .int .i64 x1, .int .i64 x2, .int .i64 x3, .int .i64 x4, .int .i64 x5, .int .i64 x6, .int .u64 x7, .int .u64 x8, .int .u64 x9, .int .i64 x10, .int .i64 x11, .int .i64 x12, .int .u8 x13, .int .u8 x14, .int .u8 x15, .int .u8 x16, .int .u8 x17, .int .u8 x18, .int .u8 x19, .int .u8 x20, .int .u8 x21, .int .u8 x22, .int .u8 x23, .int .u8 x24, .int .u8 x25, .int .u8 x26, .int .u8 x27, .int .u8 x28, .int .u64 x29, .bool x30, .int .u64 x31, .int .i64 x32, .int .u64 x33, .int .i64 x34, .int .i64 x35, .int .i64 x36], 41), (b2, #[.func (.func 48) #[] #[.pointer (some ⟨b1, 0, none⟩)], .func (.func 50) #[] #[.pointer (some ⟨b1, 0, none⟩)], .func (.func 51) #[] #[.pointer (some ⟨b1, 0, none⟩)], .func (.func 52) #[] #[.pointer (some ⟨b1, 0, none⟩)], .func (.func 53) #[] #[.pointer (some ⟨b1, 0, none⟩)], .func (.func 55) #[] #[.pointer (some ⟨b1, 0, none⟩)], .func (.func 56) #[] #[.pointer (some ⟨b1, 0, none⟩)], .func (.func 57) #[] #[.pointer (some ⟨b1, 0, none⟩)], .func (.func 58) #[] #[.pointer (some ⟨b1, 0, none⟩)], .func (.func 59) #[] #[.pointer (some ⟨b1, 0, none⟩)], .func (.func 60) #[] #[.pointer (some ⟨b1, 0, none⟩)]], 31)] wd2 := hI4
  refine seq_one (op_val (v := .slice (some ⟨b2, 0, none⟩) 11 11) hf15 rfl rfl rfl rfl rfl rfl (r_assign rfl) fun ac16 hf16 => ?_)
  refine seq_end ?_
  clear ac3 hf3 ac4 hf4 ac5 hf5 ac6 hf6 ac7 hf7 ac8 hf8 ac9 hf9 ac10 hf10 ac11 hf11 ac12 hf12 ac13 hf13 ac14 wd1 hI3 hf14 hI4 ac15 hf15
  refine then_normal ?_
  refine wp_ret ?_
  exact post1 rfl hf16 rfl ⟨b1, b2, hb1, hb2, rfl, hI5⟩
end Go.Proofs.YtakkookpjhaekaaDoor
