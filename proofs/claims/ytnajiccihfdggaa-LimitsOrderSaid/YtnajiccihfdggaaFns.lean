/-
  The functions of limits, and of the reference: what each call comes to.
-/
import Derived.Test.YtnajiccihfdggaaTab
namespace Go.Proofs.Ytnajiccihfdggaa
set_option linter.unusedVariables false
set_option linter.unusedSimpArgs false
set_option maxRecDepth 100000
open Go.RowKit
theorem wrap_i64 {x : Int} (h1 : -9223372036854775808 ≤ x) (h2 : x ≤ 9223372036854775807) : IntKind.wrap .i64 x = x := IntWalk.i64_in x ⟨h1, h2⟩
theorem wf_i64 {n : Int} (h1 : -9223372036854775808 ≤ n) (h2 : n ≤ 9223372036854775807) : (Lit.int .i64 n).wf = true := WalkArith.wf_i64 ⟨h1, h2⟩
def lessF (a b : Int) : Int := if a ≤ b then 0 else if b < 0 ∧ a > 9223372036854775807 + b then 9223372036854775807 else a - b
def moreF (a b : Int) : Int := if b > 0 ∧ a > 9223372036854775807 - b then 9223372036854775807 else if b < 0 ∧ a < -9223372036854775808 - b then -9223372036854775808 else a + b
def mn (a b : Int) : Int := if b < a then b else a
def whyF (r b f n0 n1 n2 : Int) : Int := if n0 ≥ r then 1 else if n1 ≥ b then 2 else if n2 ≥ f then 3 else 0
def leftF (r b f n0 n1 n2 : Int) : Int := mn (mn (mn 9223372036854775807 (lessF r n0)) (lessF b n1)) (lessF f n2)
def least3 (a b c : Int) : Int := mn (mn a b) c
/-- A configuration's three limits. -/
structure LC (cs : Array Value) (r b f : Int) : Prop where
  size : cs.size = 37
  one : cs.toList.all Value.oneCell' = true
  c0 : cs[0]? = some (.int .i64 r)
  c3 : cs[3]? = some (.int .i64 f)
  c4 : cs[4]? = some (.int .i64 b)
  rl : -9223372036854775808 ≤ r
  rr : r ≤ 9223372036854775807
  bl : -9223372036854775808 ≤ b
  br : b ≤ 9223372036854775807
  fl : -9223372036854775808 ≤ f
  fr : f ≤ 9223372036854775807
theorem LC.le {cs : Array Value} {r b f : Int} (h : LC cs r b f) : True := trivial
theorem lessF_range {a b : Int} (ar : a ≤ 9223372036854775807) : 0 ≤ lessF a b ∧ lessF a b ≤ 9223372036854775807 := by unfold lessF; (repeat' split) <;> omega
theorem moreF_range {a b : Int} (al : -9223372036854775808 ≤ a) (ar : a ≤ 9223372036854775807) (bl : -9223372036854775808 ≤ b) (br : b ≤ 9223372036854775807) : -9223372036854775808 ≤ moreF a b ∧ moreF a b ≤ 9223372036854775807 := by unfold moreF; (repeat' split) <;> omega
set_option maxHeartbeats 4000000 in
theorem less_pur (a b : Int) (al : -9223372036854775808 ≤ a) (ar : a ≤ 9223372036854775807) (bl : -9223372036854775808 ≤ b) (br : b ≤ 9223372036854775807) : Pur Try.prog 20 [.int .i64 a, .int .i64 b] (.int .i64 (lessF a b)) := by
  intro w
  have hI1 := Inv.start w
  refine enter (n := 21) Try.func20 rfl rfl rfl ?_
  intro ac1 hf1
  refine code_seq ?_
  refine seq_start (l := [0]) rfl ?_
  refine seq_one (op_val (v := .int .i64 0) hf1 rfl rfl rfl rfl rfl rfl (r_assign rfl) fun ac2 hf2 => ?_)
  refine seq_end ?_
  clear ac1 hf1
  refine then_normal ?_
  refine code_seq ?_
  refine wp_block ?_
  refine code_seq ?_
  refine seq_start (l := [0, 1, 2, 3]) rfl ?_
  refine seq_one (op_val (v := .int .i64 a) hf2 rfl rfl rfl rfl rfl rfl (r_move rfl) fun ac3 hf3 => ?_)
  refine seq_one (op_val (v := .int .i64 b) hf3 rfl rfl rfl rfl rfl rfl (r_move rfl) fun ac4 hf4 => ?_)
  refine seq_one (op_val (v := .bool (decide (a ≤ b))) hf4 rfl rfl rfl rfl rfl rfl (r_leq rfl rfl) fun ac5 hf5 => ?_)
  refine seq_one (op_val (v := .bool (decide (a ≤ b))) hf5 rfl rfl rfl rfl rfl rfl (r_assign rfl) fun ac6 hf6 => ?_)
  refine seq_end ?_
  clear ac2 hf2 ac3 hf3 ac4 hf4 ac5 hf5
  refine then_normal ?_
  refine code_if hf6 rfl (fun c5_1 => ?_) (fun c5_1 => ?_)
  · have hf7 := hf6.know 5 (u := .bool true) rfl (congrArg Value.bool c5_1)
    refine code_seq ?_
    refine seq_start (l := [0]) rfl ?_
    refine seq_one (op_val (v := .int .i64 0) hf7 rfl rfl rfl rfl rfl rfl (r_assign rfl) fun ac7 hf8 => ?_)
    refine seq_end ?_
    clear hf6 ac6 hf7
    refine then_normal ?_
    refine wp_ret ?_
    refine block_ret ?_
    refine then_ret ?_
    refine post1 rfl hf8 rfl ⟨?_, hI1.done (fresh_keys (ks := []) rfl fk_nil)⟩
    exact congrArg (fun z => Ending.returned (.int .i64 z)) ((by simp only [decide_eq_true_eq, decide_eq_false_iff_not] at *; unfold lessF; first | (split <;> omega) | ((repeat' split) <;> omega)))
  · have hf9 := hf6.know 5 (u := .bool false) rfl (congrArg Value.bool c5_1)
    refine code_seq ?_
    refine seq_start (l := [0, 1, 2, 3, 4, 5, 6, 7, 8]) rfl ?_
    refine seq_one (op_val (v := .int .i64 b) hf9 rfl rfl rfl rfl rfl rfl (r_move rfl) fun ac8 hf10 => ?_)
    refine seq_one (op_val (v := .bool (decide (b < 0))) hf10 rfl rfl rfl rfl rfl rfl (r_lss rfl rfl) fun ac9 hf11 => ?_)
    refine seq_one (op_val (v := .bool (decide (b < 0))) hf11 rfl rfl rfl rfl rfl rfl (r_move rfl) fun ac10 hf12 => ?_)
    rcases Bool.eq_false_or_eq_true (decide (b < 0) : Bool) with g12_2 | g12_2
    · have hf13 := hf12.know 12 (u := .bool true) rfl (congrArg Value.bool g12_2)
      refine seq_one (op_val (v := .int .i64 a) hf13 rfl rfl rfl rfl rfl rfl (r_move rfl) fun ac11 hf14 => ?_)
      refine seq_one (op_val (v := .int .i64 b) hf14 rfl rfl rfl rfl rfl rfl (r_move rfl) fun ac12 hf15 => ?_)
      refine seq_one (op_val (v := .int .i64 (9223372036854775807 + b)) hf15 rfl rfl rfl rfl rfl rfl (r_add (c := (9223372036854775807 + b)) rfl rfl (by simp only [decide_eq_true_eq, decide_eq_false_iff_not] at *; exact wrap_i64 (by omega) (by omega))) fun ac13 hf16 => ?_)
      refine seq_one (op_val (v := .bool (decide (a > (9223372036854775807 + b)))) hf16 rfl rfl rfl rfl rfl rfl (r_gtr rfl rfl) fun ac14 hf17 => ?_)
      refine seq_one (op_val (v := .bool (decide (a > (9223372036854775807 + b)))) hf17 rfl rfl rfl rfl rfl rfl (r_pickT rfl rfl) fun ac15 hf18 => ?_)
      refine seq_one (op_val (v := .bool (decide (a > (9223372036854775807 + b)))) hf18 rfl rfl rfl rfl rfl rfl (r_assign rfl) fun ac16 hf19 => ?_)
      refine seq_end ?_
      clear hf6 ac6 hf9 ac8 hf10 ac9 hf11 hf12 ac10 hf13 ac11 hf14 ac12 hf15 ac13 hf16 ac14 hf17 ac15 hf18
      refine then_normal ?_
      refine code_if hf19 rfl (fun c9_3 => ?_) (fun c9_3 => ?_)
      · have hf20 := hf19.know 9 (u := .bool true) rfl (congrArg Value.bool c9_3)
        refine code_seq ?_
        refine seq_start (l := [0]) rfl ?_
        refine seq_one (op_val (v := .int .i64 9223372036854775807) hf20 rfl rfl rfl rfl rfl rfl (r_assign rfl) fun ac17 hf21 => ?_)
        refine seq_end ?_
        clear hf19 ac16 hf20
        refine then_normal ?_
        refine wp_ret ?_
        refine block_ret ?_
        refine then_ret ?_
        refine post1 rfl hf21 rfl ⟨?_, hI1.done (fresh_keys (ks := []) rfl fk_nil)⟩
        exact congrArg (fun z => Ending.returned (.int .i64 z)) ((by simp only [decide_eq_true_eq, decide_eq_false_iff_not] at *; unfold lessF; first | (split <;> omega) | ((repeat' split) <;> omega)))
      · have hf22 := hf19.know 9 (u := .bool false) rfl (congrArg Value.bool c9_3)
        refine wp_skip ?_
        refine block_normal ?_
        refine then_normal ?_
        refine code_seq ?_
        refine seq_start (l := [0, 1, 2, 3]) rfl ?_
        refine seq_one (op_val (v := .int .i64 a) hf22 rfl rfl rfl rfl rfl rfl (r_move rfl) fun ac18 hf23 => ?_)
        refine seq_one (op_val (v := .int .i64 b) hf23 rfl rfl rfl rfl rfl rfl (r_move rfl) fun ac19 hf24 => ?_)
        refine seq_one (op_val (v := .int .i64 (a - b)) hf24 rfl rfl rfl rfl rfl rfl (r_sub (c := (a - b)) rfl rfl (by simp only [decide_eq_true_eq, decide_eq_false_iff_not] at *; exact wrap_i64 (by omega) (by omega))) fun ac20 hf25 => ?_)
        refine seq_one (op_val (v := .int .i64 (a - b)) hf25 rfl rfl rfl rfl rfl rfl (r_assign rfl) fun ac21 hf26 => ?_)
        refine seq_end ?_
        clear hf19 ac16 hf22 ac18 hf23 ac19 hf24 ac20 hf25
        refine then_normal ?_
        refine wp_ret ?_
        refine post1 rfl hf26 rfl ⟨?_, hI1.done (fresh_keys (ks := []) rfl fk_nil)⟩
        exact congrArg (fun z => Ending.returned (.int .i64 z)) ((by simp only [decide_eq_true_eq, decide_eq_false_iff_not] at *; unfold lessF; first | (split <;> omega) | ((repeat' split) <;> omega)))
    · have hf27 := hf12.know 12 (u := .bool false) rfl (congrArg Value.bool g12_2)
      refine seq_one (op_skip hf27 rfl rfl rfl rfl fun ac22 hf28 => ?_)
      refine seq_one (op_skip hf28 rfl rfl rfl rfl fun ac23 hf29 => ?_)
      refine seq_one (op_skip hf29 rfl rfl rfl rfl fun ac24 hf30 => ?_)
      refine seq_one (op_skip hf30 rfl rfl rfl rfl fun ac25 hf31 => ?_)
      refine seq_one (op_val (v := .bool false) hf31 rfl rfl rfl rfl rfl rfl (r_pickF rfl rfl) fun ac26 hf32 => ?_)
      refine seq_one (op_val (v := .bool false) hf32 rfl rfl rfl rfl rfl rfl (r_assign rfl) fun ac27 hf33 => ?_)
      refine seq_end ?_
      clear hf6 ac6 hf9 ac8 hf10 ac9 hf11 hf12 ac10 hf27 ac22 hf28 ac23 hf29 ac24 hf30 ac25 hf31 ac26 hf32
      refine then_normal ?_
      refine code_if_false hf33 rfl ?_
      refine wp_skip ?_
      refine block_normal ?_
      refine then_normal ?_
      refine code_seq ?_
      refine seq_start (l := [0, 1, 2, 3]) rfl ?_
      refine seq_one (op_val (v := .int .i64 a) hf33 rfl rfl rfl rfl rfl rfl (r_move rfl) fun ac28 hf34 => ?_)
      refine seq_one (op_val (v := .int .i64 b) hf34 rfl rfl rfl rfl rfl rfl (r_move rfl) fun ac29 hf35 => ?_)
      refine seq_one (op_val (v := .int .i64 (a - b)) hf35 rfl rfl rfl rfl rfl rfl (r_sub (c := (a - b)) rfl rfl (by simp only [decide_eq_true_eq, decide_eq_false_iff_not] at *; exact wrap_i64 (by omega) (by omega))) fun ac30 hf36 => ?_)
      refine seq_one (op_val (v := .int .i64 (a - b)) hf36 rfl rfl rfl rfl rfl rfl (r_assign rfl) fun ac31 hf37 => ?_)
      refine seq_end ?_
      clear ac27 hf33 ac28 hf34 ac29 hf35 ac30 hf36
      refine then_normal ?_
      refine wp_ret ?_
      refine post1 rfl hf37 rfl ⟨?_, hI1.done (fresh_keys (ks := []) rfl fk_nil)⟩
      exact congrArg (fun z => Ending.returned (.int .i64 z)) ((by simp only [decide_eq_true_eq, decide_eq_false_iff_not] at *; unfold lessF; first | (split <;> omega) | ((repeat' split) <;> omega)))
set_option maxHeartbeats 4000000 in
theorem more_pur (a b : Int) (al : -9223372036854775808 ≤ a) (ar : a ≤ 9223372036854775807) (bl : -9223372036854775808 ≤ b) (br : b ≤ 9223372036854775807) : Pur Try.prog 23 [.int .i64 a, .int .i64 b] (.int .i64 (moreF a b)) := by
  intro w
  have hI1 := Inv.start w
  refine enter (n := 26) Try.func23 rfl rfl rfl ?_
  intro ac1 hf1
  refine code_seq ?_
  refine seq_start (l := [0]) rfl ?_
  refine seq_one (op_val (v := .int .i64 0) hf1 rfl rfl rfl rfl rfl rfl (r_assign rfl) fun ac2 hf2 => ?_)
  refine seq_end ?_
  clear ac1 hf1
  refine then_normal ?_
  refine code_seq ?_
  refine wp_block ?_
  refine code_seq ?_
  refine seq_start (l := [0, 1, 2, 3, 4, 5, 6, 7, 8]) rfl ?_
  refine seq_one (op_val (v := .int .i64 b) hf2 rfl rfl rfl rfl rfl rfl (r_move rfl) fun ac3 hf3 => ?_)
  refine seq_one (op_val (v := .bool (decide (b > 0))) hf3 rfl rfl rfl rfl rfl rfl (r_gtr rfl rfl) fun ac4 hf4 => ?_)
  refine seq_one (op_val (v := .bool (decide (b > 0))) hf4 rfl rfl rfl rfl rfl rfl (r_move rfl) fun ac5 hf5 => ?_)
  rcases Bool.eq_false_or_eq_true (decide (b > 0) : Bool) with g8_1 | g8_1
  · have hf6 := hf5.know 8 (u := .bool true) rfl (congrArg Value.bool g8_1)
    refine seq_one (op_val (v := .int .i64 a) hf6 rfl rfl rfl rfl rfl rfl (r_move rfl) fun ac6 hf7 => ?_)
    refine seq_one (op_val (v := .int .i64 b) hf7 rfl rfl rfl rfl rfl rfl (r_move rfl) fun ac7 hf8 => ?_)
    refine seq_one (op_val (v := .int .i64 (9223372036854775807 - b)) hf8 rfl rfl rfl rfl rfl rfl (r_sub (c := (9223372036854775807 - b)) rfl rfl (by simp only [decide_eq_true_eq, decide_eq_false_iff_not] at *; exact wrap_i64 (by omega) (by omega))) fun ac8 hf9 => ?_)
    refine seq_one (op_val (v := .bool (decide (a > (9223372036854775807 - b)))) hf9 rfl rfl rfl rfl rfl rfl (r_gtr rfl rfl) fun ac9 hf10 => ?_)
    refine seq_one (op_val (v := .bool (decide (a > (9223372036854775807 - b)))) hf10 rfl rfl rfl rfl rfl rfl (r_pickT rfl rfl) fun ac10 hf11 => ?_)
    refine seq_one (op_val (v := .bool (decide (a > (9223372036854775807 - b)))) hf11 rfl rfl rfl rfl rfl rfl (r_assign rfl) fun ac11 hf12 => ?_)
    refine seq_end ?_
    clear ac2 hf2 ac3 hf3 ac4 hf4 hf5 ac5 hf6 ac6 hf7 ac7 hf8 ac8 hf9 ac9 hf10 ac10 hf11
    refine then_normal ?_
    refine code_if hf12 rfl (fun c5_2 => ?_) (fun c5_2 => ?_)
    · have hf13 := hf12.know 5 (u := .bool true) rfl (congrArg Value.bool c5_2)
      refine code_seq ?_
      refine seq_start (l := [0]) rfl ?_
      refine seq_one (op_val (v := .int .i64 9223372036854775807) hf13 rfl rfl rfl rfl rfl rfl (r_assign rfl) fun ac12 hf14 => ?_)
      refine seq_end ?_
      clear hf12 ac11 hf13
      refine then_normal ?_
      refine wp_ret ?_
      refine block_ret ?_
      refine then_ret ?_
      refine post1 rfl hf14 rfl ⟨?_, hI1.done (fresh_keys (ks := []) rfl fk_nil)⟩
      exact congrArg (fun z => Ending.returned (.int .i64 z)) ((by simp only [decide_eq_true_eq, decide_eq_false_iff_not] at *; unfold moreF; first | (split <;> omega) | ((repeat' split) <;> omega)))
    · have hf15 := hf12.know 5 (u := .bool false) rfl (congrArg Value.bool c5_2)
      refine code_seq ?_
      refine seq_start (l := [0, 1, 2, 3, 4, 5, 6, 7, 8]) rfl ?_
      refine seq_one (op_val (v := .int .i64 b) hf15 rfl rfl rfl rfl rfl rfl (r_move rfl) fun ac13 hf16 => ?_)
      refine seq_one (op_val (v := .bool (decide (b < 0))) hf16 rfl rfl rfl rfl rfl rfl (r_lss rfl rfl) fun ac14 hf17 => ?_)
      refine seq_one (op_val (v := .bool (decide (b < 0))) hf17 rfl rfl rfl rfl rfl rfl (r_move rfl) fun ac15 hf18 => ?_)
      rcases Bool.eq_false_or_eq_true (decide (b < 0) : Bool) with g17_3 | g17_3
      · have hf19 := hf18.know 17 (u := .bool true) rfl (congrArg Value.bool g17_3)
        refine seq_one (op_val (v := .int .i64 a) hf19 rfl rfl rfl rfl rfl rfl (r_move rfl) fun ac16 hf20 => ?_)
        refine seq_one (op_val (v := .int .i64 b) hf20 rfl rfl rfl rfl rfl rfl (r_move rfl) fun ac17 hf21 => ?_)
        refine seq_one (op_val (v := .int .i64 (-9223372036854775808 - b)) hf21 rfl rfl rfl rfl rfl rfl (r_sub (c := (-9223372036854775808 - b)) rfl rfl (by simp only [decide_eq_true_eq, decide_eq_false_iff_not] at *; exact wrap_i64 (by omega) (by omega))) fun ac18 hf22 => ?_)
        refine seq_one (op_val (v := .bool (decide (a < (-9223372036854775808 - b)))) hf22 rfl rfl rfl rfl rfl rfl (r_lss rfl rfl) fun ac19 hf23 => ?_)
        refine seq_one (op_val (v := .bool (decide (a < (-9223372036854775808 - b)))) hf23 rfl rfl rfl rfl rfl rfl (r_pickT rfl rfl) fun ac20 hf24 => ?_)
        refine seq_one (op_val (v := .bool (decide (a < (-9223372036854775808 - b)))) hf24 rfl rfl rfl rfl rfl rfl (r_assign rfl) fun ac21 hf25 => ?_)
        refine seq_end ?_
        clear hf12 ac11 hf15 ac13 hf16 ac14 hf17 hf18 ac15 hf19 ac16 hf20 ac17 hf21 ac18 hf22 ac19 hf23 ac20 hf24
        refine then_normal ?_
        refine code_if hf25 rfl (fun c14_4 => ?_) (fun c14_4 => ?_)
        · have hf26 := hf25.know 14 (u := .bool true) rfl (congrArg Value.bool c14_4)
          refine code_seq ?_
          refine seq_start (l := [0]) rfl ?_
          refine seq_one (op_val (v := .int .i64 (-9223372036854775808)) hf26 rfl rfl rfl rfl rfl rfl (r_assign rfl) fun ac22 hf27 => ?_)
          refine seq_end ?_
          clear hf25 ac21 hf26
          refine then_normal ?_
          refine wp_ret ?_
          refine block_ret ?_
          refine then_ret ?_
          refine post1 rfl hf27 rfl ⟨?_, hI1.done (fresh_keys (ks := []) rfl fk_nil)⟩
          exact congrArg (fun z => Ending.returned (.int .i64 z)) ((by simp only [decide_eq_true_eq, decide_eq_false_iff_not] at *; unfold moreF; first | (split <;> omega) | ((repeat' split) <;> omega)))
        · have hf28 := hf25.know 14 (u := .bool false) rfl (congrArg Value.bool c14_4)
          refine wp_skip ?_
          refine block_normal ?_
          refine then_normal ?_
          refine code_seq ?_
          refine seq_start (l := [0, 1, 2, 3]) rfl ?_
          refine seq_one (op_val (v := .int .i64 a) hf28 rfl rfl rfl rfl rfl rfl (r_move rfl) fun ac23 hf29 => ?_)
          refine seq_one (op_val (v := .int .i64 b) hf29 rfl rfl rfl rfl rfl rfl (r_move rfl) fun ac24 hf30 => ?_)
          refine seq_one (op_val (v := .int .i64 (a + b)) hf30 rfl rfl rfl rfl rfl rfl (r_add (c := (a + b)) rfl rfl (by simp only [decide_eq_true_eq, decide_eq_false_iff_not] at *; exact wrap_i64 (by omega) (by omega))) fun ac25 hf31 => ?_)
          refine seq_one (op_val (v := .int .i64 (a + b)) hf31 rfl rfl rfl rfl rfl rfl (r_assign rfl) fun ac26 hf32 => ?_)
          refine seq_end ?_
          clear hf25 ac21 hf28 ac23 hf29 ac24 hf30 ac25 hf31
          refine then_normal ?_
          refine wp_ret ?_
          refine post1 rfl hf32 rfl ⟨?_, hI1.done (fresh_keys (ks := []) rfl fk_nil)⟩
          exact congrArg (fun z => Ending.returned (.int .i64 z)) ((by simp only [decide_eq_true_eq, decide_eq_false_iff_not] at *; unfold moreF; first | (split <;> omega) | ((repeat' split) <;> omega)))
      · have hf33 := hf18.know 17 (u := .bool false) rfl (congrArg Value.bool g17_3)
        refine seq_one (op_skip hf33 rfl rfl rfl rfl fun ac27 hf34 => ?_)
        refine seq_one (op_skip hf34 rfl rfl rfl rfl fun ac28 hf35 => ?_)
        refine seq_one (op_skip hf35 rfl rfl rfl rfl fun ac29 hf36 => ?_)
        refine seq_one (op_skip hf36 rfl rfl rfl rfl fun ac30 hf37 => ?_)
        refine seq_one (op_val (v := .bool false) hf37 rfl rfl rfl rfl rfl rfl (r_pickF rfl rfl) fun ac31 hf38 => ?_)
        refine seq_one (op_val (v := .bool false) hf38 rfl rfl rfl rfl rfl rfl (r_assign rfl) fun ac32 hf39 => ?_)
        refine seq_end ?_
        clear hf12 ac11 hf15 ac13 hf16 ac14 hf17 hf18 ac15 hf33 ac27 hf34 ac28 hf35 ac29 hf36 ac30 hf37 ac31 hf38
        refine then_normal ?_
        refine code_if_false hf39 rfl ?_
        refine wp_skip ?_
        refine block_normal ?_
        refine then_normal ?_
        refine code_seq ?_
        refine seq_start (l := [0, 1, 2, 3]) rfl ?_
        refine seq_one (op_val (v := .int .i64 a) hf39 rfl rfl rfl rfl rfl rfl (r_move rfl) fun ac33 hf40 => ?_)
        refine seq_one (op_val (v := .int .i64 b) hf40 rfl rfl rfl rfl rfl rfl (r_move rfl) fun ac34 hf41 => ?_)
        refine seq_one (op_val (v := .int .i64 (a + b)) hf41 rfl rfl rfl rfl rfl rfl (r_add (c := (a + b)) rfl rfl (by simp only [decide_eq_true_eq, decide_eq_false_iff_not] at *; exact wrap_i64 (by omega) (by omega))) fun ac35 hf42 => ?_)
        refine seq_one (op_val (v := .int .i64 (a + b)) hf42 rfl rfl rfl rfl rfl rfl (r_assign rfl) fun ac36 hf43 => ?_)
        refine seq_end ?_
        clear ac32 hf39 ac33 hf40 ac34 hf41 ac35 hf42
        refine then_normal ?_
        refine wp_ret ?_
        refine post1 rfl hf43 rfl ⟨?_, hI1.done (fresh_keys (ks := []) rfl fk_nil)⟩
        exact congrArg (fun z => Ending.returned (.int .i64 z)) ((by simp only [decide_eq_true_eq, decide_eq_false_iff_not] at *; unfold moreF; first | (split <;> omega) | ((repeat' split) <;> omega)))
  · have hf44 := hf5.know 8 (u := .bool false) rfl (congrArg Value.bool g8_1)
    refine seq_one (op_skip hf44 rfl rfl rfl rfl fun ac37 hf45 => ?_)
    refine seq_one (op_skip hf45 rfl rfl rfl rfl fun ac38 hf46 => ?_)
    refine seq_one (op_skip hf46 rfl rfl rfl rfl fun ac39 hf47 => ?_)
    refine seq_one (op_skip hf47 rfl rfl rfl rfl fun ac40 hf48 => ?_)
    refine seq_one (op_val (v := .bool false) hf48 rfl rfl rfl rfl rfl rfl (r_pickF rfl rfl) fun ac41 hf49 => ?_)
    refine seq_one (op_val (v := .bool false) hf49 rfl rfl rfl rfl rfl rfl (r_assign rfl) fun ac42 hf50 => ?_)
    refine seq_end ?_
    clear ac2 hf2 ac3 hf3 ac4 hf4 hf5 ac5 hf44 ac37 hf45 ac38 hf46 ac39 hf47 ac40 hf48 ac41 hf49
    refine then_normal ?_
    refine code_if_false hf50 rfl ?_
    refine code_seq ?_
    refine seq_start (l := [0, 1, 2, 3, 4, 5, 6, 7, 8]) rfl ?_
    refine seq_one (op_val (v := .int .i64 b) hf50 rfl rfl rfl rfl rfl rfl (r_move rfl) fun ac43 hf51 => ?_)
    refine seq_one (op_val (v := .bool (decide (b < 0))) hf51 rfl rfl rfl rfl rfl rfl (r_lss rfl rfl) fun ac44 hf52 => ?_)
    refine seq_one (op_val (v := .bool (decide (b < 0))) hf52 rfl rfl rfl rfl rfl rfl (r_move rfl) fun ac45 hf53 => ?_)
    rcases Bool.eq_false_or_eq_true (decide (b < 0) : Bool) with g17_5 | g17_5
    · have hf54 := hf53.know 17 (u := .bool true) rfl (congrArg Value.bool g17_5)
      refine seq_one (op_val (v := .int .i64 a) hf54 rfl rfl rfl rfl rfl rfl (r_move rfl) fun ac46 hf55 => ?_)
      refine seq_one (op_val (v := .int .i64 b) hf55 rfl rfl rfl rfl rfl rfl (r_move rfl) fun ac47 hf56 => ?_)
      refine seq_one (op_val (v := .int .i64 (-9223372036854775808 - b)) hf56 rfl rfl rfl rfl rfl rfl (r_sub (c := (-9223372036854775808 - b)) rfl rfl (by simp only [decide_eq_true_eq, decide_eq_false_iff_not] at *; exact wrap_i64 (by omega) (by omega))) fun ac48 hf57 => ?_)
      refine seq_one (op_val (v := .bool (decide (a < (-9223372036854775808 - b)))) hf57 rfl rfl rfl rfl rfl rfl (r_lss rfl rfl) fun ac49 hf58 => ?_)
      refine seq_one (op_val (v := .bool (decide (a < (-9223372036854775808 - b)))) hf58 rfl rfl rfl rfl rfl rfl (r_pickT rfl rfl) fun ac50 hf59 => ?_)
      refine seq_one (op_val (v := .bool (decide (a < (-9223372036854775808 - b)))) hf59 rfl rfl rfl rfl rfl rfl (r_assign rfl) fun ac51 hf60 => ?_)
      refine seq_end ?_
      clear ac42 hf50 ac43 hf51 ac44 hf52 hf53 ac45 hf54 ac46 hf55 ac47 hf56 ac48 hf57 ac49 hf58 ac50 hf59
      refine then_normal ?_
      refine code_if hf60 rfl (fun c14_6 => ?_) (fun c14_6 => ?_)
      · have hf61 := hf60.know 14 (u := .bool true) rfl (congrArg Value.bool c14_6)
        refine code_seq ?_
        refine seq_start (l := [0]) rfl ?_
        refine seq_one (op_val (v := .int .i64 (-9223372036854775808)) hf61 rfl rfl rfl rfl rfl rfl (r_assign rfl) fun ac52 hf62 => ?_)
        refine seq_end ?_
        clear hf60 ac51 hf61
        refine then_normal ?_
        refine wp_ret ?_
        refine block_ret ?_
        refine then_ret ?_
        refine post1 rfl hf62 rfl ⟨?_, hI1.done (fresh_keys (ks := []) rfl fk_nil)⟩
        exact congrArg (fun z => Ending.returned (.int .i64 z)) ((by simp only [decide_eq_true_eq, decide_eq_false_iff_not] at *; unfold moreF; first | (split <;> omega) | ((repeat' split) <;> omega)))
      · have hf63 := hf60.know 14 (u := .bool false) rfl (congrArg Value.bool c14_6)
        refine wp_skip ?_
        refine block_normal ?_
        refine then_normal ?_
        refine code_seq ?_
        refine seq_start (l := [0, 1, 2, 3]) rfl ?_
        refine seq_one (op_val (v := .int .i64 a) hf63 rfl rfl rfl rfl rfl rfl (r_move rfl) fun ac53 hf64 => ?_)
        refine seq_one (op_val (v := .int .i64 b) hf64 rfl rfl rfl rfl rfl rfl (r_move rfl) fun ac54 hf65 => ?_)
        refine seq_one (op_val (v := .int .i64 (a + b)) hf65 rfl rfl rfl rfl rfl rfl (r_add (c := (a + b)) rfl rfl (by simp only [decide_eq_true_eq, decide_eq_false_iff_not] at *; exact wrap_i64 (by omega) (by omega))) fun ac55 hf66 => ?_)
        refine seq_one (op_val (v := .int .i64 (a + b)) hf66 rfl rfl rfl rfl rfl rfl (r_assign rfl) fun ac56 hf67 => ?_)
        refine seq_end ?_
        clear hf60 ac51 hf63 ac53 hf64 ac54 hf65 ac55 hf66
        refine then_normal ?_
        refine wp_ret ?_
        refine post1 rfl hf67 rfl ⟨?_, hI1.done (fresh_keys (ks := []) rfl fk_nil)⟩
        exact congrArg (fun z => Ending.returned (.int .i64 z)) ((by simp only [decide_eq_true_eq, decide_eq_false_iff_not] at *; unfold moreF; first | (split <;> omega) | ((repeat' split) <;> omega)))
    · have hf68 := hf53.know 17 (u := .bool false) rfl (congrArg Value.bool g17_5)
      refine seq_one (op_skip hf68 rfl rfl rfl rfl fun ac57 hf69 => ?_)
      refine seq_one (op_skip hf69 rfl rfl rfl rfl fun ac58 hf70 => ?_)
      refine seq_one (op_skip hf70 rfl rfl rfl rfl fun ac59 hf71 => ?_)
      refine seq_one (op_skip hf71 rfl rfl rfl rfl fun ac60 hf72 => ?_)
      refine seq_one (op_val (v := .bool false) hf72 rfl rfl rfl rfl rfl rfl (r_pickF rfl rfl) fun ac61 hf73 => ?_)
      refine seq_one (op_val (v := .bool false) hf73 rfl rfl rfl rfl rfl rfl (r_assign rfl) fun ac62 hf74 => ?_)
      refine seq_end ?_
      clear ac42 hf50 ac43 hf51 ac44 hf52 hf53 ac45 hf68 ac57 hf69 ac58 hf70 ac59 hf71 ac60 hf72 ac61 hf73
      refine then_normal ?_
      refine code_if_false hf74 rfl ?_
      refine wp_skip ?_
      refine block_normal ?_
      refine then_normal ?_
      refine code_seq ?_
      refine seq_start (l := [0, 1, 2, 3]) rfl ?_
      refine seq_one (op_val (v := .int .i64 a) hf74 rfl rfl rfl rfl rfl rfl (r_move rfl) fun ac63 hf75 => ?_)
      refine seq_one (op_val (v := .int .i64 b) hf75 rfl rfl rfl rfl rfl rfl (r_move rfl) fun ac64 hf76 => ?_)
      refine seq_one (op_val (v := .int .i64 (a + b)) hf76 rfl rfl rfl rfl rfl rfl (r_add (c := (a + b)) rfl rfl (by simp only [decide_eq_true_eq, decide_eq_false_iff_not] at *; exact wrap_i64 (by omega) (by omega))) fun ac65 hf77 => ?_)
      refine seq_one (op_val (v := .int .i64 (a + b)) hf77 rfl rfl rfl rfl rfl rfl (r_assign rfl) fun ac66 hf78 => ?_)
      refine seq_end ?_
      clear ac62 hf74 ac63 hf75 ac64 hf76 ac65 hf77
      refine then_normal ?_
      refine wp_ret ?_
      refine post1 rfl hf78 rfl ⟨?_, hI1.done (fresh_keys (ks := []) rfl fk_nil)⟩
      exact congrArg (fun z => Ending.returned (.int .i64 z)) ((by simp only [decide_eq_true_eq, decide_eq_false_iff_not] at *; unfold moreF; first | (split <;> omega) | ((repeat' split) <;> omega)))
set_option maxHeartbeats 4000000 in
theorem least_pur (a b c : Int) : Pur Try.prog 21 [.int .i64 a, .int .i64 b, .int .i64 c] (.int .i64 (least3 a b c)) := by
  intro w
  have hI1 := Inv.start w
  refine enter (n := 16) Try.func21 rfl rfl rfl ?_
  intro ac1 hf1
  refine code_seq ?_
  refine seq_start (l := [0]) rfl ?_
  refine seq_one (op_val (v := .int .i64 0) hf1 rfl rfl rfl rfl rfl rfl (r_assign rfl) fun ac2 hf2 => ?_)
  refine seq_end ?_
  clear ac1 hf1
  refine then_normal ?_
  refine code_seq ?_
  refine code_seq ?_
  refine seq_start (l := [0, 1, 2]) rfl ?_
  refine seq_one (op_val (v := .int .i64 b) hf2 rfl rfl rfl rfl rfl rfl (r_move rfl) fun ac3 hf3 => ?_)
  refine seq_one (op_val (v := .int .i64 a) hf3 rfl rfl rfl rfl rfl rfl (r_move rfl) fun ac4 hf4 => ?_)
  refine seq_one (op_val (v := .bool (decide (b < a))) hf4 rfl rfl rfl rfl rfl rfl (r_lss rfl rfl) fun ac5 hf5 => ?_)
  refine seq_end ?_
  clear ac2 hf2 ac3 hf3 ac4 hf4
  refine then_normal ?_
  refine code_if hf5 rfl (fun c9_1 => ?_) (fun c9_1 => ?_)
  · have hf6 := hf5.know 9 (u := .bool true) rfl (congrArg Value.bool c9_1)
    refine seq_start (l := [0, 1]) rfl ?_
    refine seq_one (op_val (v := .int .i64 b) hf6 rfl rfl rfl rfl rfl rfl (r_move rfl) fun ac6 hf7 => ?_)
    refine seq_one (op_val (v := .int .i64 b) hf7 rfl rfl rfl rfl rfl rfl (r_assign rfl) fun ac7 hf8 => ?_)
    refine seq_end ?_
    clear hf5 ac5 hf6 ac6 hf7
    refine then_normal ?_
    refine code_seq ?_
    refine code_seq ?_
    refine seq_start (l := [0, 1, 2]) rfl ?_
    refine seq_one (op_val (v := .int .i64 c) hf8 rfl rfl rfl rfl rfl rfl (r_move rfl) fun ac8 hf9 => ?_)
    refine seq_one (op_val (v := .int .i64 b) hf9 rfl rfl rfl rfl rfl rfl (r_move rfl) fun ac9 hf10 => ?_)
    refine seq_one (op_val (v := .bool (decide (c < b))) hf10 rfl rfl rfl rfl rfl rfl (r_lss rfl rfl) fun ac10 hf11 => ?_)
    refine seq_end ?_
    clear ac7 hf8 ac8 hf9 ac9 hf10
    refine then_normal ?_
    refine code_if hf11 rfl (fun c13_2 => ?_) (fun c13_2 => ?_)
    · have hf12 := hf11.know 13 (u := .bool true) rfl (congrArg Value.bool c13_2)
      refine seq_start (l := [0, 1]) rfl ?_
      refine seq_one (op_val (v := .int .i64 c) hf12 rfl rfl rfl rfl rfl rfl (r_move rfl) fun ac11 hf13 => ?_)
      refine seq_one (op_val (v := .int .i64 c) hf13 rfl rfl rfl rfl rfl rfl (r_assign rfl) fun ac12 hf14 => ?_)
      refine seq_end ?_
      clear hf11 ac10 hf12 ac11 hf13
      refine then_normal ?_
      refine code_seq ?_
      refine seq_start (l := [0, 1]) rfl ?_
      refine seq_one (op_val (v := .int .i64 c) hf14 rfl rfl rfl rfl rfl rfl (r_move rfl) fun ac13 hf15 => ?_)
      refine seq_one (op_val (v := .int .i64 c) hf15 rfl rfl rfl rfl rfl rfl (r_assign rfl) fun ac14 hf16 => ?_)
      refine seq_end ?_
      clear ac12 hf14 ac13 hf15
      refine then_normal ?_
      refine wp_ret ?_
      refine post1 rfl hf16 rfl ⟨?_, hI1.done (fresh_keys (ks := []) rfl fk_nil)⟩
      exact congrArg (fun z => Ending.returned (.int .i64 z)) ((by simp only [decide_eq_true_eq, decide_eq_false_iff_not] at *; unfold least3 mn; (repeat' split) <;> omega))
    · have hf17 := hf11.know 13 (u := .bool false) rfl (congrArg Value.bool c13_2)
      refine wp_skip ?_
      refine then_normal ?_
      refine code_seq ?_
      refine seq_start (l := [0, 1]) rfl ?_
      refine seq_one (op_val (v := .int .i64 b) hf17 rfl rfl rfl rfl rfl rfl (r_move rfl) fun ac15 hf18 => ?_)
      refine seq_one (op_val (v := .int .i64 b) hf18 rfl rfl rfl rfl rfl rfl (r_assign rfl) fun ac16 hf19 => ?_)
      refine seq_end ?_
      clear hf11 ac10 hf17 ac15 hf18
      refine then_normal ?_
      refine wp_ret ?_
      refine post1 rfl hf19 rfl ⟨?_, hI1.done (fresh_keys (ks := []) rfl fk_nil)⟩
      exact congrArg (fun z => Ending.returned (.int .i64 z)) ((by simp only [decide_eq_true_eq, decide_eq_false_iff_not] at *; unfold least3 mn; (repeat' split) <;> omega))
  · have hf20 := hf5.know 9 (u := .bool false) rfl (congrArg Value.bool c9_1)
    refine wp_skip ?_
    refine then_normal ?_
    refine code_seq ?_
    refine code_seq ?_
    refine seq_start (l := [0, 1, 2]) rfl ?_
    refine seq_one (op_val (v := .int .i64 c) hf20 rfl rfl rfl rfl rfl rfl (r_move rfl) fun ac17 hf21 => ?_)
    refine seq_one (op_val (v := .int .i64 a) hf21 rfl rfl rfl rfl rfl rfl (r_move rfl) fun ac18 hf22 => ?_)
    refine seq_one (op_val (v := .bool (decide (c < a))) hf22 rfl rfl rfl rfl rfl rfl (r_lss rfl rfl) fun ac19 hf23 => ?_)
    refine seq_end ?_
    clear hf5 ac5 hf20 ac17 hf21 ac18 hf22
    refine then_normal ?_
    refine code_if hf23 rfl (fun c13_3 => ?_) (fun c13_3 => ?_)
    · have hf24 := hf23.know 13 (u := .bool true) rfl (congrArg Value.bool c13_3)
      refine seq_start (l := [0, 1]) rfl ?_
      refine seq_one (op_val (v := .int .i64 c) hf24 rfl rfl rfl rfl rfl rfl (r_move rfl) fun ac20 hf25 => ?_)
      refine seq_one (op_val (v := .int .i64 c) hf25 rfl rfl rfl rfl rfl rfl (r_assign rfl) fun ac21 hf26 => ?_)
      refine seq_end ?_
      clear hf23 ac19 hf24 ac20 hf25
      refine then_normal ?_
      refine code_seq ?_
      refine seq_start (l := [0, 1]) rfl ?_
      refine seq_one (op_val (v := .int .i64 c) hf26 rfl rfl rfl rfl rfl rfl (r_move rfl) fun ac22 hf27 => ?_)
      refine seq_one (op_val (v := .int .i64 c) hf27 rfl rfl rfl rfl rfl rfl (r_assign rfl) fun ac23 hf28 => ?_)
      refine seq_end ?_
      clear ac21 hf26 ac22 hf27
      refine then_normal ?_
      refine wp_ret ?_
      refine post1 rfl hf28 rfl ⟨?_, hI1.done (fresh_keys (ks := []) rfl fk_nil)⟩
      exact congrArg (fun z => Ending.returned (.int .i64 z)) ((by simp only [decide_eq_true_eq, decide_eq_false_iff_not] at *; unfold least3 mn; (repeat' split) <;> omega))
    · have hf29 := hf23.know 13 (u := .bool false) rfl (congrArg Value.bool c13_3)
      refine wp_skip ?_
      refine then_normal ?_
      refine code_seq ?_
      refine seq_start (l := [0, 1]) rfl ?_
      refine seq_one (op_val (v := .int .i64 a) hf29 rfl rfl rfl rfl rfl rfl (r_move rfl) fun ac24 hf30 => ?_)
      refine seq_one (op_val (v := .int .i64 a) hf30 rfl rfl rfl rfl rfl rfl (r_assign rfl) fun ac25 hf31 => ?_)
      refine seq_end ?_
      clear hf23 ac19 hf29 ac24 hf30
      refine then_normal ?_
      refine wp_ret ?_
      refine post1 rfl hf31 rfl ⟨?_, hI1.done (fresh_keys (ks := []) rfl fk_nil)⟩
      exact congrArg (fun z => Ending.returned (.int .i64 z)) ((by simp only [decide_eq_true_eq, decide_eq_false_iff_not] at *; unfold least3 mn; (repeat' split) <;> omega))
set_option maxHeartbeats 4000000 in
theorem above_pur (a b : Int) (al : -9223372036854775808 ≤ a) (ar : a ≤ 9223372036854775807) (bl : -9223372036854775808 ≤ b) (br : b ≤ 9223372036854775807) : Pur Try.prog 22 [.int .i64 a, .int .i64 b] (.int .i64 (lessF a b)) := by
  intro w
  have hI1 := Inv.start w
  refine enter (n := 18) Try.func22 rfl rfl rfl ?_
  intro ac1 hf1
  refine code_seq ?_
  refine seq_start (l := [0]) rfl ?_
  refine seq_one (op_val (v := .int .i64 0) hf1 rfl rfl rfl rfl rfl rfl (r_assign rfl) fun ac2 hf2 => ?_)
  refine seq_end ?_
  clear ac1 hf1
  refine then_normal ?_
  refine code_seq ?_
  refine code_seq ?_
  refine seq_start (l := [0, 1, 2]) rfl ?_
  refine seq_one (op_val (v := .int .i64 a) hf2 rfl rfl rfl rfl rfl rfl (r_move rfl) fun ac3 hf3 => ?_)
  refine seq_one (op_val (v := .int .i64 b) hf3 rfl rfl rfl rfl rfl rfl (r_move rfl) fun ac4 hf4 => ?_)
  refine seq_one (op_val (v := .bool (decide (a ≤ b))) hf4 rfl rfl rfl rfl rfl rfl (r_leq rfl rfl) fun ac5 hf5 => ?_)
  refine seq_end ?_
  clear ac2 hf2 ac3 hf3 ac4 hf4
  refine then_normal ?_
  refine code_if hf5 rfl (fun c8_1 => ?_) (fun c8_1 => ?_)
  · have hf6 := hf5.know 8 (u := .bool true) rfl (congrArg Value.bool c8_1)
    refine code_seq ?_
    refine seq_start (l := [0]) rfl ?_
    refine seq_one (op_val (v := .int .i64 0) hf6 rfl rfl rfl rfl rfl rfl (r_assign rfl) fun ac6 hf7 => ?_)
    refine seq_end ?_
    clear hf5 ac5 hf6
    refine then_normal ?_
    refine wp_ret ?_
    refine then_ret ?_
    refine post1 rfl hf7 rfl ⟨?_, hI1.done (fresh_keys (ks := []) rfl fk_nil)⟩
    exact congrArg (fun z => Ending.returned (.int .i64 z)) ((by simp only [decide_eq_true_eq, decide_eq_false_iff_not, IntKind.wrap_i64, IntKind.wrap_u64] at *; unfold lessF; (repeat' split) <;> omega))
  · have hf8 := hf5.know 8 (u := .bool false) rfl (congrArg Value.bool c8_1)
    refine wp_skip ?_
    refine then_normal ?_
    refine code_seq ?_
    refine seq_start (l := [0, 1, 2, 3, 4, 5]) rfl ?_
    refine seq_one (op_val (v := .int .i64 a) hf8 rfl rfl rfl rfl rfl rfl (r_move rfl) fun ac7 hf9 => ?_)
    refine seq_one (op_val (v := .int .u64 (IntKind.wrap .u64 a)) hf9 rfl rfl rfl rfl rfl rfl (r_conv ui_3 ui_22 rfl rfl) fun ac8 hf10 => ?_)
    refine seq_one (op_val (v := .int .i64 b) hf10 rfl rfl rfl rfl rfl rfl (r_move rfl) fun ac9 hf11 => ?_)
    refine seq_one (op_val (v := .int .u64 (IntKind.wrap .u64 b)) hf11 rfl rfl rfl rfl rfl rfl (r_conv ui_3 ui_22 rfl rfl) fun ac10 hf12 => ?_)
    refine seq_one (op_val (v := .int .u64 (IntKind.wrap .u64 ((IntKind.wrap .u64 a) - (IntKind.wrap .u64 b)))) hf12 rfl rfl rfl rfl rfl rfl (r_sub rfl rfl rfl) fun ac11 hf13 => ?_)
    refine seq_one (op_val (v := .int .u64 (IntKind.wrap .u64 ((IntKind.wrap .u64 a) - (IntKind.wrap .u64 b)))) hf13 rfl rfl rfl rfl rfl rfl (r_assign rfl) fun ac12 hf14 => ?_)
    refine seq_end ?_
    clear hf5 ac5 hf8 ac7 hf9 ac8 hf10 ac9 hf11 ac10 hf12 ac11 hf13
    refine then_normal ?_
    refine code_seq ?_
    refine code_seq ?_
    refine seq_start (l := [0, 1]) rfl ?_
    refine seq_one (op_val (v := .int .u64 (IntKind.wrap .u64 ((IntKind.wrap .u64 a) - (IntKind.wrap .u64 b)))) hf14 rfl rfl rfl rfl rfl rfl (r_move rfl) fun ac13 hf15 => ?_)
    refine seq_one (op_val (v := .bool (decide ((IntKind.wrap .u64 ((IntKind.wrap .u64 a) - (IntKind.wrap .u64 b))) > 9223372036854775807))) hf15 rfl rfl rfl rfl rfl rfl (r_gtr rfl rfl) fun ac14 hf16 => ?_)
    refine seq_end ?_
    clear ac12 hf14 ac13 hf15
    refine then_normal ?_
    refine code_if hf16 rfl (fun c15_2 => ?_) (fun c15_2 => ?_)
    · have hf17 := hf16.know 15 (u := .bool true) rfl (congrArg Value.bool c15_2)
      refine code_seq ?_
      refine seq_start (l := [0]) rfl ?_
      refine seq_one (op_val (v := .int .i64 9223372036854775807) hf17 rfl rfl rfl rfl rfl rfl (r_assign rfl) fun ac15 hf18 => ?_)
      refine seq_end ?_
      clear hf16 ac14 hf17
      refine then_normal ?_
      refine wp_ret ?_
      refine then_ret ?_
      refine post1 rfl hf18 rfl ⟨?_, hI1.done (fresh_keys (ks := []) rfl fk_nil)⟩
      exact congrArg (fun z => Ending.returned (.int .i64 z)) ((by simp only [decide_eq_true_eq, decide_eq_false_iff_not, IntKind.wrap_i64, IntKind.wrap_u64] at *; unfold lessF; (repeat' split) <;> omega))
    · have hf19 := hf16.know 15 (u := .bool false) rfl (congrArg Value.bool c15_2)
      refine wp_skip ?_
      refine then_normal ?_
      refine code_seq ?_
      refine seq_start (l := [0, 1, 2]) rfl ?_
      refine seq_one (op_val (v := .int .u64 (IntKind.wrap .u64 ((IntKind.wrap .u64 a) - (IntKind.wrap .u64 b)))) hf19 rfl rfl rfl rfl rfl rfl (r_move rfl) fun ac16 hf20 => ?_)
      refine seq_one (op_val (v := .int .i64 (IntKind.wrap .i64 (IntKind.wrap .u64 ((IntKind.wrap .u64 a) - (IntKind.wrap .u64 b))))) hf20 rfl rfl rfl rfl rfl rfl (r_conv ui_22 ui_3 rfl rfl) fun ac17 hf21 => ?_)
      refine seq_one (op_val (v := .int .i64 (IntKind.wrap .i64 (IntKind.wrap .u64 ((IntKind.wrap .u64 a) - (IntKind.wrap .u64 b))))) hf21 rfl rfl rfl rfl rfl rfl (r_assign rfl) fun ac18 hf22 => ?_)
      refine seq_end ?_
      clear hf16 ac14 hf19 ac16 hf20 ac17 hf21
      refine then_normal ?_
      refine wp_ret ?_
      refine post1 rfl hf22 rfl ⟨?_, hI1.done (fresh_keys (ks := []) rfl fk_nil)⟩
      exact congrArg (fun z => Ending.returned (.int .i64 z)) ((by simp only [decide_eq_true_eq, decide_eq_false_iff_not, IntKind.wrap_i64, IntKind.wrap_u64] at *; unfold lessF; (repeat' split) <;> omega))
set_option maxHeartbeats 4000000 in
theorem plus_pur (a b : Int) (al : -9223372036854775808 ≤ a) (ar : a ≤ 9223372036854775807) (bl : -9223372036854775808 ≤ b) (br : b ≤ 9223372036854775807) : Pur Try.prog 24 [.int .i64 a, .int .i64 b] (.int .i64 (moreF a b)) := by
  intro w
  have hI1 := Inv.start w
  refine enter (n := 30) Try.func24 rfl rfl rfl ?_
  intro ac1 hf1
  refine code_seq ?_
  refine seq_start (l := [0]) rfl ?_
  refine seq_one (op_val (v := .int .i64 0) hf1 rfl rfl rfl rfl rfl rfl (r_assign rfl) fun ac2 hf2 => ?_)
  refine seq_end ?_
  clear ac1 hf1
  refine then_normal ?_
  refine code_seq ?_
  refine seq_start (l := [0, 1, 2, 3]) rfl ?_
  refine seq_one (op_val (v := .int .i64 a) hf2 rfl rfl rfl rfl rfl rfl (r_move rfl) fun ac3 hf3 => ?_)
  refine seq_one (op_val (v := .int .i64 b) hf3 rfl rfl rfl rfl rfl rfl (r_move rfl) fun ac4 hf4 => ?_)
  refine seq_one (op_val (v := .int .i64 (IntKind.wrap .i64 (a + b))) hf4 rfl rfl rfl rfl rfl rfl (r_add rfl rfl rfl) fun ac5 hf5 => ?_)
  refine seq_one (op_val (v := .int .i64 (IntKind.wrap .i64 (a + b))) hf5 rfl rfl rfl rfl rfl rfl (r_assign rfl) fun ac6 hf6 => ?_)
  refine seq_end ?_
  clear ac2 hf2 ac3 hf3 ac4 hf4 ac5 hf5
  refine then_normal ?_
  refine code_seq ?_
  refine code_seq ?_
  refine seq_start (l := [0, 1, 2, 3, 4, 5, 6, 7, 8, 9]) rfl ?_
  refine seq_one (op_val (v := .int .i64 a) hf6 rfl rfl rfl rfl rfl rfl (r_move rfl) fun ac7 hf7 => ?_)
  refine seq_one (op_val (v := .bool (decide (a > 0))) hf7 rfl rfl rfl rfl rfl rfl (r_gtr rfl rfl) fun ac8 hf8 => ?_)
  refine seq_one (op_val (v := .bool (decide (a > 0))) hf8 rfl rfl rfl rfl rfl rfl (r_move rfl) fun ac9 hf9 => ?_)
  rcases Bool.eq_false_or_eq_true (decide (a > 0) : Bool) with g11_1 | g11_1
  · have hf10 := hf9.know 11 (u := .bool true) rfl (congrArg Value.bool g11_1)
    refine seq_one (op_val (v := .int .i64 b) hf10 rfl rfl rfl rfl rfl rfl (r_move rfl) fun ac10 hf11 => ?_)
    refine seq_one (op_val (v := .bool (decide (b > 0))) hf11 rfl rfl rfl rfl rfl rfl (r_gtr rfl rfl) fun ac11 hf12 => ?_)
    refine seq_one (op_val (v := .bool (decide (b > 0))) hf12 rfl rfl rfl rfl rfl rfl (r_pickT rfl rfl) fun ac12 hf13 => ?_)
    refine seq_one (op_val (v := .bool (decide (b > 0))) hf13 rfl rfl rfl rfl rfl rfl (r_move rfl) fun ac13 hf14 => ?_)
    rcases Bool.eq_false_or_eq_true (decide (b > 0) : Bool) with g15_2 | g15_2
    · have hf15 := hf14.know 15 (u := .bool true) rfl (congrArg Value.bool g15_2)
      refine seq_one (op_val (v := .int .i64 (IntKind.wrap .i64 (a + b))) hf15 rfl rfl rfl rfl rfl rfl (r_move rfl) fun ac14 hf16 => ?_)
      refine seq_one (op_val (v := .bool (decide ((IntKind.wrap .i64 (a + b)) < 0))) hf16 rfl rfl rfl rfl rfl rfl (r_lss rfl rfl) fun ac15 hf17 => ?_)
      refine seq_one (op_val (v := .bool (decide ((IntKind.wrap .i64 (a + b)) < 0))) hf17 rfl rfl rfl rfl rfl rfl (r_pickT rfl rfl) fun ac16 hf18 => ?_)
      refine seq_end ?_
      clear ac6 hf6 ac7 hf7 ac8 hf8 hf9 ac9 hf10 ac10 hf11 ac11 hf12 ac12 hf13 hf14 ac13 hf15 ac14 hf16 ac15 hf17
      refine then_normal ?_
      refine code_if hf18 rfl (fun c18_3 => ?_) (fun c18_3 => ?_)
      · have hf19 := hf18.know 18 (u := .bool true) rfl (congrArg Value.bool c18_3)
        refine code_seq ?_
        refine seq_start (l := [0]) rfl ?_
        refine seq_one (op_val (v := .int .i64 9223372036854775807) hf19 rfl rfl rfl rfl rfl rfl (r_assign rfl) fun ac17 hf20 => ?_)
        refine seq_end ?_
        clear hf18 ac16 hf19
        refine then_normal ?_
        refine wp_ret ?_
        refine then_ret ?_
        refine post1 rfl hf20 rfl ⟨?_, hI1.done (fresh_keys (ks := []) rfl fk_nil)⟩
        exact congrArg (fun z => Ending.returned (.int .i64 z)) ((by simp only [decide_eq_true_eq, decide_eq_false_iff_not, IntKind.wrap_i64, IntKind.wrap_u64] at *; unfold moreF; (repeat' split) <;> omega))
      · have hf21 := hf18.know 18 (u := .bool false) rfl (congrArg Value.bool c18_3)
        refine wp_skip ?_
        refine then_normal ?_
        refine code_seq ?_
        refine code_seq ?_
        refine seq_start (l := [0, 1, 2, 3, 4, 5, 6, 7, 8, 9]) rfl ?_
        refine seq_one (op_val (v := .int .i64 a) hf21 rfl rfl rfl rfl rfl rfl (r_move rfl) fun ac18 hf22 => ?_)
        refine seq_one (op_val (v := .bool (decide (a < 0))) hf22 rfl rfl rfl rfl rfl rfl (r_lss rfl rfl) fun ac19 hf23 => ?_)
        refine seq_one (op_val (v := .bool (decide (a < 0))) hf23 rfl rfl rfl rfl rfl rfl (r_move rfl) fun ac20 hf24 => ?_)
        rcases Bool.eq_false_or_eq_true (decide (a < 0) : Bool) with g21_4 | g21_4
        · have hf25 := hf24.know 21 (u := .bool true) rfl (congrArg Value.bool g21_4)
          refine seq_one (op_val (v := .int .i64 b) hf25 rfl rfl rfl rfl rfl rfl (r_move rfl) fun ac21 hf26 => ?_)
          refine seq_one (op_val (v := .bool (decide (b < 0))) hf26 rfl rfl rfl rfl rfl rfl (r_lss rfl rfl) fun ac22 hf27 => ?_)
          refine seq_one (op_val (v := .bool (decide (b < 0))) hf27 rfl rfl rfl rfl rfl rfl (r_pickT rfl rfl) fun ac23 hf28 => ?_)
          refine seq_one (op_val (v := .bool (decide (b < 0))) hf28 rfl rfl rfl rfl rfl rfl (r_move rfl) fun ac24 hf29 => ?_)
          rcases Bool.eq_false_or_eq_true (decide (b < 0) : Bool) with g25_5 | g25_5
          · have hf30 := hf29.know 25 (u := .bool true) rfl (congrArg Value.bool g25_5)
            refine seq_one (op_val (v := .int .i64 (IntKind.wrap .i64 (a + b))) hf30 rfl rfl rfl rfl rfl rfl (r_move rfl) fun ac25 hf31 => ?_)
            refine seq_one (op_val (v := .bool (decide ((IntKind.wrap .i64 (a + b)) ≥ 0))) hf31 rfl rfl rfl rfl rfl rfl (r_geq rfl rfl) fun ac26 hf32 => ?_)
            refine seq_one (op_val (v := .bool (decide ((IntKind.wrap .i64 (a + b)) ≥ 0))) hf32 rfl rfl rfl rfl rfl rfl (r_pickT rfl rfl) fun ac27 hf33 => ?_)
            refine seq_end ?_
            clear hf18 ac16 hf21 ac18 hf22 ac19 hf23 hf24 ac20 hf25 ac21 hf26 ac22 hf27 ac23 hf28 hf29 ac24 hf30 ac25 hf31 ac26 hf32
            refine then_normal ?_
            refine code_if hf33 rfl (fun c28_6 => ?_) (fun c28_6 => ?_)
            · have hf34 := hf33.know 28 (u := .bool true) rfl (congrArg Value.bool c28_6)
              refine code_seq ?_
              refine seq_start (l := [0]) rfl ?_
              refine seq_one (op_val (v := .int .i64 (-9223372036854775808)) hf34 rfl rfl rfl rfl rfl rfl (r_assign rfl) fun ac28 hf35 => ?_)
              refine seq_end ?_
              clear hf33 ac27 hf34
              refine then_normal ?_
              refine wp_ret ?_
              refine then_ret ?_
              refine post1 rfl hf35 rfl ⟨?_, hI1.done (fresh_keys (ks := []) rfl fk_nil)⟩
              exact congrArg (fun z => Ending.returned (.int .i64 z)) ((by simp only [decide_eq_true_eq, decide_eq_false_iff_not, IntKind.wrap_i64, IntKind.wrap_u64] at *; unfold moreF; (repeat' split) <;> omega))
            · have hf36 := hf33.know 28 (u := .bool false) rfl (congrArg Value.bool c28_6)
              refine wp_skip ?_
              refine then_normal ?_
              refine code_seq ?_
              refine seq_start (l := [0, 1]) rfl ?_
              refine seq_one (op_val (v := .int .i64 (IntKind.wrap .i64 (a + b))) hf36 rfl rfl rfl rfl rfl rfl (r_move rfl) fun ac29 hf37 => ?_)
              refine seq_one (op_val (v := .int .i64 (IntKind.wrap .i64 (a + b))) hf37 rfl rfl rfl rfl rfl rfl (r_assign rfl) fun ac30 hf38 => ?_)
              refine seq_end ?_
              clear hf33 ac27 hf36 ac29 hf37
              refine then_normal ?_
              refine wp_ret ?_
              refine post1 rfl hf38 rfl ⟨?_, hI1.done (fresh_keys (ks := []) rfl fk_nil)⟩
              exact congrArg (fun z => Ending.returned (.int .i64 z)) ((by simp only [decide_eq_true_eq, decide_eq_false_iff_not, IntKind.wrap_i64, IntKind.wrap_u64] at *; unfold moreF; (repeat' split) <;> omega))
          · have hf39 := hf29.know 25 (u := .bool false) rfl (congrArg Value.bool g25_5)
            refine seq_one (op_skip hf39 rfl rfl rfl rfl fun ac31 hf40 => ?_)
            refine seq_one (op_skip hf40 rfl rfl rfl rfl fun ac32 hf41 => ?_)
            refine seq_one (op_val (v := .bool false) hf41 rfl rfl rfl rfl rfl rfl (r_pickF rfl rfl) fun ac33 hf42 => ?_)
            refine seq_end ?_
            clear hf18 ac16 hf21 ac18 hf22 ac19 hf23 hf24 ac20 hf25 ac21 hf26 ac22 hf27 ac23 hf28 hf29 ac24 hf39 ac31 hf40 ac32 hf41
            refine then_normal ?_
            refine code_if_false hf42 rfl ?_
            refine wp_skip ?_
            refine then_normal ?_
            refine code_seq ?_
            refine seq_start (l := [0, 1]) rfl ?_
            refine seq_one (op_val (v := .int .i64 (IntKind.wrap .i64 (a + b))) hf42 rfl rfl rfl rfl rfl rfl (r_move rfl) fun ac34 hf43 => ?_)
            refine seq_one (op_val (v := .int .i64 (IntKind.wrap .i64 (a + b))) hf43 rfl rfl rfl rfl rfl rfl (r_assign rfl) fun ac35 hf44 => ?_)
            refine seq_end ?_
            clear ac33 hf42 ac34 hf43
            refine then_normal ?_
            refine wp_ret ?_
            refine post1 rfl hf44 rfl ⟨?_, hI1.done (fresh_keys (ks := []) rfl fk_nil)⟩
            exact congrArg (fun z => Ending.returned (.int .i64 z)) ((by simp only [decide_eq_true_eq, decide_eq_false_iff_not, IntKind.wrap_i64, IntKind.wrap_u64] at *; unfold moreF; (repeat' split) <;> omega))
        · have hf45 := hf24.know 21 (u := .bool false) rfl (congrArg Value.bool g21_4)
          refine seq_one (op_skip hf45 rfl rfl rfl rfl fun ac36 hf46 => ?_)
          refine seq_one (op_skip hf46 rfl rfl rfl rfl fun ac37 hf47 => ?_)
          refine seq_one (op_val (v := .bool false) hf47 rfl rfl rfl rfl rfl rfl (r_pickF rfl rfl) fun ac38 hf48 => ?_)
          refine seq_one (op_val (v := .bool false) hf48 rfl rfl rfl rfl rfl rfl (r_move rfl) fun ac39 hf49 => ?_)
          refine seq_one (op_skip hf49 rfl rfl rfl rfl fun ac40 hf50 => ?_)
          refine seq_one (op_skip hf50 rfl rfl rfl rfl fun ac41 hf51 => ?_)
          refine seq_one (op_val (v := .bool false) hf51 rfl rfl rfl rfl rfl rfl (r_pickF rfl rfl) fun ac42 hf52 => ?_)
          refine seq_end ?_
          clear hf18 ac16 hf21 ac18 hf22 ac19 hf23 hf24 ac20 hf45 ac36 hf46 ac37 hf47 ac38 hf48 ac39 hf49 ac40 hf50 ac41 hf51
          refine then_normal ?_
          refine code_if_false hf52 rfl ?_
          refine wp_skip ?_
          refine then_normal ?_
          refine code_seq ?_
          refine seq_start (l := [0, 1]) rfl ?_
          refine seq_one (op_val (v := .int .i64 (IntKind.wrap .i64 (a + b))) hf52 rfl rfl rfl rfl rfl rfl (r_move rfl) fun ac43 hf53 => ?_)
          refine seq_one (op_val (v := .int .i64 (IntKind.wrap .i64 (a + b))) hf53 rfl rfl rfl rfl rfl rfl (r_assign rfl) fun ac44 hf54 => ?_)
          refine seq_end ?_
          clear ac42 hf52 ac43 hf53
          refine then_normal ?_
          refine wp_ret ?_
          refine post1 rfl hf54 rfl ⟨?_, hI1.done (fresh_keys (ks := []) rfl fk_nil)⟩
          exact congrArg (fun z => Ending.returned (.int .i64 z)) ((by simp only [decide_eq_true_eq, decide_eq_false_iff_not, IntKind.wrap_i64, IntKind.wrap_u64] at *; unfold moreF; (repeat' split) <;> omega))
    · have hf55 := hf14.know 15 (u := .bool false) rfl (congrArg Value.bool g15_2)
      refine seq_one (op_skip hf55 rfl rfl rfl rfl fun ac45 hf56 => ?_)
      refine seq_one (op_skip hf56 rfl rfl rfl rfl fun ac46 hf57 => ?_)
      refine seq_one (op_val (v := .bool false) hf57 rfl rfl rfl rfl rfl rfl (r_pickF rfl rfl) fun ac47 hf58 => ?_)
      refine seq_end ?_
      clear ac6 hf6 ac7 hf7 ac8 hf8 hf9 ac9 hf10 ac10 hf11 ac11 hf12 ac12 hf13 hf14 ac13 hf55 ac45 hf56 ac46 hf57
      refine then_normal ?_
      refine code_if_false hf58 rfl ?_
      refine wp_skip ?_
      refine then_normal ?_
      refine code_seq ?_
      refine code_seq ?_
      refine seq_start (l := [0, 1, 2, 3, 4, 5, 6, 7, 8, 9]) rfl ?_
      refine seq_one (op_val (v := .int .i64 a) hf58 rfl rfl rfl rfl rfl rfl (r_move rfl) fun ac48 hf59 => ?_)
      refine seq_one (op_val (v := .bool (decide (a < 0))) hf59 rfl rfl rfl rfl rfl rfl (r_lss rfl rfl) fun ac49 hf60 => ?_)
      refine seq_one (op_val (v := .bool (decide (a < 0))) hf60 rfl rfl rfl rfl rfl rfl (r_move rfl) fun ac50 hf61 => ?_)
      rcases Bool.eq_false_or_eq_true (decide (a < 0) : Bool) with g21_7 | g21_7
      · have hf62 := hf61.know 21 (u := .bool true) rfl (congrArg Value.bool g21_7)
        refine seq_one (op_val (v := .int .i64 b) hf62 rfl rfl rfl rfl rfl rfl (r_move rfl) fun ac51 hf63 => ?_)
        refine seq_one (op_val (v := .bool (decide (b < 0))) hf63 rfl rfl rfl rfl rfl rfl (r_lss rfl rfl) fun ac52 hf64 => ?_)
        refine seq_one (op_val (v := .bool (decide (b < 0))) hf64 rfl rfl rfl rfl rfl rfl (r_pickT rfl rfl) fun ac53 hf65 => ?_)
        refine seq_one (op_val (v := .bool (decide (b < 0))) hf65 rfl rfl rfl rfl rfl rfl (r_move rfl) fun ac54 hf66 => ?_)
        rcases Bool.eq_false_or_eq_true (decide (b < 0) : Bool) with g25_8 | g25_8
        · have hf67 := hf66.know 25 (u := .bool true) rfl (congrArg Value.bool g25_8)
          refine seq_one (op_val (v := .int .i64 (IntKind.wrap .i64 (a + b))) hf67 rfl rfl rfl rfl rfl rfl (r_move rfl) fun ac55 hf68 => ?_)
          refine seq_one (op_val (v := .bool (decide ((IntKind.wrap .i64 (a + b)) ≥ 0))) hf68 rfl rfl rfl rfl rfl rfl (r_geq rfl rfl) fun ac56 hf69 => ?_)
          refine seq_one (op_val (v := .bool (decide ((IntKind.wrap .i64 (a + b)) ≥ 0))) hf69 rfl rfl rfl rfl rfl rfl (r_pickT rfl rfl) fun ac57 hf70 => ?_)
          refine seq_end ?_
          clear ac47 hf58 ac48 hf59 ac49 hf60 hf61 ac50 hf62 ac51 hf63 ac52 hf64 ac53 hf65 hf66 ac54 hf67 ac55 hf68 ac56 hf69
          refine then_normal ?_
          refine code_if hf70 rfl (fun c28_9 => ?_) (fun c28_9 => ?_)
          · have hf71 := hf70.know 28 (u := .bool true) rfl (congrArg Value.bool c28_9)
            refine code_seq ?_
            refine seq_start (l := [0]) rfl ?_
            refine seq_one (op_val (v := .int .i64 (-9223372036854775808)) hf71 rfl rfl rfl rfl rfl rfl (r_assign rfl) fun ac58 hf72 => ?_)
            refine seq_end ?_
            clear hf70 ac57 hf71
            refine then_normal ?_
            refine wp_ret ?_
            refine then_ret ?_
            refine post1 rfl hf72 rfl ⟨?_, hI1.done (fresh_keys (ks := []) rfl fk_nil)⟩
            exact congrArg (fun z => Ending.returned (.int .i64 z)) ((by simp only [decide_eq_true_eq, decide_eq_false_iff_not, IntKind.wrap_i64, IntKind.wrap_u64] at *; unfold moreF; (repeat' split) <;> omega))
          · have hf73 := hf70.know 28 (u := .bool false) rfl (congrArg Value.bool c28_9)
            refine wp_skip ?_
            refine then_normal ?_
            refine code_seq ?_
            refine seq_start (l := [0, 1]) rfl ?_
            refine seq_one (op_val (v := .int .i64 (IntKind.wrap .i64 (a + b))) hf73 rfl rfl rfl rfl rfl rfl (r_move rfl) fun ac59 hf74 => ?_)
            refine seq_one (op_val (v := .int .i64 (IntKind.wrap .i64 (a + b))) hf74 rfl rfl rfl rfl rfl rfl (r_assign rfl) fun ac60 hf75 => ?_)
            refine seq_end ?_
            clear hf70 ac57 hf73 ac59 hf74
            refine then_normal ?_
            refine wp_ret ?_
            refine post1 rfl hf75 rfl ⟨?_, hI1.done (fresh_keys (ks := []) rfl fk_nil)⟩
            exact congrArg (fun z => Ending.returned (.int .i64 z)) ((by simp only [decide_eq_true_eq, decide_eq_false_iff_not, IntKind.wrap_i64, IntKind.wrap_u64] at *; unfold moreF; (repeat' split) <;> omega))
        · have hf76 := hf66.know 25 (u := .bool false) rfl (congrArg Value.bool g25_8)
          refine seq_one (op_skip hf76 rfl rfl rfl rfl fun ac61 hf77 => ?_)
          refine seq_one (op_skip hf77 rfl rfl rfl rfl fun ac62 hf78 => ?_)
          refine seq_one (op_val (v := .bool false) hf78 rfl rfl rfl rfl rfl rfl (r_pickF rfl rfl) fun ac63 hf79 => ?_)
          refine seq_end ?_
          clear ac47 hf58 ac48 hf59 ac49 hf60 hf61 ac50 hf62 ac51 hf63 ac52 hf64 ac53 hf65 hf66 ac54 hf76 ac61 hf77 ac62 hf78
          refine then_normal ?_
          refine code_if_false hf79 rfl ?_
          refine wp_skip ?_
          refine then_normal ?_
          refine code_seq ?_
          refine seq_start (l := [0, 1]) rfl ?_
          refine seq_one (op_val (v := .int .i64 (IntKind.wrap .i64 (a + b))) hf79 rfl rfl rfl rfl rfl rfl (r_move rfl) fun ac64 hf80 => ?_)
          refine seq_one (op_val (v := .int .i64 (IntKind.wrap .i64 (a + b))) hf80 rfl rfl rfl rfl rfl rfl (r_assign rfl) fun ac65 hf81 => ?_)
          refine seq_end ?_
          clear ac63 hf79 ac64 hf80
          refine then_normal ?_
          refine wp_ret ?_
          refine post1 rfl hf81 rfl ⟨?_, hI1.done (fresh_keys (ks := []) rfl fk_nil)⟩
          exact congrArg (fun z => Ending.returned (.int .i64 z)) ((by simp only [decide_eq_true_eq, decide_eq_false_iff_not, IntKind.wrap_i64, IntKind.wrap_u64] at *; unfold moreF; (repeat' split) <;> omega))
      · have hf82 := hf61.know 21 (u := .bool false) rfl (congrArg Value.bool g21_7)
        refine seq_one (op_skip hf82 rfl rfl rfl rfl fun ac66 hf83 => ?_)
        refine seq_one (op_skip hf83 rfl rfl rfl rfl fun ac67 hf84 => ?_)
        refine seq_one (op_val (v := .bool false) hf84 rfl rfl rfl rfl rfl rfl (r_pickF rfl rfl) fun ac68 hf85 => ?_)
        refine seq_one (op_val (v := .bool false) hf85 rfl rfl rfl rfl rfl rfl (r_move rfl) fun ac69 hf86 => ?_)
        refine seq_one (op_skip hf86 rfl rfl rfl rfl fun ac70 hf87 => ?_)
        refine seq_one (op_skip hf87 rfl rfl rfl rfl fun ac71 hf88 => ?_)
        refine seq_one (op_val (v := .bool false) hf88 rfl rfl rfl rfl rfl rfl (r_pickF rfl rfl) fun ac72 hf89 => ?_)
        refine seq_end ?_
        clear ac47 hf58 ac48 hf59 ac49 hf60 hf61 ac50 hf82 ac66 hf83 ac67 hf84 ac68 hf85 ac69 hf86 ac70 hf87 ac71 hf88
        refine then_normal ?_
        refine code_if_false hf89 rfl ?_
        refine wp_skip ?_
        refine then_normal ?_
        refine code_seq ?_
        refine seq_start (l := [0, 1]) rfl ?_
        refine seq_one (op_val (v := .int .i64 (IntKind.wrap .i64 (a + b))) hf89 rfl rfl rfl rfl rfl rfl (r_move rfl) fun ac73 hf90 => ?_)
        refine seq_one (op_val (v := .int .i64 (IntKind.wrap .i64 (a + b))) hf90 rfl rfl rfl rfl rfl rfl (r_assign rfl) fun ac74 hf91 => ?_)
        refine seq_end ?_
        clear ac72 hf89 ac73 hf90
        refine then_normal ?_
        refine wp_ret ?_
        refine post1 rfl hf91 rfl ⟨?_, hI1.done (fresh_keys (ks := []) rfl fk_nil)⟩
        exact congrArg (fun z => Ending.returned (.int .i64 z)) ((by simp only [decide_eq_true_eq, decide_eq_false_iff_not, IntKind.wrap_i64, IntKind.wrap_u64] at *; unfold moreF; (repeat' split) <;> omega))
  · have hf92 := hf9.know 11 (u := .bool false) rfl (congrArg Value.bool g11_1)
    refine seq_one (op_skip hf92 rfl rfl rfl rfl fun ac75 hf93 => ?_)
    refine seq_one (op_skip hf93 rfl rfl rfl rfl fun ac76 hf94 => ?_)
    refine seq_one (op_val (v := .bool false) hf94 rfl rfl rfl rfl rfl rfl (r_pickF rfl rfl) fun ac77 hf95 => ?_)
    refine seq_one (op_val (v := .bool false) hf95 rfl rfl rfl rfl rfl rfl (r_move rfl) fun ac78 hf96 => ?_)
    refine seq_one (op_skip hf96 rfl rfl rfl rfl fun ac79 hf97 => ?_)
    refine seq_one (op_skip hf97 rfl rfl rfl rfl fun ac80 hf98 => ?_)
    refine seq_one (op_val (v := .bool false) hf98 rfl rfl rfl rfl rfl rfl (r_pickF rfl rfl) fun ac81 hf99 => ?_)
    refine seq_end ?_
    clear ac6 hf6 ac7 hf7 ac8 hf8 hf9 ac9 hf92 ac75 hf93 ac76 hf94 ac77 hf95 ac78 hf96 ac79 hf97 ac80 hf98
    refine then_normal ?_
    refine code_if_false hf99 rfl ?_
    refine wp_skip ?_
    refine then_normal ?_
    refine code_seq ?_
    refine code_seq ?_
    refine seq_start (l := [0, 1, 2, 3, 4, 5, 6, 7, 8, 9]) rfl ?_
    refine seq_one (op_val (v := .int .i64 a) hf99 rfl rfl rfl rfl rfl rfl (r_move rfl) fun ac82 hf100 => ?_)
    refine seq_one (op_val (v := .bool (decide (a < 0))) hf100 rfl rfl rfl rfl rfl rfl (r_lss rfl rfl) fun ac83 hf101 => ?_)
    refine seq_one (op_val (v := .bool (decide (a < 0))) hf101 rfl rfl rfl rfl rfl rfl (r_move rfl) fun ac84 hf102 => ?_)
    rcases Bool.eq_false_or_eq_true (decide (a < 0) : Bool) with g21_10 | g21_10
    · have hf103 := hf102.know 21 (u := .bool true) rfl (congrArg Value.bool g21_10)
      refine seq_one (op_val (v := .int .i64 b) hf103 rfl rfl rfl rfl rfl rfl (r_move rfl) fun ac85 hf104 => ?_)
      refine seq_one (op_val (v := .bool (decide (b < 0))) hf104 rfl rfl rfl rfl rfl rfl (r_lss rfl rfl) fun ac86 hf105 => ?_)
      refine seq_one (op_val (v := .bool (decide (b < 0))) hf105 rfl rfl rfl rfl rfl rfl (r_pickT rfl rfl) fun ac87 hf106 => ?_)
      refine seq_one (op_val (v := .bool (decide (b < 0))) hf106 rfl rfl rfl rfl rfl rfl (r_move rfl) fun ac88 hf107 => ?_)
      rcases Bool.eq_false_or_eq_true (decide (b < 0) : Bool) with g25_11 | g25_11
      · have hf108 := hf107.know 25 (u := .bool true) rfl (congrArg Value.bool g25_11)
        refine seq_one (op_val (v := .int .i64 (IntKind.wrap .i64 (a + b))) hf108 rfl rfl rfl rfl rfl rfl (r_move rfl) fun ac89 hf109 => ?_)
        refine seq_one (op_val (v := .bool (decide ((IntKind.wrap .i64 (a + b)) ≥ 0))) hf109 rfl rfl rfl rfl rfl rfl (r_geq rfl rfl) fun ac90 hf110 => ?_)
        refine seq_one (op_val (v := .bool (decide ((IntKind.wrap .i64 (a + b)) ≥ 0))) hf110 rfl rfl rfl rfl rfl rfl (r_pickT rfl rfl) fun ac91 hf111 => ?_)
        refine seq_end ?_
        clear ac81 hf99 ac82 hf100 ac83 hf101 hf102 ac84 hf103 ac85 hf104 ac86 hf105 ac87 hf106 hf107 ac88 hf108 ac89 hf109 ac90 hf110
        refine then_normal ?_
        refine code_if hf111 rfl (fun c28_12 => ?_) (fun c28_12 => ?_)
        · have hf112 := hf111.know 28 (u := .bool true) rfl (congrArg Value.bool c28_12)
          refine code_seq ?_
          refine seq_start (l := [0]) rfl ?_
          refine seq_one (op_val (v := .int .i64 (-9223372036854775808)) hf112 rfl rfl rfl rfl rfl rfl (r_assign rfl) fun ac92 hf113 => ?_)
          refine seq_end ?_
          clear hf111 ac91 hf112
          refine then_normal ?_
          refine wp_ret ?_
          refine then_ret ?_
          refine post1 rfl hf113 rfl ⟨?_, hI1.done (fresh_keys (ks := []) rfl fk_nil)⟩
          exact congrArg (fun z => Ending.returned (.int .i64 z)) ((by simp only [decide_eq_true_eq, decide_eq_false_iff_not, IntKind.wrap_i64, IntKind.wrap_u64] at *; unfold moreF; (repeat' split) <;> omega))
        · have hf114 := hf111.know 28 (u := .bool false) rfl (congrArg Value.bool c28_12)
          refine wp_skip ?_
          refine then_normal ?_
          refine code_seq ?_
          refine seq_start (l := [0, 1]) rfl ?_
          refine seq_one (op_val (v := .int .i64 (IntKind.wrap .i64 (a + b))) hf114 rfl rfl rfl rfl rfl rfl (r_move rfl) fun ac93 hf115 => ?_)
          refine seq_one (op_val (v := .int .i64 (IntKind.wrap .i64 (a + b))) hf115 rfl rfl rfl rfl rfl rfl (r_assign rfl) fun ac94 hf116 => ?_)
          refine seq_end ?_
          clear hf111 ac91 hf114 ac93 hf115
          refine then_normal ?_
          refine wp_ret ?_
          refine post1 rfl hf116 rfl ⟨?_, hI1.done (fresh_keys (ks := []) rfl fk_nil)⟩
          exact congrArg (fun z => Ending.returned (.int .i64 z)) ((by simp only [decide_eq_true_eq, decide_eq_false_iff_not, IntKind.wrap_i64, IntKind.wrap_u64] at *; unfold moreF; (repeat' split) <;> omega))
      · have hf117 := hf107.know 25 (u := .bool false) rfl (congrArg Value.bool g25_11)
        refine seq_one (op_skip hf117 rfl rfl rfl rfl fun ac95 hf118 => ?_)
        refine seq_one (op_skip hf118 rfl rfl rfl rfl fun ac96 hf119 => ?_)
        refine seq_one (op_val (v := .bool false) hf119 rfl rfl rfl rfl rfl rfl (r_pickF rfl rfl) fun ac97 hf120 => ?_)
        refine seq_end ?_
        clear ac81 hf99 ac82 hf100 ac83 hf101 hf102 ac84 hf103 ac85 hf104 ac86 hf105 ac87 hf106 hf107 ac88 hf117 ac95 hf118 ac96 hf119
        refine then_normal ?_
        refine code_if_false hf120 rfl ?_
        refine wp_skip ?_
        refine then_normal ?_
        refine code_seq ?_
        refine seq_start (l := [0, 1]) rfl ?_
        refine seq_one (op_val (v := .int .i64 (IntKind.wrap .i64 (a + b))) hf120 rfl rfl rfl rfl rfl rfl (r_move rfl) fun ac98 hf121 => ?_)
        refine seq_one (op_val (v := .int .i64 (IntKind.wrap .i64 (a + b))) hf121 rfl rfl rfl rfl rfl rfl (r_assign rfl) fun ac99 hf122 => ?_)
        refine seq_end ?_
        clear ac97 hf120 ac98 hf121
        refine then_normal ?_
        refine wp_ret ?_
        refine post1 rfl hf122 rfl ⟨?_, hI1.done (fresh_keys (ks := []) rfl fk_nil)⟩
        exact congrArg (fun z => Ending.returned (.int .i64 z)) ((by simp only [decide_eq_true_eq, decide_eq_false_iff_not, IntKind.wrap_i64, IntKind.wrap_u64] at *; unfold moreF; (repeat' split) <;> omega))
    · have hf123 := hf102.know 21 (u := .bool false) rfl (congrArg Value.bool g21_10)
      refine seq_one (op_skip hf123 rfl rfl rfl rfl fun ac100 hf124 => ?_)
      refine seq_one (op_skip hf124 rfl rfl rfl rfl fun ac101 hf125 => ?_)
      refine seq_one (op_val (v := .bool false) hf125 rfl rfl rfl rfl rfl rfl (r_pickF rfl rfl) fun ac102 hf126 => ?_)
      refine seq_one (op_val (v := .bool false) hf126 rfl rfl rfl rfl rfl rfl (r_move rfl) fun ac103 hf127 => ?_)
      refine seq_one (op_skip hf127 rfl rfl rfl rfl fun ac104 hf128 => ?_)
      refine seq_one (op_skip hf128 rfl rfl rfl rfl fun ac105 hf129 => ?_)
      refine seq_one (op_val (v := .bool false) hf129 rfl rfl rfl rfl rfl rfl (r_pickF rfl rfl) fun ac106 hf130 => ?_)
      refine seq_end ?_
      clear ac81 hf99 ac82 hf100 ac83 hf101 hf102 ac84 hf123 ac100 hf124 ac101 hf125 ac102 hf126 ac103 hf127 ac104 hf128 ac105 hf129
      refine then_normal ?_
      refine code_if_false hf130 rfl ?_
      refine wp_skip ?_
      refine then_normal ?_
      refine code_seq ?_
      refine seq_start (l := [0, 1]) rfl ?_
      refine seq_one (op_val (v := .int .i64 (IntKind.wrap .i64 (a + b))) hf130 rfl rfl rfl rfl rfl rfl (r_move rfl) fun ac107 hf131 => ?_)
      refine seq_one (op_val (v := .int .i64 (IntKind.wrap .i64 (a + b))) hf131 rfl rfl rfl rfl rfl rfl (r_assign rfl) fun ac108 hf132 => ?_)
      refine seq_end ?_
      clear ac106 hf130 ac107 hf131
      refine then_normal ?_
      refine wp_ret ?_
      refine post1 rfl hf132 rfl ⟨?_, hI1.done (fresh_keys (ks := []) rfl fk_nil)⟩
      exact congrArg (fun z => Ending.returned (.int .i64 z)) ((by simp only [decide_eq_true_eq, decide_eq_false_iff_not, IntKind.wrap_i64, IntKind.wrap_u64] at *; unfold moreF; (repeat' split) <;> omega))
set_option maxHeartbeats 4000000 in
theorem pairs_pur (cs : Array Value) (r b f n0 n1 n2 : Int) (hc : LC cs r b f) : Pur Try.prog 19 [.agg cs, .agg #[.int .i64 n0, .int .i64 n1, .int .i64 n2]] (.agg #[.int .i64 n0, .int .i64 r, .int .u8 1, .int .i64 n1, .int .i64 b, .int .u8 2, .int .i64 n2, .int .i64 f, .int .u8 3]) := by
  intro w
  have hI1 := Inv.start w
  refine enter (n := 21) Try.func19 rfl rfl rfl ?_
  intro ac1 hf1
  refine code_seq ?_
  refine seq_start (l := [0, 1, 2]) rfl ?_
  refine seq_one (op_box hf1 rfl rfl rfl rfl hI1 fun ac2 b1 wd1 hb1 hI2 hf2 => ?_)
  have hI3 : Inv w [(b1, cs, 28)] wd1 := hI2
  refine seq_one (op_box hf2 rfl rfl rfl rfl hI3 fun ac3 b2 wd2 hb2 hI4 hf3 => ?_)
  have hI5 : Inv w [(b1, cs, 28), (b2, #[.int .i64 n0, .int .i64 n1, .int .i64 n2], 30)] wd2 := hI4
  refine seq_one (op_alloc hf3 rfl rfl rfl ze_48 hI5 fun ac4 b3 wd3 hb3 hI6 hf4 => ?_)
  have hI7 : Inv w [(b1, cs, 28), (b2, #[.int .i64 n0, .int .i64 n1, .int .i64 n2], 30), (b3, #[.int .i64 0, .int .i64 0, .int .u8 0, .int .i64 0, .int .i64 0, .int .u8 0, .int .i64 0, .int .i64 0, .int .u8 0], 48)] wd3 := hI6
  refine seq_end ?_
  clear ac1 hI1 hf1 hI2 ac2 wd1 hI3 hf2 hI4 ac3 wd2 hI5 hf3 hI6
  refine then_normal ?_
  refine code_seq ?_
  refine seq_start (l := [0, 1, 2, 3, 4, 5, 6, 7, 8, 9, 10, 11, 12, 13, 14, 15, 16]) rfl ?_
  refine seq_one (op_val (v := .pointer (some ⟨b2, 0, none⟩)) hf4 rfl rfl rfl rfl rfl rfl (r_fieldAddr fi_30_0 rfl rfl) fun ac5 hf5 => ?_)
  refine seq_one (op_val (v := .int .i64 n0) hf5 rfl rfl rfl rfl rfl rfl (r_load ag_3 rfl (hI7.at 1 rfl) rfl) fun ac6 hf6 => ?_)
  refine seq_one (op_val (v := .pointer (some ⟨b1, 0, none⟩)) hf6 rfl rfl rfl rfl rfl rfl (r_fieldAddr fi_28_0 rfl rfl) fun ac7 hf7 => ?_)
  refine seq_one (op_val (v := .int .i64 r) hf7 rfl rfl rfl rfl rfl rfl (r_load ag_3 rfl (hI7.at 0 rfl) hc.c0) fun ac8 hf8 => ?_)
  refine seq_one (op_val (v := .agg #[.int .i64 n0, .int .i64 r, .int .u8 1]) hf8 rfl rfl rfl rfl rfl rfl (r_build (v := .agg #[.int .i64 n0, .int .i64 r, .int .u8 1]) rfl (fun _ => by kernel_rfl)) fun ac9 hf9 => ?_)
  refine seq_one (op_val (v := .pointer (some ⟨b2, 1, none⟩)) hf9 rfl rfl rfl rfl rfl rfl (r_fieldAddr fi_30_1 rfl rfl) fun ac10 hf10 => ?_)
  refine seq_one (op_val (v := .int .i64 n1) hf10 rfl rfl rfl rfl rfl rfl (r_load ag_3 rfl (hI7.at 1 rfl) rfl) fun ac11 hf11 => ?_)
  refine seq_one (op_val (v := .pointer (some ⟨b1, 4, none⟩)) hf11 rfl rfl rfl rfl rfl rfl (r_fieldAddr fi_28_4 rfl rfl) fun ac12 hf12 => ?_)
  refine seq_one (op_val (v := .int .i64 b) hf12 rfl rfl rfl rfl rfl rfl (r_load ag_3 rfl (hI7.at 0 rfl) hc.c4) fun ac13 hf13 => ?_)
  refine seq_one (op_val (v := .agg #[.int .i64 n1, .int .i64 b, .int .u8 2]) hf13 rfl rfl rfl rfl rfl rfl (r_build (v := .agg #[.int .i64 n1, .int .i64 b, .int .u8 2]) rfl (fun _ => by kernel_rfl)) fun ac14 hf14 => ?_)
  refine seq_one (op_val (v := .pointer (some ⟨b2, 2, none⟩)) hf14 rfl rfl rfl rfl rfl rfl (r_fieldAddr fi_30_2 rfl rfl) fun ac15 hf15 => ?_)
  refine seq_one (op_val (v := .int .i64 n2) hf15 rfl rfl rfl rfl rfl rfl (r_load ag_3 rfl (hI7.at 1 rfl) rfl) fun ac16 hf16 => ?_)
  refine seq_one (op_val (v := .pointer (some ⟨b1, 3, none⟩)) hf16 rfl rfl rfl rfl rfl rfl (r_fieldAddr fi_28_3 rfl rfl) fun ac17 hf17 => ?_)
  refine seq_one (op_val (v := .int .i64 f) hf17 rfl rfl rfl rfl rfl rfl (r_load ag_3 rfl (hI7.at 0 rfl) hc.c3) fun ac18 hf18 => ?_)
  refine seq_one (op_val (v := .agg #[.int .i64 n2, .int .i64 f, .int .u8 3]) hf18 rfl rfl rfl rfl rfl rfl (r_build (v := .agg #[.int .i64 n2, .int .i64 f, .int .u8 3]) rfl (fun _ => by kernel_rfl)) fun ac19 hf19 => ?_)
  refine seq_one (op_val (v := .agg #[.int .i64 n0, .int .i64 r, .int .u8 1, .int .i64 n1, .int .i64 b, .int .u8 2, .int .i64 n2, .int .i64 f, .int .u8 3]) hf19 rfl rfl rfl rfl rfl rfl (r_build (v := .agg #[.int .i64 n0, .int .i64 r, .int .u8 1, .int .i64 n1, .int .i64 b, .int .u8 2, .int .i64 n2, .int .i64 f, .int .u8 3]) rfl (fun _ => by kernel_rfl)) fun ac20 hf20 => ?_)
  refine seq_one (op_storeW (cells := #[.int .i64 n0, .int .i64 r, .int .u8 1, .int .i64 n1, .int .i64 b, .int .u8 2, .int .i64 n2, .int .i64 f, .int .u8 3]) 2 hf20 rfl rfl rfl rfl rfl sz_48 rfl rfl hI7 rfl rfl fun wd4 hI8 => ?_)
  have hI9 : Inv w [(b1, cs, 28), (b2, #[.int .i64 n0, .int .i64 n1, .int .i64 n2], 30), (b3, #[.int .i64 n0, .int .i64 r, .int .u8 1, .int .i64 n1, .int .i64 b, .int .u8 2, .int .i64 n2, .int .i64 f, .int .u8 3], 48)] wd4 := hI8
  refine seq_end ?_
  clear ac4 hf4 ac5 hf5 ac6 hf6 ac7 hf7 ac8 hf8 ac9 hf9 ac10 hf10 ac11 hf11 ac12 hf12 ac13 hf13 ac14 hf14 ac15 hf15 ac16 hf16 ac17 hf17 ac18 hf18 ac19 hf19 wd3 hI7 hI8
  refine then_normal ?_
  refine wp_ret ?_
  refine postC rfl hf20 rfl ag_48 sz_48 (hI9.at 2 rfl) rfl ⟨?_, hI9.done (fresh_keys (ks := [b1, b2, b3]) rfl (fk_cons hb1 (fk_cons hb2 (fk_cons hb3 fk_nil))))⟩
  rfl
set_option maxHeartbeats 4000000 in
theorem why_pur (cs : Array Value) (r b f n0 n1 n2 : Int) (hc : LC cs r b f) : Pur Try.prog 8 [.agg cs, .agg #[.int .i64 n0, .int .i64 n1, .int .i64 n2]] (.int .u8 (whyF r b f n0 n1 n2)) := by
  intro w
  have hI1 := Inv.start w
  refine enter (n := 21) Try.func8 rfl rfl rfl ?_
  intro ac1 hf1
  refine code_seq ?_
  refine seq_start (l := [0, 1, 2]) rfl ?_
  refine seq_one (op_box hf1 rfl rfl rfl rfl hI1 fun ac2 b1 wd1 hb1 hI2 hf2 => ?_)
  have hI3 : Inv w [(b1, cs, 28)] wd1 := hI2
  refine seq_one (op_box hf2 rfl rfl rfl rfl hI3 fun ac3 b2 wd2 hb2 hI4 hf3 => ?_)
  have hI5 : Inv w [(b1, cs, 28), (b2, #[.int .i64 n0, .int .i64 n1, .int .i64 n2], 30)] wd2 := hI4
  refine seq_one (op_val (v := .int .u8 0) hf3 rfl rfl rfl rfl rfl rfl (r_assign rfl) fun ac4 hf4 => ?_)
  refine seq_end ?_
  clear ac1 hI1 hf1 hI2 ac2 wd1 hI3 hf2 hI4 ac3 hf3
  refine then_normal ?_
  refine code_seq ?_
  refine code_seq ?_
  refine seq_start (l := [0, 1, 2, 3]) rfl ?_
  refine seq_one (op_val (v := .agg cs) hf4 rfl rfl rfl rfl rfl rfl (r_loadW ag_28 sz_28 rfl (hI5.at 0 rfl) hc.size) fun ac5 hf5 => ?_)
  refine seq_one (op_val (v := .agg #[.int .i64 n0, .int .i64 n1, .int .i64 n2]) hf5 rfl rfl rfl rfl rfl rfl (r_loadW ag_30 sz_30 rfl (hI5.at 1 rfl) rfl) fun ac6 hf6 => ?_)
  refine seq_one (op_pure hf6 rfl rfl rfl rfl ca_19 (pairs_pur cs r b f n0 n1 n2 hc) hI5 fun ac7 wd3 hI6 hf7 => ?_)
  refine seq_one (op_val (v := .int .i64 0) hf7 rfl rfl rfl rfl rfl rfl (r_move rfl) fun ac8 hf8 => ?_)
  refine seq_end ?_
  clear ac4 hf4 ac5 hf5 ac6 wd2 hI5 hf6 ac7 hf7
  refine then_normal ?_
  refine wp_block ?_
  refine wp_loop_rounds 4 ?_
  refine rounds_go ?_
  refine code_seq ?_
  refine seq_start (l := [0]) rfl ?_
  refine seq_one (op_val (v := .bool true) hf8 rfl rfl rfl rfl rfl rfl (r_lssC rfl rfl (by decide)) fun ac9 hf9 => ?_)
  refine seq_end ?_
  clear ac8 hf8
  refine then_normal ?_
  refine code_seq ?_
  refine code_if_true hf9 rfl ?_
  refine wp_skip ?_
  refine then_normal ?_
  refine code_seq ?_
  refine wp_block ?_
  refine code_seq ?_
  refine seq_start (l := [0, 1, 2]) rfl ?_
  refine seq_one (op_val (v := .agg #[.int .i64 n0, .int .i64 r, .int .u8 1]) hf9 rfl rfl rfl rfl rfl rfl (r_indexA (i := 0) ar_48 ag_47 rfl rfl rfl (by decide) (by kernel_rfl)) fun ac10 hf10 => ?_)
  refine seq_one (op_alloc hf10 rfl rfl rfl ze_47 hI6 fun ac11 b3 wd4 hb3 hI7 hf11 => ?_)
  have hI8 : Inv w [(b1, cs, 28), (b2, #[.int .i64 n0, .int .i64 n1, .int .i64 n2], 30), (b3, #[.int .i64 0, .int .i64 0, .int .u8 0], 47)] wd4 := hI7
  refine seq_one (op_storeW (cells := #[.int .i64 n0, .int .i64 r, .int .u8 1]) 2 hf11 rfl rfl rfl rfl rfl sz_47 rfl rfl hI8 rfl rfl fun wd5 hI9 => ?_)
  have hI10 : Inv w [(b1, cs, 28), (b2, #[.int .i64 n0, .int .i64 n1, .int .i64 n2], 30), (b3, #[.int .i64 n0, .int .i64 r, .int .u8 1], 47)] wd5 := hI9
  refine seq_end ?_
  clear ac9 hf9 ac10 wd3 hI6 hf10 hI7 wd4 hI8 hI9
  refine then_normal ?_
  refine code_seq ?_
  refine seq_start (l := [0, 1, 2, 3, 4]) rfl ?_
  refine seq_one (op_val (v := .pointer (some ⟨b3, 0, none⟩)) hf11 rfl rfl rfl rfl rfl rfl (r_fieldAddr fi_47_0 rfl rfl) fun ac12 hf12 => ?_)
  refine seq_one (op_val (v := .int .i64 n0) hf12 rfl rfl rfl rfl rfl rfl (r_load ag_3 rfl (hI10.at 2 rfl) rfl) fun ac13 hf13 => ?_)
  refine seq_one (op_val (v := .pointer (some ⟨b3, 1, none⟩)) hf13 rfl rfl rfl rfl rfl rfl (r_fieldAddr fi_47_1 rfl rfl) fun ac14 hf14 => ?_)
  refine seq_one (op_val (v := .int .i64 r) hf14 rfl rfl rfl rfl rfl rfl (r_load ag_3 rfl (hI10.at 2 rfl) rfl) fun ac15 hf15 => ?_)
  refine seq_one (op_val (v := .bool (decide (n0 ≥ r))) hf15 rfl rfl rfl rfl rfl rfl (r_geq rfl rfl) fun ac16 hf16 => ?_)
  refine seq_end ?_
  clear ac11 hf11 ac12 hf12 ac13 hf13 ac14 hf14 ac15 hf15
  refine then_normal ?_
  refine code_if hf16 rfl (fun c17_1 => ?_) (fun c17_1 => ?_)
  · have hf17 := hf16.know 17 (u := .bool true) rfl (congrArg Value.bool c17_1)
    refine code_seq ?_
    refine seq_start (l := [0, 1, 2]) rfl ?_
    refine seq_one (op_val (v := .pointer (some ⟨b3, 2, none⟩)) hf17 rfl rfl rfl rfl rfl rfl (r_fieldAddr fi_47_2 rfl rfl) fun ac17 hf18 => ?_)
    refine seq_one (op_val (v := .int .u8 1) hf18 rfl rfl rfl rfl rfl rfl (r_load ag_5 rfl (hI10.at 2 rfl) rfl) fun ac18 hf19 => ?_)
    refine seq_one (op_val (v := .int .u8 1) hf19 rfl rfl rfl rfl rfl rfl (r_assign rfl) fun ac19 hf20 => ?_)
    refine seq_end ?_
    clear hf16 ac16 hf17 ac17 hf18 ac18 hf19
    refine then_normal ?_
    refine wp_ret ?_
    refine block_ret ?_
    refine then_ret ?_
    refine then_ret ?_
    refine block_ret ?_
    refine then_ret ?_
    refine post1 rfl hf20 rfl ⟨?_, hI10.done (fresh_keys (ks := [b1, b2, b3]) rfl (fk_cons hb1 (fk_cons hb2 (fk_cons hb3 fk_nil))))⟩
    exact congrArg (fun z => Ending.returned (.int .u8 z)) ((by simp only [decide_eq_true_eq, decide_eq_false_iff_not] at *; unfold whyF; (repeat' split) <;> omega))
  · have hf21 := hf16.know 17 (u := .bool false) rfl (congrArg Value.bool c17_1)
    refine wp_skip ?_
    refine block_normal ?_
    refine then_normal ?_
    refine seq_start (l := [0, 1]) rfl ?_
    refine seq_one (op_val (v := .int .i64 1) hf21 rfl rfl rfl rfl rfl rfl (r_add (c := 1) rfl rfl (by rfl)) fun ac20 hf22 => ?_)
    refine seq_one (op_val (v := .int .i64 1) hf22 rfl rfl rfl rfl rfl rfl (r_move rfl) fun ac21 hf23 => ?_)
    refine seq_end ?_
    clear hf16 ac16 hf21 ac20 hf22
    refine then_normal ?_
    refine rounds_go ?_
    refine code_seq ?_
    refine seq_start (l := [0]) rfl ?_
    refine seq_one (op_val (v := .bool true) hf23 rfl rfl rfl rfl rfl rfl (r_lssC rfl rfl (by decide)) fun ac22 hf24 => ?_)
    refine seq_end ?_
    clear ac21 hf23
    refine then_normal ?_
    refine code_seq ?_
    refine code_if_true hf24 rfl ?_
    refine wp_skip ?_
    refine then_normal ?_
    refine code_seq ?_
    refine wp_block ?_
    refine code_seq ?_
    refine seq_start (l := [0, 1, 2]) rfl ?_
    refine seq_one (op_val (v := .agg #[.int .i64 n1, .int .i64 b, .int .u8 2]) hf24 rfl rfl rfl rfl rfl rfl (r_indexA (i := 1) ar_48 ag_47 rfl rfl rfl (by decide) (by kernel_rfl)) fun ac23 hf25 => ?_)
    refine seq_one (op_alloc hf25 rfl rfl rfl ze_47 hI10 fun ac24 b4 wd6 hb4 hI11 hf26 => ?_)
    have hI12 : Inv w [(b1, cs, 28), (b2, #[.int .i64 n0, .int .i64 n1, .int .i64 n2], 30), (b3, #[.int .i64 n0, .int .i64 r, .int .u8 1], 47), (b4, #[.int .i64 0, .int .i64 0, .int .u8 0], 47)] wd6 := hI11
    refine seq_one (op_storeW (cells := #[.int .i64 n1, .int .i64 b, .int .u8 2]) 3 hf26 rfl rfl rfl rfl rfl sz_47 rfl rfl hI12 rfl rfl fun wd7 hI13 => ?_)
    have hI14 : Inv w [(b1, cs, 28), (b2, #[.int .i64 n0, .int .i64 n1, .int .i64 n2], 30), (b3, #[.int .i64 n0, .int .i64 r, .int .u8 1], 47), (b4, #[.int .i64 n1, .int .i64 b, .int .u8 2], 47)] wd7 := hI13
    refine seq_end ?_
    clear ac22 hf24 ac23 wd5 hI10 hf25 hI11 wd6 hI12 hI13
    refine then_normal ?_
    refine code_seq ?_
    refine seq_start (l := [0, 1, 2, 3, 4]) rfl ?_
    refine seq_one (op_val (v := .pointer (some ⟨b4, 0, none⟩)) hf26 rfl rfl rfl rfl rfl rfl (r_fieldAddr fi_47_0 rfl rfl) fun ac25 hf27 => ?_)
    refine seq_one (op_val (v := .int .i64 n1) hf27 rfl rfl rfl rfl rfl rfl (r_load ag_3 rfl (hI14.at 3 rfl) rfl) fun ac26 hf28 => ?_)
    refine seq_one (op_val (v := .pointer (some ⟨b4, 1, none⟩)) hf28 rfl rfl rfl rfl rfl rfl (r_fieldAddr fi_47_1 rfl rfl) fun ac27 hf29 => ?_)
    refine seq_one (op_val (v := .int .i64 b) hf29 rfl rfl rfl rfl rfl rfl (r_load ag_3 rfl (hI14.at 3 rfl) rfl) fun ac28 hf30 => ?_)
    refine seq_one (op_val (v := .bool (decide (n1 ≥ b))) hf30 rfl rfl rfl rfl rfl rfl (r_geq rfl rfl) fun ac29 hf31 => ?_)
    refine seq_end ?_
    clear ac24 hf26 ac25 hf27 ac26 hf28 ac27 hf29 ac28 hf30
    refine then_normal ?_
    refine code_if hf31 rfl (fun c17_2 => ?_) (fun c17_2 => ?_)
    · have hf32 := hf31.know 17 (u := .bool true) rfl (congrArg Value.bool c17_2)
      refine code_seq ?_
      refine seq_start (l := [0, 1, 2]) rfl ?_
      refine seq_one (op_val (v := .pointer (some ⟨b4, 2, none⟩)) hf32 rfl rfl rfl rfl rfl rfl (r_fieldAddr fi_47_2 rfl rfl) fun ac30 hf33 => ?_)
      refine seq_one (op_val (v := .int .u8 2) hf33 rfl rfl rfl rfl rfl rfl (r_load ag_5 rfl (hI14.at 3 rfl) rfl) fun ac31 hf34 => ?_)
      refine seq_one (op_val (v := .int .u8 2) hf34 rfl rfl rfl rfl rfl rfl (r_assign rfl) fun ac32 hf35 => ?_)
      refine seq_end ?_
      clear hf31 ac29 hf32 ac30 hf33 ac31 hf34
      refine then_normal ?_
      refine wp_ret ?_
      refine block_ret ?_
      refine then_ret ?_
      refine then_ret ?_
      refine block_ret ?_
      refine then_ret ?_
      refine post1 rfl hf35 rfl ⟨?_, hI14.done (fresh_keys (ks := [b1, b2, b3, b4]) rfl (fk_cons hb1 (fk_cons hb2 (fk_cons hb3 (fk_cons hb4 fk_nil)))))⟩
      exact congrArg (fun z => Ending.returned (.int .u8 z)) ((by simp only [decide_eq_true_eq, decide_eq_false_iff_not] at *; unfold whyF; (repeat' split) <;> omega))
    · have hf36 := hf31.know 17 (u := .bool false) rfl (congrArg Value.bool c17_2)
      refine wp_skip ?_
      refine block_normal ?_
      refine then_normal ?_
      refine seq_start (l := [0, 1]) rfl ?_
      refine seq_one (op_val (v := .int .i64 2) hf36 rfl rfl rfl rfl rfl rfl (r_add (c := 2) rfl rfl (by rfl)) fun ac33 hf37 => ?_)
      refine seq_one (op_val (v := .int .i64 2) hf37 rfl rfl rfl rfl rfl rfl (r_move rfl) fun ac34 hf38 => ?_)
      refine seq_end ?_
      clear hf31 ac29 hf36 ac33 hf37
      refine then_normal ?_
      refine rounds_go ?_
      refine code_seq ?_
      refine seq_start (l := [0]) rfl ?_
      refine seq_one (op_val (v := .bool true) hf38 rfl rfl rfl rfl rfl rfl (r_lssC rfl rfl (by decide)) fun ac35 hf39 => ?_)
      refine seq_end ?_
      clear ac34 hf38
      refine then_normal ?_
      refine code_seq ?_
      refine code_if_true hf39 rfl ?_
      refine wp_skip ?_
      refine then_normal ?_
      refine code_seq ?_
      refine wp_block ?_
      refine code_seq ?_
      refine seq_start (l := [0, 1, 2]) rfl ?_
      refine seq_one (op_val (v := .agg #[.int .i64 n2, .int .i64 f, .int .u8 3]) hf39 rfl rfl rfl rfl rfl rfl (r_indexA (i := 2) ar_48 ag_47 rfl rfl rfl (by decide) (by kernel_rfl)) fun ac36 hf40 => ?_)
      refine seq_one (op_alloc hf40 rfl rfl rfl ze_47 hI14 fun ac37 b5 wd8 hb5 hI15 hf41 => ?_)
      have hI16 : Inv w [(b1, cs, 28), (b2, #[.int .i64 n0, .int .i64 n1, .int .i64 n2], 30), (b3, #[.int .i64 n0, .int .i64 r, .int .u8 1], 47), (b4, #[.int .i64 n1, .int .i64 b, .int .u8 2], 47), (b5, #[.int .i64 0, .int .i64 0, .int .u8 0], 47)] wd8 := hI15
      refine seq_one (op_storeW (cells := #[.int .i64 n2, .int .i64 f, .int .u8 3]) 4 hf41 rfl rfl rfl rfl rfl sz_47 rfl rfl hI16 rfl rfl fun wd9 hI17 => ?_)
      have hI18 : Inv w [(b1, cs, 28), (b2, #[.int .i64 n0, .int .i64 n1, .int .i64 n2], 30), (b3, #[.int .i64 n0, .int .i64 r, .int .u8 1], 47), (b4, #[.int .i64 n1, .int .i64 b, .int .u8 2], 47), (b5, #[.int .i64 n2, .int .i64 f, .int .u8 3], 47)] wd9 := hI17
      refine seq_end ?_
      clear ac35 hf39 ac36 wd7 hI14 hf40 hI15 wd8 hI16 hI17
      refine then_normal ?_
      refine code_seq ?_
      refine seq_start (l := [0, 1, 2, 3, 4]) rfl ?_
      refine seq_one (op_val (v := .pointer (some ⟨b5, 0, none⟩)) hf41 rfl rfl rfl rfl rfl rfl (r_fieldAddr fi_47_0 rfl rfl) fun ac38 hf42 => ?_)
      refine seq_one (op_val (v := .int .i64 n2) hf42 rfl rfl rfl rfl rfl rfl (r_load ag_3 rfl (hI18.at 4 rfl) rfl) fun ac39 hf43 => ?_)
      refine seq_one (op_val (v := .pointer (some ⟨b5, 1, none⟩)) hf43 rfl rfl rfl rfl rfl rfl (r_fieldAddr fi_47_1 rfl rfl) fun ac40 hf44 => ?_)
      refine seq_one (op_val (v := .int .i64 f) hf44 rfl rfl rfl rfl rfl rfl (r_load ag_3 rfl (hI18.at 4 rfl) rfl) fun ac41 hf45 => ?_)
      refine seq_one (op_val (v := .bool (decide (n2 ≥ f))) hf45 rfl rfl rfl rfl rfl rfl (r_geq rfl rfl) fun ac42 hf46 => ?_)
      refine seq_end ?_
      clear ac37 hf41 ac38 hf42 ac39 hf43 ac40 hf44 ac41 hf45
      refine then_normal ?_
      refine code_if hf46 rfl (fun c17_3 => ?_) (fun c17_3 => ?_)
      · have hf47 := hf46.know 17 (u := .bool true) rfl (congrArg Value.bool c17_3)
        refine code_seq ?_
        refine seq_start (l := [0, 1, 2]) rfl ?_
        refine seq_one (op_val (v := .pointer (some ⟨b5, 2, none⟩)) hf47 rfl rfl rfl rfl rfl rfl (r_fieldAddr fi_47_2 rfl rfl) fun ac43 hf48 => ?_)
        refine seq_one (op_val (v := .int .u8 3) hf48 rfl rfl rfl rfl rfl rfl (r_load ag_5 rfl (hI18.at 4 rfl) rfl) fun ac44 hf49 => ?_)
        refine seq_one (op_val (v := .int .u8 3) hf49 rfl rfl rfl rfl rfl rfl (r_assign rfl) fun ac45 hf50 => ?_)
        refine seq_end ?_
        clear hf46 ac42 hf47 ac43 hf48 ac44 hf49
        refine then_normal ?_
        refine wp_ret ?_
        refine block_ret ?_
        refine then_ret ?_
        refine then_ret ?_
        refine block_ret ?_
        refine then_ret ?_
        refine post1 rfl hf50 rfl ⟨?_, hI18.done (fresh_keys (ks := [b1, b2, b3, b4, b5]) rfl (fk_cons hb1 (fk_cons hb2 (fk_cons hb3 (fk_cons hb4 (fk_cons hb5 fk_nil))))))⟩
        exact congrArg (fun z => Ending.returned (.int .u8 z)) ((by simp only [decide_eq_true_eq, decide_eq_false_iff_not] at *; unfold whyF; (repeat' split) <;> omega))
      · have hf51 := hf46.know 17 (u := .bool false) rfl (congrArg Value.bool c17_3)
        refine wp_skip ?_
        refine block_normal ?_
        refine then_normal ?_
        refine seq_start (l := [0, 1]) rfl ?_
        refine seq_one (op_val (v := .int .i64 3) hf51 rfl rfl rfl rfl rfl rfl (r_add (c := 3) rfl rfl (by rfl)) fun ac46 hf52 => ?_)
        refine seq_one (op_val (v := .int .i64 3) hf52 rfl rfl rfl rfl rfl rfl (r_move rfl) fun ac47 hf53 => ?_)
        refine seq_end ?_
        clear hf46 ac42 hf51 ac46 hf52
        refine then_normal ?_
        refine rounds_go ?_
        refine code_seq ?_
        refine seq_start (l := [0]) rfl ?_
        refine seq_one (op_val (v := .bool false) hf53 rfl rfl rfl rfl rfl rfl (r_lssC rfl rfl (by decide)) fun ac48 hf54 => ?_)
        refine seq_end ?_
        clear ac47 hf53
        refine then_normal ?_
        refine code_seq ?_
        refine code_if_false hf54 rfl ?_
        refine wp_exit ?_
        refine then_exit ?_
        refine then_exit ?_
        refine block_here ?_
        refine then_normal ?_
        refine code_seq ?_
        refine seq_start (l := [0]) rfl ?_
        refine seq_one (op_val (v := .int .u8 0) hf54 rfl rfl rfl rfl rfl rfl (r_assign rfl) fun ac49 hf55 => ?_)
        refine seq_end ?_
        clear ac48 hf54
        refine then_normal ?_
        refine wp_ret ?_
        refine post1 rfl hf55 rfl ⟨?_, hI18.done (fresh_keys (ks := [b1, b2, b3, b4, b5]) rfl (fk_cons hb1 (fk_cons hb2 (fk_cons hb3 (fk_cons hb4 (fk_cons hb5 fk_nil))))))⟩
        exact congrArg (fun z => Ending.returned (.int .u8 z)) ((by simp only [decide_eq_true_eq, decide_eq_false_iff_not] at *; unfold whyF; (repeat' split) <;> omega))
set_option maxHeartbeats 4000000 in
theorem whyR_pur (cs : Array Value) (r b f n0 n1 n2 : Int) (hc : LC cs r b f) : Pur Try.prog 9 [.agg cs, .agg #[.int .i64 n0, .int .i64 n1, .int .i64 n2]] (.int .u8 (whyF r b f n0 n1 n2)) := by
  intro w
  have hI1 := Inv.start w
  refine enter (n := 20) Try.func9 rfl rfl rfl ?_
  intro ac1 hf1
  refine code_seq ?_
  refine seq_start (l := [0, 1, 2]) rfl ?_
  refine seq_one (op_box hf1 rfl rfl rfl rfl hI1 fun ac2 b1 wd1 hb1 hI2 hf2 => ?_)
  have hI3 : Inv w [(b1, cs, 28)] wd1 := hI2
  refine seq_one (op_box hf2 rfl rfl rfl rfl hI3 fun ac3 b2 wd2 hb2 hI4 hf3 => ?_)
  have hI5 : Inv w [(b1, cs, 28), (b2, #[.int .i64 n0, .int .i64 n1, .int .i64 n2], 30)] wd2 := hI4
  refine seq_one (op_val (v := .int .u8 0) hf3 rfl rfl rfl rfl rfl rfl (r_assign rfl) fun ac4 hf4 => ?_)
  refine seq_end ?_
  clear ac1 hI1 hf1 hI2 ac2 wd1 hI3 hf2 hI4 ac3 hf3
  refine then_normal ?_
  refine code_seq ?_
  refine code_seq ?_
  refine seq_start (l := [0, 1, 2, 3, 4]) rfl ?_
  refine seq_one (op_val (v := .pointer (some ⟨b2, 0, none⟩)) hf4 rfl rfl rfl rfl rfl rfl (r_fieldAddr fi_30_0 rfl rfl) fun ac5 hf5 => ?_)
  refine seq_one (op_val (v := .int .i64 n0) hf5 rfl rfl rfl rfl rfl rfl (r_load ag_3 rfl (hI5.at 1 rfl) rfl) fun ac6 hf6 => ?_)
  refine seq_one (op_val (v := .pointer (some ⟨b1, 0, none⟩)) hf6 rfl rfl rfl rfl rfl rfl (r_fieldAddr fi_28_0 rfl rfl) fun ac7 hf7 => ?_)
  refine seq_one (op_val (v := .int .i64 r) hf7 rfl rfl rfl rfl rfl rfl (r_load ag_3 rfl (hI5.at 0 rfl) hc.c0) fun ac8 hf8 => ?_)
  refine seq_one (op_val (v := .bool (decide (n0 ≥ r))) hf8 rfl rfl rfl rfl rfl rfl (r_geq rfl rfl) fun ac9 hf9 => ?_)
  refine seq_end ?_
  clear ac4 hf4 ac5 hf5 ac6 hf6 ac7 hf7 ac8 hf8
  refine then_normal ?_
  refine code_if hf9 rfl (fun c9_1 => ?_) (fun c9_1 => ?_)
  · have hf10 := hf9.know 9 (u := .bool true) rfl (congrArg Value.bool c9_1)
    refine code_seq ?_
    refine seq_start (l := [0]) rfl ?_
    refine seq_one (op_val (v := .int .u8 1) hf10 rfl rfl rfl rfl rfl rfl (r_assign rfl) fun ac10 hf11 => ?_)
    refine seq_end ?_
    clear hf9 ac9 hf10
    refine then_normal ?_
    refine wp_ret ?_
    refine then_ret ?_
    refine post1 rfl hf11 rfl ⟨?_, hI5.done (fresh_keys (ks := [b1, b2]) rfl (fk_cons hb1 (fk_cons hb2 fk_nil)))⟩
    exact congrArg (fun z => Ending.returned (.int .u8 z)) ((by simp only [decide_eq_true_eq, decide_eq_false_iff_not] at *; unfold whyF; (repeat' split) <;> omega))
  · have hf12 := hf9.know 9 (u := .bool false) rfl (congrArg Value.bool c9_1)
    refine wp_skip ?_
    refine then_normal ?_
    refine code_seq ?_
    refine code_seq ?_
    refine seq_start (l := [0, 1, 2, 3, 4]) rfl ?_
    refine seq_one (op_val (v := .pointer (some ⟨b2, 1, none⟩)) hf12 rfl rfl rfl rfl rfl rfl (r_fieldAddr fi_30_1 rfl rfl) fun ac11 hf13 => ?_)
    refine seq_one (op_val (v := .int .i64 n1) hf13 rfl rfl rfl rfl rfl rfl (r_load ag_3 rfl (hI5.at 1 rfl) rfl) fun ac12 hf14 => ?_)
    refine seq_one (op_val (v := .pointer (some ⟨b1, 4, none⟩)) hf14 rfl rfl rfl rfl rfl rfl (r_fieldAddr fi_28_4 rfl rfl) fun ac13 hf15 => ?_)
    refine seq_one (op_val (v := .int .i64 b) hf15 rfl rfl rfl rfl rfl rfl (r_load ag_3 rfl (hI5.at 0 rfl) hc.c4) fun ac14 hf16 => ?_)
    refine seq_one (op_val (v := .bool (decide (n1 ≥ b))) hf16 rfl rfl rfl rfl rfl rfl (r_geq rfl rfl) fun ac15 hf17 => ?_)
    refine seq_end ?_
    clear hf9 ac9 hf12 ac11 hf13 ac12 hf14 ac13 hf15 ac14 hf16
    refine then_normal ?_
    refine code_if hf17 rfl (fun c14_2 => ?_) (fun c14_2 => ?_)
    · have hf18 := hf17.know 14 (u := .bool true) rfl (congrArg Value.bool c14_2)
      refine code_seq ?_
      refine seq_start (l := [0]) rfl ?_
      refine seq_one (op_val (v := .int .u8 2) hf18 rfl rfl rfl rfl rfl rfl (r_assign rfl) fun ac16 hf19 => ?_)
      refine seq_end ?_
      clear hf17 ac15 hf18
      refine then_normal ?_
      refine wp_ret ?_
      refine then_ret ?_
      refine post1 rfl hf19 rfl ⟨?_, hI5.done (fresh_keys (ks := [b1, b2]) rfl (fk_cons hb1 (fk_cons hb2 fk_nil)))⟩
      exact congrArg (fun z => Ending.returned (.int .u8 z)) ((by simp only [decide_eq_true_eq, decide_eq_false_iff_not] at *; unfold whyF; (repeat' split) <;> omega))
    · have hf20 := hf17.know 14 (u := .bool false) rfl (congrArg Value.bool c14_2)
      refine wp_skip ?_
      refine then_normal ?_
      refine code_seq ?_
      refine code_seq ?_
      refine seq_start (l := [0, 1, 2, 3, 4]) rfl ?_
      refine seq_one (op_val (v := .pointer (some ⟨b2, 2, none⟩)) hf20 rfl rfl rfl rfl rfl rfl (r_fieldAddr fi_30_2 rfl rfl) fun ac17 hf21 => ?_)
      refine seq_one (op_val (v := .int .i64 n2) hf21 rfl rfl rfl rfl rfl rfl (r_load ag_3 rfl (hI5.at 1 rfl) rfl) fun ac18 hf22 => ?_)
      refine seq_one (op_val (v := .pointer (some ⟨b1, 3, none⟩)) hf22 rfl rfl rfl rfl rfl rfl (r_fieldAddr fi_28_3 rfl rfl) fun ac19 hf23 => ?_)
      refine seq_one (op_val (v := .int .i64 f) hf23 rfl rfl rfl rfl rfl rfl (r_load ag_3 rfl (hI5.at 0 rfl) hc.c3) fun ac20 hf24 => ?_)
      refine seq_one (op_val (v := .bool (decide (n2 ≥ f))) hf24 rfl rfl rfl rfl rfl rfl (r_geq rfl rfl) fun ac21 hf25 => ?_)
      refine seq_end ?_
      clear hf17 ac15 hf20 ac17 hf21 ac18 hf22 ac19 hf23 ac20 hf24
      refine then_normal ?_
      refine code_if hf25 rfl (fun c19_3 => ?_) (fun c19_3 => ?_)
      · have hf26 := hf25.know 19 (u := .bool true) rfl (congrArg Value.bool c19_3)
        refine code_seq ?_
        refine seq_start (l := [0]) rfl ?_
        refine seq_one (op_val (v := .int .u8 3) hf26 rfl rfl rfl rfl rfl rfl (r_assign rfl) fun ac22 hf27 => ?_)
        refine seq_end ?_
        clear hf25 ac21 hf26
        refine then_normal ?_
        refine wp_ret ?_
        refine then_ret ?_
        refine post1 rfl hf27 rfl ⟨?_, hI5.done (fresh_keys (ks := [b1, b2]) rfl (fk_cons hb1 (fk_cons hb2 fk_nil)))⟩
        exact congrArg (fun z => Ending.returned (.int .u8 z)) ((by simp only [decide_eq_true_eq, decide_eq_false_iff_not] at *; unfold whyF; (repeat' split) <;> omega))
      · have hf28 := hf25.know 19 (u := .bool false) rfl (congrArg Value.bool c19_3)
        refine wp_skip ?_
        refine then_normal ?_
        refine code_seq ?_
        refine seq_start (l := [0]) rfl ?_
        refine seq_one (op_val (v := .int .u8 0) hf28 rfl rfl rfl rfl rfl rfl (r_assign rfl) fun ac23 hf29 => ?_)
        refine seq_end ?_
        clear hf25 ac21 hf28
        refine then_normal ?_
        refine wp_ret ?_
        refine post1 rfl hf29 rfl ⟨?_, hI5.done (fresh_keys (ks := [b1, b2]) rfl (fk_cons hb1 (fk_cons hb2 fk_nil)))⟩
        exact congrArg (fun z => Ending.returned (.int .u8 z)) ((by simp only [decide_eq_true_eq, decide_eq_false_iff_not] at *; unfold whyF; (repeat' split) <;> omega))
set_option maxHeartbeats 4000000 in
theorem left_pur (cs : Array Value) (r b f n0 n1 n2 : Int) (hc : LC cs r b f) (n0l : -9223372036854775808 ≤ n0) (n0r : n0 ≤ 9223372036854775807) (n1l : -9223372036854775808 ≤ n1) (n1r : n1 ≤ 9223372036854775807) (n2l : -9223372036854775808 ≤ n2) (n2r : n2 ≤ 9223372036854775807) : Pur Try.prog 10 [.agg cs, .agg #[.int .i64 n0, .int .i64 n1, .int .i64 n2]] (.int .i64 (leftF r b f n0 n1 n2)) := by
  intro w
  have hI1 := Inv.start w
  refine enter (n := 23) Try.func10 rfl rfl rfl ?_
  intro ac1 hf1
  refine code_seq ?_
  refine seq_start (l := [0, 1, 2]) rfl ?_
  refine seq_one (op_box hf1 rfl rfl rfl rfl hI1 fun ac2 b1 wd1 hb1 hI2 hf2 => ?_)
  have hI3 : Inv w [(b1, cs, 28)] wd1 := hI2
  refine seq_one (op_box hf2 rfl rfl rfl rfl hI3 fun ac3 b2 wd2 hb2 hI4 hf3 => ?_)
  have hI5 : Inv w [(b1, cs, 28), (b2, #[.int .i64 n0, .int .i64 n1, .int .i64 n2], 30)] wd2 := hI4
  refine seq_one (op_val (v := .int .i64 0) hf3 rfl rfl rfl rfl rfl rfl (r_assign rfl) fun ac4 hf4 => ?_)
  refine seq_end ?_
  clear ac1 hI1 hf1 hI2 ac2 wd1 hI3 hf2 hI4 ac3 hf3
  refine then_normal ?_
  refine code_seq ?_
  refine seq_start (l := [0]) rfl ?_
  refine seq_one (op_val (v := .int .i64 9223372036854775807) hf4 rfl rfl rfl rfl rfl rfl (r_assign rfl) fun ac5 hf5 => ?_)
  refine seq_end ?_
  clear ac4 hf4
  refine then_normal ?_
  refine code_seq ?_
  refine code_seq ?_
  refine seq_start (l := [0, 1, 2, 3]) rfl ?_
  refine seq_one (op_val (v := .agg cs) hf5 rfl rfl rfl rfl rfl rfl (r_loadW ag_28 sz_28 rfl (hI5.at 0 rfl) hc.size) fun ac6 hf6 => ?_)
  refine seq_one (op_val (v := .agg #[.int .i64 n0, .int .i64 n1, .int .i64 n2]) hf6 rfl rfl rfl rfl rfl rfl (r_loadW ag_30 sz_30 rfl (hI5.at 1 rfl) rfl) fun ac7 hf7 => ?_)
  refine seq_one (op_pure hf7 rfl rfl rfl rfl ca_19 (pairs_pur cs r b f n0 n1 n2 hc) hI5 fun ac8 wd3 hI6 hf8 => ?_)
  refine seq_one (op_val (v := .int .i64 0) hf8 rfl rfl rfl rfl rfl rfl (r_move rfl) fun ac9 hf9 => ?_)
  refine seq_end ?_
  clear ac5 hf5 ac6 hf6 ac7 wd2 hI5 hf7 ac8 hf8
  refine then_normal ?_
  refine wp_block ?_
  refine wp_loop_rounds 4 ?_
  refine rounds_go ?_
  refine code_seq ?_
  refine seq_start (l := [0]) rfl ?_
  refine seq_one (op_val (v := .bool true) hf9 rfl rfl rfl rfl rfl rfl (r_lssC rfl rfl (by decide)) fun ac10 hf10 => ?_)
  refine seq_end ?_
  clear ac9 hf9
  refine then_normal ?_
  refine code_seq ?_
  refine code_if_true hf10 rfl ?_
  refine wp_skip ?_
  refine then_normal ?_
  refine code_seq ?_
  refine wp_block ?_
  refine code_seq ?_
  refine seq_start (l := [0, 1, 2]) rfl ?_
  refine seq_one (op_val (v := .agg #[.int .i64 n0, .int .i64 r, .int .u8 1]) hf10 rfl rfl rfl rfl rfl rfl (r_indexA (i := 0) ar_48 ag_47 rfl rfl rfl (by decide) (by kernel_rfl)) fun ac11 hf11 => ?_)
  refine seq_one (op_alloc hf11 rfl rfl rfl ze_47 hI6 fun ac12 b3 wd4 hb3 hI7 hf12 => ?_)
  have hI8 : Inv w [(b1, cs, 28), (b2, #[.int .i64 n0, .int .i64 n1, .int .i64 n2], 30), (b3, #[.int .i64 0, .int .i64 0, .int .u8 0], 47)] wd4 := hI7
  refine seq_one (op_storeW (cells := #[.int .i64 n0, .int .i64 r, .int .u8 1]) 2 hf12 rfl rfl rfl rfl rfl sz_47 rfl rfl hI8 rfl rfl fun wd5 hI9 => ?_)
  have hI10 : Inv w [(b1, cs, 28), (b2, #[.int .i64 n0, .int .i64 n1, .int .i64 n2], 30), (b3, #[.int .i64 n0, .int .i64 r, .int .u8 1], 47)] wd5 := hI9
  refine seq_end ?_
  clear ac10 hf10 ac11 wd3 hI6 hf11 hI7 wd4 hI8 hI9
  refine then_normal ?_
  refine seq_start (l := [0, 1, 2, 3, 4, 5, 6, 7]) rfl ?_
  refine seq_one (op_val (v := .int .i64 9223372036854775807) hf12 rfl rfl rfl rfl rfl rfl (r_move rfl) fun ac13 hf13 => ?_)
  refine seq_one (op_val (v := .pointer (some ⟨b3, 1, none⟩)) hf13 rfl rfl rfl rfl rfl rfl (r_fieldAddr fi_47_1 rfl rfl) fun ac14 hf14 => ?_)
  refine seq_one (op_val (v := .int .i64 r) hf14 rfl rfl rfl rfl rfl rfl (r_load ag_3 rfl (hI10.at 2 rfl) rfl) fun ac15 hf15 => ?_)
  refine seq_one (op_val (v := .pointer (some ⟨b3, 0, none⟩)) hf15 rfl rfl rfl rfl rfl rfl (r_fieldAddr fi_47_0 rfl rfl) fun ac16 hf16 => ?_)
  refine seq_one (op_val (v := .int .i64 n0) hf16 rfl rfl rfl rfl rfl rfl (r_load ag_3 rfl (hI10.at 2 rfl) rfl) fun ac17 hf17 => ?_)
  refine seq_one (op_pure hf17 rfl rfl rfl rfl ca_20 (less_pur _ _ hc.rl hc.rr n0l n0r) hI10 fun ac18 wd6 hI11 hf18 => ?_)
  refine seq_one (op_val (v := .int .i64 (if (lessF r n0) < 9223372036854775807 then (lessF r n0) else 9223372036854775807)) hf18 rfl rfl rfl rfl rfl rfl (r_min rfl rfl) fun ac19 hf19 => ?_)
  refine seq_one (op_val (v := .int .i64 (if (lessF r n0) < 9223372036854775807 then (lessF r n0) else 9223372036854775807)) hf19 rfl rfl rfl rfl rfl rfl (r_assign rfl) fun ac20 hf20 => ?_)
  refine seq_end ?_
  clear ac12 hf12 ac13 hf13 ac14 hf14 ac15 hf15 ac16 hf16 ac17 wd5 hI10 hf17 ac18 hf18 ac19 hf19
  refine block_normal ?_
  refine then_normal ?_
  refine seq_start (l := [0, 1]) rfl ?_
  refine seq_one (op_val (v := .int .i64 1) hf20 rfl rfl rfl rfl rfl rfl (r_add (c := 1) rfl rfl (by rfl)) fun ac21 hf21 => ?_)
  refine seq_one (op_val (v := .int .i64 1) hf21 rfl rfl rfl rfl rfl rfl (r_move rfl) fun ac22 hf22 => ?_)
  refine seq_end ?_
  clear ac20 hf20 ac21 hf21
  refine then_normal ?_
  refine rounds_go ?_
  refine code_seq ?_
  refine seq_start (l := [0]) rfl ?_
  refine seq_one (op_val (v := .bool true) hf22 rfl rfl rfl rfl rfl rfl (r_lssC rfl rfl (by decide)) fun ac23 hf23 => ?_)
  refine seq_end ?_
  clear ac22 hf22
  refine then_normal ?_
  refine code_seq ?_
  refine code_if_true hf23 rfl ?_
  refine wp_skip ?_
  refine then_normal ?_
  refine code_seq ?_
  refine wp_block ?_
  refine code_seq ?_
  refine seq_start (l := [0, 1, 2]) rfl ?_
  refine seq_one (op_val (v := .agg #[.int .i64 n1, .int .i64 b, .int .u8 2]) hf23 rfl rfl rfl rfl rfl rfl (r_indexA (i := 1) ar_48 ag_47 rfl rfl rfl (by decide) (by kernel_rfl)) fun ac24 hf24 => ?_)
  refine seq_one (op_alloc hf24 rfl rfl rfl ze_47 hI11 fun ac25 b4 wd7 hb4 hI12 hf25 => ?_)
  have hI13 : Inv w [(b1, cs, 28), (b2, #[.int .i64 n0, .int .i64 n1, .int .i64 n2], 30), (b3, #[.int .i64 n0, .int .i64 r, .int .u8 1], 47), (b4, #[.int .i64 0, .int .i64 0, .int .u8 0], 47)] wd7 := hI12
  refine seq_one (op_storeW (cells := #[.int .i64 n1, .int .i64 b, .int .u8 2]) 3 hf25 rfl rfl rfl rfl rfl sz_47 rfl rfl hI13 rfl rfl fun wd8 hI14 => ?_)
  have hI15 : Inv w [(b1, cs, 28), (b2, #[.int .i64 n0, .int .i64 n1, .int .i64 n2], 30), (b3, #[.int .i64 n0, .int .i64 r, .int .u8 1], 47), (b4, #[.int .i64 n1, .int .i64 b, .int .u8 2], 47)] wd8 := hI14
  refine seq_end ?_
  clear ac23 hf23 ac24 wd6 hI11 hf24 hI12 wd7 hI13 hI14
  refine then_normal ?_
  refine seq_start (l := [0, 1, 2, 3, 4, 5, 6, 7]) rfl ?_
  refine seq_one (op_val (v := .int .i64 (if (lessF r n0) < 9223372036854775807 then (lessF r n0) else 9223372036854775807)) hf25 rfl rfl rfl rfl rfl rfl (r_move rfl) fun ac26 hf26 => ?_)
  refine seq_one (op_val (v := .pointer (some ⟨b4, 1, none⟩)) hf26 rfl rfl rfl rfl rfl rfl (r_fieldAddr fi_47_1 rfl rfl) fun ac27 hf27 => ?_)
  refine seq_one (op_val (v := .int .i64 b) hf27 rfl rfl rfl rfl rfl rfl (r_load ag_3 rfl (hI15.at 3 rfl) rfl) fun ac28 hf28 => ?_)
  refine seq_one (op_val (v := .pointer (some ⟨b4, 0, none⟩)) hf28 rfl rfl rfl rfl rfl rfl (r_fieldAddr fi_47_0 rfl rfl) fun ac29 hf29 => ?_)
  refine seq_one (op_val (v := .int .i64 n1) hf29 rfl rfl rfl rfl rfl rfl (r_load ag_3 rfl (hI15.at 3 rfl) rfl) fun ac30 hf30 => ?_)
  refine seq_one (op_pure hf30 rfl rfl rfl rfl ca_20 (less_pur _ _ hc.bl hc.br n1l n1r) hI15 fun ac31 wd9 hI16 hf31 => ?_)
  refine seq_one (op_val (v := .int .i64 (if (lessF b n1) < (if (lessF r n0) < 9223372036854775807 then (lessF r n0) else 9223372036854775807) then (lessF b n1) else (if (lessF r n0) < 9223372036854775807 then (lessF r n0) else 9223372036854775807))) hf31 rfl rfl rfl rfl rfl rfl (r_min rfl rfl) fun ac32 hf32 => ?_)
  refine seq_one (op_val (v := .int .i64 (if (lessF b n1) < (if (lessF r n0) < 9223372036854775807 then (lessF r n0) else 9223372036854775807) then (lessF b n1) else (if (lessF r n0) < 9223372036854775807 then (lessF r n0) else 9223372036854775807))) hf32 rfl rfl rfl rfl rfl rfl (r_assign rfl) fun ac33 hf33 => ?_)
  refine seq_end ?_
  clear ac25 hf25 ac26 hf26 ac27 hf27 ac28 hf28 ac29 hf29 ac30 wd8 hI15 hf30 ac31 hf31 ac32 hf32
  refine block_normal ?_
  refine then_normal ?_
  refine seq_start (l := [0, 1]) rfl ?_
  refine seq_one (op_val (v := .int .i64 2) hf33 rfl rfl rfl rfl rfl rfl (r_add (c := 2) rfl rfl (by rfl)) fun ac34 hf34 => ?_)
  refine seq_one (op_val (v := .int .i64 2) hf34 rfl rfl rfl rfl rfl rfl (r_move rfl) fun ac35 hf35 => ?_)
  refine seq_end ?_
  clear ac33 hf33 ac34 hf34
  refine then_normal ?_
  refine rounds_go ?_
  refine code_seq ?_
  refine seq_start (l := [0]) rfl ?_
  refine seq_one (op_val (v := .bool true) hf35 rfl rfl rfl rfl rfl rfl (r_lssC rfl rfl (by decide)) fun ac36 hf36 => ?_)
  refine seq_end ?_
  clear ac35 hf35
  refine then_normal ?_
  refine code_seq ?_
  refine code_if_true hf36 rfl ?_
  refine wp_skip ?_
  refine then_normal ?_
  refine code_seq ?_
  refine wp_block ?_
  refine code_seq ?_
  refine seq_start (l := [0, 1, 2]) rfl ?_
  refine seq_one (op_val (v := .agg #[.int .i64 n2, .int .i64 f, .int .u8 3]) hf36 rfl rfl rfl rfl rfl rfl (r_indexA (i := 2) ar_48 ag_47 rfl rfl rfl (by decide) (by kernel_rfl)) fun ac37 hf37 => ?_)
  refine seq_one (op_alloc hf37 rfl rfl rfl ze_47 hI16 fun ac38 b5 wd10 hb5 hI17 hf38 => ?_)
  have hI18 : Inv w [(b1, cs, 28), (b2, #[.int .i64 n0, .int .i64 n1, .int .i64 n2], 30), (b3, #[.int .i64 n0, .int .i64 r, .int .u8 1], 47), (b4, #[.int .i64 n1, .int .i64 b, .int .u8 2], 47), (b5, #[.int .i64 0, .int .i64 0, .int .u8 0], 47)] wd10 := hI17
  refine seq_one (op_storeW (cells := #[.int .i64 n2, .int .i64 f, .int .u8 3]) 4 hf38 rfl rfl rfl rfl rfl sz_47 rfl rfl hI18 rfl rfl fun wd11 hI19 => ?_)
  have hI20 : Inv w [(b1, cs, 28), (b2, #[.int .i64 n0, .int .i64 n1, .int .i64 n2], 30), (b3, #[.int .i64 n0, .int .i64 r, .int .u8 1], 47), (b4, #[.int .i64 n1, .int .i64 b, .int .u8 2], 47), (b5, #[.int .i64 n2, .int .i64 f, .int .u8 3], 47)] wd11 := hI19
  refine seq_end ?_
  clear ac36 hf36 ac37 wd9 hI16 hf37 hI17 wd10 hI18 hI19
  refine then_normal ?_
  refine seq_start (l := [0, 1, 2, 3, 4, 5, 6, 7]) rfl ?_
  refine seq_one (op_val (v := .int .i64 (if (lessF b n1) < (if (lessF r n0) < 9223372036854775807 then (lessF r n0) else 9223372036854775807) then (lessF b n1) else (if (lessF r n0) < 9223372036854775807 then (lessF r n0) else 9223372036854775807))) hf38 rfl rfl rfl rfl rfl rfl (r_move rfl) fun ac39 hf39 => ?_)
  refine seq_one (op_val (v := .pointer (some ⟨b5, 1, none⟩)) hf39 rfl rfl rfl rfl rfl rfl (r_fieldAddr fi_47_1 rfl rfl) fun ac40 hf40 => ?_)
  refine seq_one (op_val (v := .int .i64 f) hf40 rfl rfl rfl rfl rfl rfl (r_load ag_3 rfl (hI20.at 4 rfl) rfl) fun ac41 hf41 => ?_)
  refine seq_one (op_val (v := .pointer (some ⟨b5, 0, none⟩)) hf41 rfl rfl rfl rfl rfl rfl (r_fieldAddr fi_47_0 rfl rfl) fun ac42 hf42 => ?_)
  refine seq_one (op_val (v := .int .i64 n2) hf42 rfl rfl rfl rfl rfl rfl (r_load ag_3 rfl (hI20.at 4 rfl) rfl) fun ac43 hf43 => ?_)
  refine seq_one (op_pure hf43 rfl rfl rfl rfl ca_20 (less_pur _ _ hc.fl hc.fr n2l n2r) hI20 fun ac44 wd12 hI21 hf44 => ?_)
  refine seq_one (op_val (v := .int .i64 (if (lessF f n2) < (if (lessF b n1) < (if (lessF r n0) < 9223372036854775807 then (lessF r n0) else 9223372036854775807) then (lessF b n1) else (if (lessF r n0) < 9223372036854775807 then (lessF r n0) else 9223372036854775807)) then (lessF f n2) else (if (lessF b n1) < (if (lessF r n0) < 9223372036854775807 then (lessF r n0) else 9223372036854775807) then (lessF b n1) else (if (lessF r n0) < 9223372036854775807 then (lessF r n0) else 9223372036854775807)))) hf44 rfl rfl rfl rfl rfl rfl (r_min rfl rfl) fun ac45 hf45 => ?_)
  refine seq_one (op_val (v := .int .i64 (if (lessF f n2) < (if (lessF b n1) < (if (lessF r n0) < 9223372036854775807 then (lessF r n0) else 9223372036854775807) then (lessF b n1) else (if (lessF r n0) < 9223372036854775807 then (lessF r n0) else 9223372036854775807)) then (lessF f n2) else (if (lessF b n1) < (if (lessF r n0) < 9223372036854775807 then (lessF r n0) else 9223372036854775807) then (lessF b n1) else (if (lessF r n0) < 9223372036854775807 then (lessF r n0) else 9223372036854775807)))) hf45 rfl rfl rfl rfl rfl rfl (r_assign rfl) fun ac46 hf46 => ?_)
  refine seq_end ?_
  clear ac38 hf38 ac39 hf39 ac40 hf40 ac41 hf41 ac42 hf42 ac43 wd11 hI20 hf43 ac44 hf44 ac45 hf45
  refine block_normal ?_
  refine then_normal ?_
  refine seq_start (l := [0, 1]) rfl ?_
  refine seq_one (op_val (v := .int .i64 3) hf46 rfl rfl rfl rfl rfl rfl (r_add (c := 3) rfl rfl (by rfl)) fun ac47 hf47 => ?_)
  refine seq_one (op_val (v := .int .i64 3) hf47 rfl rfl rfl rfl rfl rfl (r_move rfl) fun ac48 hf48 => ?_)
  refine seq_end ?_
  clear ac46 hf46 ac47 hf47
  refine then_normal ?_
  refine rounds_go ?_
  refine code_seq ?_
  refine seq_start (l := [0]) rfl ?_
  refine seq_one (op_val (v := .bool false) hf48 rfl rfl rfl rfl rfl rfl (r_lssC rfl rfl (by decide)) fun ac49 hf49 => ?_)
  refine seq_end ?_
  clear ac48 hf48
  refine then_normal ?_
  refine code_seq ?_
  refine code_if_false hf49 rfl ?_
  refine wp_exit ?_
  refine then_exit ?_
  refine then_exit ?_
  refine block_here ?_
  refine then_normal ?_
  refine code_seq ?_
  refine seq_start (l := [0, 1]) rfl ?_
  refine seq_one (op_val (v := .int .i64 (if (lessF f n2) < (if (lessF b n1) < (if (lessF r n0) < 9223372036854775807 then (lessF r n0) else 9223372036854775807) then (lessF b n1) else (if (lessF r n0) < 9223372036854775807 then (lessF r n0) else 9223372036854775807)) then (lessF f n2) else (if (lessF b n1) < (if (lessF r n0) < 9223372036854775807 then (lessF r n0) else 9223372036854775807) then (lessF b n1) else (if (lessF r n0) < 9223372036854775807 then (lessF r n0) else 9223372036854775807)))) hf49 rfl rfl rfl rfl rfl rfl (r_move rfl) fun ac50 hf50 => ?_)
  refine seq_one (op_val (v := .int .i64 (if (lessF f n2) < (if (lessF b n1) < (if (lessF r n0) < 9223372036854775807 then (lessF r n0) else 9223372036854775807) then (lessF b n1) else (if (lessF r n0) < 9223372036854775807 then (lessF r n0) else 9223372036854775807)) then (lessF f n2) else (if (lessF b n1) < (if (lessF r n0) < 9223372036854775807 then (lessF r n0) else 9223372036854775807) then (lessF b n1) else (if (lessF r n0) < 9223372036854775807 then (lessF r n0) else 9223372036854775807)))) hf50 rfl rfl rfl rfl rfl rfl (r_assign rfl) fun ac51 hf51 => ?_)
  refine seq_end ?_
  clear ac49 hf49 ac50 hf50
  refine then_normal ?_
  refine wp_ret ?_
  refine post1 rfl hf51 rfl ⟨?_, hI21.done (fresh_keys (ks := [b1, b2, b3, b4, b5]) rfl (fk_cons hb1 (fk_cons hb2 (fk_cons hb3 (fk_cons hb4 (fk_cons hb5 fk_nil))))))⟩
  rfl
set_option maxHeartbeats 4000000 in
theorem leftR_pur (cs : Array Value) (r b f n0 n1 n2 : Int) (hc : LC cs r b f) (n0l : -9223372036854775808 ≤ n0) (n0r : n0 ≤ 9223372036854775807) (n1l : -9223372036854775808 ≤ n1) (n1r : n1 ≤ 9223372036854775807) (n2l : -9223372036854775808 ≤ n2) (n2r : n2 ≤ 9223372036854775807) : Pur Try.prog 11 [.agg cs, .agg #[.int .i64 n0, .int .i64 n1, .int .i64 n2]] (.int .i64 (leftF r b f n0 n1 n2)) := by
  intro w
  have hI1 := Inv.start w
  refine enter (n := 21) Try.func11 rfl rfl rfl ?_
  intro ac1 hf1
  refine code_seq ?_
  refine seq_start (l := [0, 1, 2]) rfl ?_
  refine seq_one (op_box hf1 rfl rfl rfl rfl hI1 fun ac2 b1 wd1 hb1 hI2 hf2 => ?_)
  have hI3 : Inv w [(b1, cs, 28)] wd1 := hI2
  refine seq_one (op_box hf2 rfl rfl rfl rfl hI3 fun ac3 b2 wd2 hb2 hI4 hf3 => ?_)
  have hI5 : Inv w [(b1, cs, 28), (b2, #[.int .i64 n0, .int .i64 n1, .int .i64 n2], 30)] wd2 := hI4
  refine seq_one (op_val (v := .int .i64 0) hf3 rfl rfl rfl rfl rfl rfl (r_assign rfl) fun ac4 hf4 => ?_)
  refine seq_end ?_
  clear ac1 hI1 hf1 hI2 ac2 wd1 hI3 hf2 hI4 ac3 hf3
  refine then_normal ?_
  refine code_seq ?_
  refine any_start (fun w => Has [(b1, cs, 28), (b2, #[.int .i64 n0, .int .i64 n1, .int .i64 n2], 30)] w) follows (Has.drew (Has.cons (hI5.at 0 rfl) (Has.cons (hI5.at 1 rfl) Has.nil))) ?_
  have hS1 : Has [(b1, cs, 28), (b2, #[.int .i64 n0, .int .i64 n1, .int .i64 n2], 30)] _ := Has.drew (Has.cons (hI5.at 0 rfl) (Has.cons (hI5.at 1 rfl) Has.nil))
  have hI6 := hI5.drew
  refine any_val (i := 0) (v := .pointer (some ⟨b1, 0, none⟩)) hf4 rfl rfl rfl rfl rfl rfl (fun _ _ _ h => h) (by kernel_rfl) (by kernel_rfl) (by kernel_rfl) (fun wd2 hS1 => (r_fieldAddr fi_28_0 rfl rfl)) hS1 fun ac5 hf5 => ?_
  refine any_val (i := 1) (v := .int .i64 r) hf5 rfl rfl rfl rfl rfl rfl (fun _ _ _ h => h) (by kernel_rfl) (by kernel_rfl) (by kernel_rfl) (fun wd2 hS1 => (r_load ag_3 rfl (hS1.at 0 rfl) hc.c0)) hS1 fun ac6 hf6 => ?_
  refine any_val (i := 2) (v := .pointer (some ⟨b2, 0, none⟩)) hf6 rfl rfl rfl rfl rfl rfl (fun _ _ _ h => h) (by kernel_rfl) (by kernel_rfl) (by kernel_rfl) (fun wd2 hS1 => (r_fieldAddr fi_30_0 rfl rfl)) hS1 fun ac7 hf7 => ?_
  refine any_val (i := 3) (v := .int .i64 n0) hf7 rfl rfl rfl rfl rfl rfl (fun _ _ _ h => h) (by kernel_rfl) (by kernel_rfl) (by kernel_rfl) (fun wd2 hS1 => (r_load ag_3 rfl (hS1.at 1 rfl) rfl)) hS1 fun ac8 hf8 => ?_
  refine any_val (i := 5) (v := .pointer (some ⟨b1, 4, none⟩)) hf8 rfl rfl rfl rfl rfl rfl (fun _ _ _ h => h) (by kernel_rfl) (by kernel_rfl) (by kernel_rfl) (fun wd2 hS1 => (r_fieldAddr fi_28_4 rfl rfl)) hS1 fun ac9 hf9 => ?_
  refine any_val (i := 6) (v := .int .i64 b) hf9 rfl rfl rfl rfl rfl rfl (fun _ _ _ h => h) (by kernel_rfl) (by kernel_rfl) (by kernel_rfl) (fun wd2 hS1 => (r_load ag_3 rfl (hS1.at 0 rfl) hc.c4)) hS1 fun ac10 hf10 => ?_
  refine any_val (i := 7) (v := .pointer (some ⟨b2, 1, none⟩)) hf10 rfl rfl rfl rfl rfl rfl (fun _ _ _ h => h) (by kernel_rfl) (by kernel_rfl) (by kernel_rfl) (fun wd2 hS1 => (r_fieldAddr fi_30_1 rfl rfl)) hS1 fun ac11 hf11 => ?_
  refine any_val (i := 8) (v := .int .i64 n1) hf11 rfl rfl rfl rfl rfl rfl (fun _ _ _ h => h) (by kernel_rfl) (by kernel_rfl) (by kernel_rfl) (fun wd2 hS1 => (r_load ag_3 rfl (hS1.at 1 rfl) rfl)) hS1 fun ac12 hf12 => ?_
  refine any_val (i := 10) (v := .pointer (some ⟨b1, 3, none⟩)) hf12 rfl rfl rfl rfl rfl rfl (fun _ _ _ h => h) (by kernel_rfl) (by kernel_rfl) (by kernel_rfl) (fun wd2 hS1 => (r_fieldAddr fi_28_3 rfl rfl)) hS1 fun ac13 hf13 => ?_
  refine any_val (i := 11) (v := .int .i64 f) hf13 rfl rfl rfl rfl rfl rfl (fun _ _ _ h => h) (by kernel_rfl) (by kernel_rfl) (by kernel_rfl) (fun wd2 hS1 => (r_load ag_3 rfl (hS1.at 0 rfl) hc.c3)) hS1 fun ac14 hf14 => ?_
  refine any_val (i := 12) (v := .pointer (some ⟨b2, 2, none⟩)) hf14 rfl rfl rfl rfl rfl rfl (fun _ _ _ h => h) (by kernel_rfl) (by kernel_rfl) (by kernel_rfl) (fun wd2 hS1 => (r_fieldAddr fi_30_2 rfl rfl)) hS1 fun ac15 hf15 => ?_
  refine any_val (i := 13) (v := .int .i64 n2) hf15 rfl rfl rfl rfl rfl rfl (fun _ _ _ h => h) (by kernel_rfl) (by kernel_rfl) (by kernel_rfl) (fun wd2 hS1 => (r_load ag_3 rfl (hS1.at 1 rfl) rfl)) hS1 fun ac16 hf16 => ?_
  refine any_one (i := 4) (by kernel_rfl) ?_
  refine (op_pure hf16 rfl rfl rfl rfl ca_22 (above_pur _ _ hc.rl hc.rr n0l n0r) hI6 fun ac17 wd3 hI7 hf17 => ⟨?_, ?_⟩)
  · exact (Has.cons (hI7.at 0 rfl) (Has.cons (hI7.at 1 rfl) Has.nil))
  have hS2 : Has [(b1, cs, 28), (b2, #[.int .i64 n0, .int .i64 n1, .int .i64 n2], 30)] _ := (Has.cons (hI7.at 0 rfl) (Has.cons (hI7.at 1 rfl) Has.nil))
  refine any_one (i := 9) (by kernel_rfl) ?_
  refine (op_pure hf17 rfl rfl rfl rfl ca_22 (above_pur _ _ hc.bl hc.br n1l n1r) hI7 fun ac18 wd4 hI8 hf18 => ⟨?_, ?_⟩)
  · exact (Has.cons (hI8.at 0 rfl) (Has.cons (hI8.at 1 rfl) Has.nil))
  have hS3 : Has [(b1, cs, 28), (b2, #[.int .i64 n0, .int .i64 n1, .int .i64 n2], 30)] _ := (Has.cons (hI8.at 0 rfl) (Has.cons (hI8.at 1 rfl) Has.nil))
  refine any_one (i := 14) (by kernel_rfl) ?_
  refine (op_pure hf18 rfl rfl rfl rfl ca_22 (above_pur _ _ hc.fl hc.fr n2l n2r) hI8 fun ac19 wd5 hI9 hf19 => ⟨?_, ?_⟩)
  · exact (Has.cons (hI9.at 0 rfl) (Has.cons (hI9.at 1 rfl) Has.nil))
  have hS4 : Has [(b1, cs, 28), (b2, #[.int .i64 n0, .int .i64 n1, .int .i64 n2], 30)] _ := (Has.cons (hI9.at 0 rfl) (Has.cons (hI9.at 1 rfl) Has.nil))
  refine any_one (i := 15) (by kernel_rfl) ?_
  refine (op_pure hf19 rfl rfl rfl rfl ca_21 (least_pur _ _ _) hI9 fun ac20 wd6 hI10 hf20 => ⟨?_, ?_⟩)
  · exact (Has.cons (hI10.at 0 rfl) (Has.cons (hI10.at 1 rfl) Has.nil))
  have hS5 : Has [(b1, cs, 28), (b2, #[.int .i64 n0, .int .i64 n1, .int .i64 n2], 30)] _ := (Has.cons (hI10.at 0 rfl) (Has.cons (hI10.at 1 rfl) Has.nil))
  refine any_val (i := 16) (v := .int .i64 (least3 (lessF r n0) (lessF b n1) (lessF f n2))) hf20 rfl rfl rfl rfl rfl rfl (fun _ _ _ h => h) (by kernel_rfl) (by kernel_rfl) (by kernel_rfl) (fun wd6 hS5 => (r_assign rfl)) hS5 fun ac21 hf21 => ?_
  refine any_end (by kernel_rfl) ?_
  clear hI5 ac4 hf4 ac5 hf5 ac6 hf6 ac7 hf7 ac8 hf8 ac9 hf9 ac10 hf10 ac11 hf11 ac12 hf12 ac13 hf13 ac14 hf14 ac15 hf15 ac16 wd2 hI6 hf16 hS1 ac17 wd3 hI7 hf17 hS2 ac18 wd4 hI8 hf18 hS3 ac19 wd5 hI9 hf19 hS4 ac20 hf20 hS5
  refine then_normal ?_
  refine wp_ret ?_
  refine post1 rfl hf21 rfl ⟨?_, hI10.done (fresh_keys (ks := [b1, b2]) rfl (fk_cons hb1 (fk_cons hb2 fk_nil)))⟩
  exact congrArg (fun z => Ending.returned (.int .i64 z)) ((by have h0 := lessF_range (a := r) (b := n0) hc.rr; have h1 := lessF_range (a := b) (b := n1) hc.br; have h2 := lessF_range (a := f) (b := n2) hc.fr; unfold leftF least3 mn; (repeat' split) <;> omega))
set_option maxHeartbeats 4000000 in
theorem with_pur (n0 n1 n2 m : Int) (n0l : -9223372036854775808 ≤ n0) (n0r : n0 ≤ 9223372036854775807) (n1l : -9223372036854775808 ≤ n1) (n1r : n1 ≤ 9223372036854775807) (n2l : -9223372036854775808 ≤ n2) (n2r : n2 ≤ 9223372036854775807) (ml : -9223372036854775808 ≤ m) (mr : m ≤ 9223372036854775807) : Pur Try.prog 12 [.agg #[.int .i64 n0, .int .i64 n1, .int .i64 n2], .int .i64 m] (.agg #[.int .i64 (moreF n0 m), .int .i64 (moreF n1 m), .int .i64 (moreF n2 m)]) := by
  intro w
  have hI1 := Inv.start w
  refine enter (n := 18) Try.func12 rfl rfl rfl ?_
  intro ac1 hf1
  refine code_seq ?_
  refine seq_start (l := [0, 1]) rfl ?_
  refine seq_one (op_box hf1 rfl rfl rfl rfl hI1 fun ac2 b1 wd1 hb1 hI2 hf2 => ?_)
  have hI3 : Inv w [(b1, #[.int .i64 n0, .int .i64 n1, .int .i64 n2], 30)] wd1 := hI2
  refine seq_one (op_alloc hf2 rfl rfl rfl ze_30 hI3 fun ac3 b2 wd2 hb2 hI4 hf3 => ?_)
  have hI5 : Inv w [(b1, #[.int .i64 n0, .int .i64 n1, .int .i64 n2], 30), (b2, #[.int .i64 0, .int .i64 0, .int .i64 0], 30)] wd2 := hI4
  refine seq_end ?_
  clear ac1 hI1 hf1 hI2 ac2 wd1 hI3 hf2 hI4
  refine then_normal ?_
  refine code_seq ?_
  refine any_start (fun w => Has [(b1, #[.int .i64 n0, .int .i64 n1, .int .i64 n2], 30)] w) follows (Has.drew (Has.cons (hI5.at 0 rfl) Has.nil)) ?_
  have hS1 : Has [(b1, #[.int .i64 n0, .int .i64 n1, .int .i64 n2], 30)] _ := Has.drew (Has.cons (hI5.at 0 rfl) Has.nil)
  have hI6 := hI5.drew
  refine any_val (i := 0) (v := .pointer (some ⟨b1, 0, none⟩)) hf3 rfl rfl rfl rfl rfl rfl (fun _ _ _ h => h) (by kernel_rfl) (by kernel_rfl) (by kernel_rfl) (fun wd2 hS1 => (r_fieldAddr fi_30_0 rfl rfl)) hS1 fun ac4 hf4 => ?_
  refine any_val (i := 1) (v := .int .i64 n0) hf4 rfl rfl rfl rfl rfl rfl (fun _ _ _ h => h) (by kernel_rfl) (by kernel_rfl) (by kernel_rfl) (fun wd2 hS1 => (r_load ag_3 rfl (hS1.at 0 rfl) rfl)) hS1 fun ac5 hf5 => ?_
  refine any_val (i := 2) (v := .int .i64 m) hf5 rfl rfl rfl rfl rfl rfl (fun _ _ _ h => h) (by kernel_rfl) (by kernel_rfl) (by kernel_rfl) (fun wd2 hS1 => (r_move rfl)) hS1 fun ac6 hf6 => ?_
  refine any_val (i := 4) (v := .pointer (some ⟨b1, 1, none⟩)) hf6 rfl rfl rfl rfl rfl rfl (fun _ _ _ h => h) (by kernel_rfl) (by kernel_rfl) (by kernel_rfl) (fun wd2 hS1 => (r_fieldAddr fi_30_1 rfl rfl)) hS1 fun ac7 hf7 => ?_
  refine any_val (i := 5) (v := .int .i64 n1) hf7 rfl rfl rfl rfl rfl rfl (fun _ _ _ h => h) (by kernel_rfl) (by kernel_rfl) (by kernel_rfl) (fun wd2 hS1 => (r_load ag_3 rfl (hS1.at 0 rfl) rfl)) hS1 fun ac8 hf8 => ?_
  refine any_val (i := 6) (v := .int .i64 m) hf8 rfl rfl rfl rfl rfl rfl (fun _ _ _ h => h) (by kernel_rfl) (by kernel_rfl) (by kernel_rfl) (fun wd2 hS1 => (r_move rfl)) hS1 fun ac9 hf9 => ?_
  refine any_val (i := 8) (v := .pointer (some ⟨b1, 2, none⟩)) hf9 rfl rfl rfl rfl rfl rfl (fun _ _ _ h => h) (by kernel_rfl) (by kernel_rfl) (by kernel_rfl) (fun wd2 hS1 => (r_fieldAddr fi_30_2 rfl rfl)) hS1 fun ac10 hf10 => ?_
  refine any_val (i := 9) (v := .int .i64 n2) hf10 rfl rfl rfl rfl rfl rfl (fun _ _ _ h => h) (by kernel_rfl) (by kernel_rfl) (by kernel_rfl) (fun wd2 hS1 => (r_load ag_3 rfl (hS1.at 0 rfl) rfl)) hS1 fun ac11 hf11 => ?_
  refine any_val (i := 10) (v := .int .i64 m) hf11 rfl rfl rfl rfl rfl rfl (fun _ _ _ h => h) (by kernel_rfl) (by kernel_rfl) (by kernel_rfl) (fun wd2 hS1 => (r_move rfl)) hS1 fun ac12 hf12 => ?_
  refine any_one (i := 3) (by kernel_rfl) ?_
  refine (op_pure hf12 rfl rfl rfl rfl ca_23 (more_pur _ _ n0l n0r ml mr) hI6 fun ac13 wd3 hI7 hf13 => ⟨?_, ?_⟩)
  · exact (Has.cons (hI7.at 0 rfl) Has.nil)
  have hS2 : Has [(b1, #[.int .i64 n0, .int .i64 n1, .int .i64 n2], 30)] _ := (Has.cons (hI7.at 0 rfl) Has.nil)
  refine any_one (i := 7) (by kernel_rfl) ?_
  refine (op_pure hf13 rfl rfl rfl rfl ca_23 (more_pur _ _ n1l n1r ml mr) hI7 fun ac14 wd4 hI8 hf14 => ⟨?_, ?_⟩)
  · exact (Has.cons (hI8.at 0 rfl) Has.nil)
  have hS3 : Has [(b1, #[.int .i64 n0, .int .i64 n1, .int .i64 n2], 30)] _ := (Has.cons (hI8.at 0 rfl) Has.nil)
  refine any_one (i := 11) (by kernel_rfl) ?_
  refine (op_pure hf14 rfl rfl rfl rfl ca_23 (more_pur _ _ n2l n2r ml mr) hI8 fun ac15 wd5 hI9 hf15 => ⟨?_, ?_⟩)
  · exact (Has.cons (hI9.at 0 rfl) Has.nil)
  have hS4 : Has [(b1, #[.int .i64 n0, .int .i64 n1, .int .i64 n2], 30)] _ := (Has.cons (hI9.at 0 rfl) Has.nil)
  refine any_val (i := 12) (v := .agg #[.int .i64 (moreF n0 m), .int .i64 (moreF n1 m), .int .i64 (moreF n2 m)]) hf15 rfl rfl rfl rfl rfl rfl (fun _ _ _ h => h) (by kernel_rfl) (by kernel_rfl) (by kernel_rfl) (fun wd5 hS4 => (r_build (v := .agg #[.int .i64 (moreF n0 m), .int .i64 (moreF n1 m), .int .i64 (moreF n2 m)]) rfl (fun _ => by kernel_rfl))) hS4 fun ac16 hf16 => ?_
  refine any_one (i := 13) (by kernel_rfl) ?_
  refine (op_storeW (cells := #[.int .i64 (moreF n0 m), .int .i64 (moreF n1 m), .int .i64 (moreF n2 m)]) 1 hf16 rfl rfl rfl rfl rfl sz_30 rfl rfl hI9 rfl rfl fun wd6 hI10 => ⟨?_, ?_⟩)
  · exact (Has.cons (hI10.at 0 rfl) Has.nil)
  have hI11 : Inv w [(b1, #[.int .i64 n0, .int .i64 n1, .int .i64 n2], 30), (b2, #[.int .i64 (moreF n0 m), .int .i64 (moreF n1 m), .int .i64 (moreF n2 m)], 30)] wd6 := hI10
  have hS5 : Has [(b1, #[.int .i64 n0, .int .i64 n1, .int .i64 n2], 30)] _ := (Has.cons (hI11.at 0 rfl) Has.nil)
  refine any_end (by kernel_rfl) ?_
  clear hI5 ac3 hf3 ac4 hf4 ac5 hf5 ac6 hf6 ac7 hf7 ac8 hf8 ac9 hf9 ac10 hf10 ac11 hf11 ac12 wd2 hI6 hf12 hS1 ac13 wd3 hI7 hf13 hS2 ac14 wd4 hI8 hf14 hS3 ac15 hf15 wd5 hI9 hI10 hS4 hS5
  refine then_normal ?_
  refine wp_ret ?_
  refine postC rfl hf16 rfl ag_30 sz_30 (hI11.at 1 rfl) rfl ⟨?_, hI11.done (fresh_keys (ks := [b1, b2]) rfl (fk_cons hb1 (fk_cons hb2 fk_nil)))⟩
  rfl
set_option maxHeartbeats 4000000 in
theorem withR_pur (n0 n1 n2 m : Int) (n0l : -9223372036854775808 ≤ n0) (n0r : n0 ≤ 9223372036854775807) (n1l : -9223372036854775808 ≤ n1) (n1r : n1 ≤ 9223372036854775807) (n2l : -9223372036854775808 ≤ n2) (n2r : n2 ≤ 9223372036854775807) (ml : -9223372036854775808 ≤ m) (mr : m ≤ 9223372036854775807) : Pur Try.prog 13 [.agg #[.int .i64 n0, .int .i64 n1, .int .i64 n2], .int .i64 m] (.agg #[.int .i64 (moreF n0 m), .int .i64 (moreF n1 m), .int .i64 (moreF n2 m)]) := by
  intro w
  have hI1 := Inv.start w
  refine enter (n := 18) Try.func13 rfl rfl rfl ?_
  intro ac1 hf1
  refine code_seq ?_
  refine seq_start (l := [0, 1]) rfl ?_
  refine seq_one (op_box hf1 rfl rfl rfl rfl hI1 fun ac2 b1 wd1 hb1 hI2 hf2 => ?_)
  have hI3 : Inv w [(b1, #[.int .i64 n0, .int .i64 n1, .int .i64 n2], 30)] wd1 := hI2
  refine seq_one (op_alloc hf2 rfl rfl rfl ze_30 hI3 fun ac3 b2 wd2 hb2 hI4 hf3 => ?_)
  have hI5 : Inv w [(b1, #[.int .i64 n0, .int .i64 n1, .int .i64 n2], 30), (b2, #[.int .i64 0, .int .i64 0, .int .i64 0], 30)] wd2 := hI4
  refine seq_end ?_
  clear ac1 hI1 hf1 hI2 ac2 wd1 hI3 hf2 hI4
  refine then_normal ?_
  refine code_seq ?_
  refine any_start (fun w => Has [(b1, #[.int .i64 n0, .int .i64 n1, .int .i64 n2], 30)] w) follows (Has.drew (Has.cons (hI5.at 0 rfl) Has.nil)) ?_
  have hS1 : Has [(b1, #[.int .i64 n0, .int .i64 n1, .int .i64 n2], 30)] _ := Has.drew (Has.cons (hI5.at 0 rfl) Has.nil)
  have hI6 := hI5.drew
  refine any_val (i := 0) (v := .pointer (some ⟨b1, 0, none⟩)) hf3 rfl rfl rfl rfl rfl rfl (fun _ _ _ h => h) (by kernel_rfl) (by kernel_rfl) (by kernel_rfl) (fun wd2 hS1 => (r_fieldAddr fi_30_0 rfl rfl)) hS1 fun ac4 hf4 => ?_
  refine any_val (i := 1) (v := .int .i64 n0) hf4 rfl rfl rfl rfl rfl rfl (fun _ _ _ h => h) (by kernel_rfl) (by kernel_rfl) (by kernel_rfl) (fun wd2 hS1 => (r_load ag_3 rfl (hS1.at 0 rfl) rfl)) hS1 fun ac5 hf5 => ?_
  refine any_val (i := 2) (v := .int .i64 m) hf5 rfl rfl rfl rfl rfl rfl (fun _ _ _ h => h) (by kernel_rfl) (by kernel_rfl) (by kernel_rfl) (fun wd2 hS1 => (r_move rfl)) hS1 fun ac6 hf6 => ?_
  refine any_val (i := 4) (v := .pointer (some ⟨b1, 1, none⟩)) hf6 rfl rfl rfl rfl rfl rfl (fun _ _ _ h => h) (by kernel_rfl) (by kernel_rfl) (by kernel_rfl) (fun wd2 hS1 => (r_fieldAddr fi_30_1 rfl rfl)) hS1 fun ac7 hf7 => ?_
  refine any_val (i := 5) (v := .int .i64 n1) hf7 rfl rfl rfl rfl rfl rfl (fun _ _ _ h => h) (by kernel_rfl) (by kernel_rfl) (by kernel_rfl) (fun wd2 hS1 => (r_load ag_3 rfl (hS1.at 0 rfl) rfl)) hS1 fun ac8 hf8 => ?_
  refine any_val (i := 6) (v := .int .i64 m) hf8 rfl rfl rfl rfl rfl rfl (fun _ _ _ h => h) (by kernel_rfl) (by kernel_rfl) (by kernel_rfl) (fun wd2 hS1 => (r_move rfl)) hS1 fun ac9 hf9 => ?_
  refine any_val (i := 8) (v := .pointer (some ⟨b1, 2, none⟩)) hf9 rfl rfl rfl rfl rfl rfl (fun _ _ _ h => h) (by kernel_rfl) (by kernel_rfl) (by kernel_rfl) (fun wd2 hS1 => (r_fieldAddr fi_30_2 rfl rfl)) hS1 fun ac10 hf10 => ?_
  refine any_val (i := 9) (v := .int .i64 n2) hf10 rfl rfl rfl rfl rfl rfl (fun _ _ _ h => h) (by kernel_rfl) (by kernel_rfl) (by kernel_rfl) (fun wd2 hS1 => (r_load ag_3 rfl (hS1.at 0 rfl) rfl)) hS1 fun ac11 hf11 => ?_
  refine any_val (i := 10) (v := .int .i64 m) hf11 rfl rfl rfl rfl rfl rfl (fun _ _ _ h => h) (by kernel_rfl) (by kernel_rfl) (by kernel_rfl) (fun wd2 hS1 => (r_move rfl)) hS1 fun ac12 hf12 => ?_
  refine any_one (i := 3) (by kernel_rfl) ?_
  refine (op_pure hf12 rfl rfl rfl rfl ca_24 (plus_pur _ _ n0l n0r ml mr) hI6 fun ac13 wd3 hI7 hf13 => ⟨?_, ?_⟩)
  · exact (Has.cons (hI7.at 0 rfl) Has.nil)
  have hS2 : Has [(b1, #[.int .i64 n0, .int .i64 n1, .int .i64 n2], 30)] _ := (Has.cons (hI7.at 0 rfl) Has.nil)
  refine any_one (i := 7) (by kernel_rfl) ?_
  refine (op_pure hf13 rfl rfl rfl rfl ca_24 (plus_pur _ _ n1l n1r ml mr) hI7 fun ac14 wd4 hI8 hf14 => ⟨?_, ?_⟩)
  · exact (Has.cons (hI8.at 0 rfl) Has.nil)
  have hS3 : Has [(b1, #[.int .i64 n0, .int .i64 n1, .int .i64 n2], 30)] _ := (Has.cons (hI8.at 0 rfl) Has.nil)
  refine any_one (i := 11) (by kernel_rfl) ?_
  refine (op_pure hf14 rfl rfl rfl rfl ca_24 (plus_pur _ _ n2l n2r ml mr) hI8 fun ac15 wd5 hI9 hf15 => ⟨?_, ?_⟩)
  · exact (Has.cons (hI9.at 0 rfl) Has.nil)
  have hS4 : Has [(b1, #[.int .i64 n0, .int .i64 n1, .int .i64 n2], 30)] _ := (Has.cons (hI9.at 0 rfl) Has.nil)
  refine any_val (i := 12) (v := .agg #[.int .i64 (moreF n0 m), .int .i64 (moreF n1 m), .int .i64 (moreF n2 m)]) hf15 rfl rfl rfl rfl rfl rfl (fun _ _ _ h => h) (by kernel_rfl) (by kernel_rfl) (by kernel_rfl) (fun wd5 hS4 => (r_build (v := .agg #[.int .i64 (moreF n0 m), .int .i64 (moreF n1 m), .int .i64 (moreF n2 m)]) rfl (fun _ => by kernel_rfl))) hS4 fun ac16 hf16 => ?_
  refine any_one (i := 13) (by kernel_rfl) ?_
  refine (op_storeW (cells := #[.int .i64 (moreF n0 m), .int .i64 (moreF n1 m), .int .i64 (moreF n2 m)]) 1 hf16 rfl rfl rfl rfl rfl sz_30 rfl rfl hI9 rfl rfl fun wd6 hI10 => ⟨?_, ?_⟩)
  · exact (Has.cons (hI10.at 0 rfl) Has.nil)
  have hI11 : Inv w [(b1, #[.int .i64 n0, .int .i64 n1, .int .i64 n2], 30), (b2, #[.int .i64 (moreF n0 m), .int .i64 (moreF n1 m), .int .i64 (moreF n2 m)], 30)] wd6 := hI10
  have hS5 : Has [(b1, #[.int .i64 n0, .int .i64 n1, .int .i64 n2], 30)] _ := (Has.cons (hI11.at 0 rfl) Has.nil)
  refine any_end (by kernel_rfl) ?_
  clear hI5 ac3 hf3 ac4 hf4 ac5 hf5 ac6 hf6 ac7 hf7 ac8 hf8 ac9 hf9 ac10 hf10 ac11 hf11 ac12 wd2 hI6 hf12 hS1 ac13 wd3 hI7 hf13 hS2 ac14 wd4 hI8 hf14 hS3 ac15 hf15 wd5 hI9 hI10 hS4 hS5
  refine then_normal ?_
  refine wp_ret ?_
  refine postC rfl hf16 rfl ag_30 sz_30 (hI11.at 1 rfl) rfl ⟨?_, hI11.done (fresh_keys (ks := [b1, b2]) rfl (fk_cons hb1 (fk_cons hb2 fk_nil)))⟩
  rfl
set_option maxHeartbeats 4000000 in
theorem most_pur (cs : Array Value) (r b f : Int) (hc : LC cs r b f) : Pur Try.prog 14 [.agg cs] (.int .i64 (leftF r b f 0 0 0)) := by
  intro w
  have hI1 := Inv.start w
  refine enter (n := 6) Try.func14 rfl rfl rfl ?_
  intro ac1 hf1
  refine code_seq ?_
  refine seq_start (l := [0, 1]) rfl ?_
  refine seq_one (op_box hf1 rfl rfl rfl rfl hI1 fun ac2 b1 wd1 hb1 hI2 hf2 => ?_)
  have hI3 : Inv w [(b1, cs, 28)] wd1 := hI2
  refine seq_one (op_val (v := .int .i64 0) hf2 rfl rfl rfl rfl rfl rfl (r_assign rfl) fun ac3 hf3 => ?_)
  refine seq_end ?_
  clear ac1 hI1 hf1 hI2 ac2 hf2
  refine then_normal ?_
  refine code_seq ?_
  refine seq_start (l := [0, 1, 2, 3]) rfl ?_
  refine seq_one (op_val (v := .agg cs) hf3 rfl rfl rfl rfl rfl rfl (r_loadW ag_28 sz_28 rfl (hI3.at 0 rfl) hc.size) fun ac4 hf4 => ?_)
  refine seq_one (op_val (v := .agg #[.int .i64 0, .int .i64 0, .int .i64 0]) hf4 rfl rfl rfl rfl rfl rfl (r_build (v := .agg #[.int .i64 0, .int .i64 0, .int .i64 0]) rfl (fun _ => by kernel_rfl)) fun ac5 hf5 => ?_)
  refine seq_one (op_pure hf5 rfl rfl rfl rfl ca_10 (left_pur cs r b f 0 0 0 hc (by omega) (by omega) (by omega) (by omega) (by omega) (by omega)) hI3 fun ac6 wd2 hI4 hf6 => ?_)
  refine seq_one (op_val (v := .int .i64 (leftF r b f 0 0 0)) hf6 rfl rfl rfl rfl rfl rfl (r_assign rfl) fun ac7 hf7 => ?_)
  refine seq_end ?_
  clear ac3 hf3 ac4 hf4 ac5 wd1 hI3 hf5 ac6 hf6
  refine then_normal ?_
  refine wp_ret ?_
  refine post1 rfl hf7 rfl ⟨?_, hI4.done (fresh_keys (ks := [b1]) rfl (fk_cons hb1 fk_nil))⟩
  rfl
theorem most_eq {cs : Array Value} {r b f : Int} (hc : LC cs r b f) : leftF r b f 0 0 0 = if least3 r b f < 0 then 0 else least3 r b f := by
  have h0 := hc.rr; have h1 := hc.br; have h2 := hc.fr
  unfold leftF lessF least3 mn
  rw [if_neg (show ¬ ((0 : Int) < 0 ∧ r > 9223372036854775807 + 0) by omega), if_neg (show ¬ ((0 : Int) < 0 ∧ b > 9223372036854775807 + 0) by omega), if_neg (show ¬ ((0 : Int) < 0 ∧ f > 9223372036854775807 + 0) by omega)]
  by_cases a : r ≤ 0 <;> by_cases c : b ≤ 0 <;> by_cases d : f ≤ 0 <;> simp only [a, c, d, if_true, if_false] <;> (repeat' split) <;> omega
set_option maxHeartbeats 4000000 in
theorem mostR_pur (cs : Array Value) (r b f : Int) (hc : LC cs r b f) : Pur Try.prog 15 [.agg cs] (.int .i64 (leftF r b f 0 0 0)) := by
  intro w
  have hI1 := Inv.start w
  refine enter (n := 14) Try.func15 rfl rfl rfl ?_
  intro ac1 hf1
  refine code_seq ?_
  refine seq_start (l := [0, 1]) rfl ?_
  refine seq_one (op_box hf1 rfl rfl rfl rfl hI1 fun ac2 b1 wd1 hb1 hI2 hf2 => ?_)
  have hI3 : Inv w [(b1, cs, 28)] wd1 := hI2
  refine seq_one (op_val (v := .int .i64 0) hf2 rfl rfl rfl rfl rfl rfl (r_assign rfl) fun ac3 hf3 => ?_)
  refine seq_end ?_
  clear ac1 hI1 hf1 hI2 ac2 hf2
  refine then_normal ?_
  refine code_seq ?_
  refine seq_start (l := [0, 1, 2, 3, 4, 5, 6, 7]) rfl ?_
  refine seq_one (op_val (v := .pointer (some ⟨b1, 0, none⟩)) hf3 rfl rfl rfl rfl rfl rfl (r_fieldAddr fi_28_0 rfl rfl) fun ac4 hf4 => ?_)
  refine seq_one (op_val (v := .int .i64 r) hf4 rfl rfl rfl rfl rfl rfl (r_load ag_3 rfl (hI3.at 0 rfl) hc.c0) fun ac5 hf5 => ?_)
  refine seq_one (op_val (v := .pointer (some ⟨b1, 4, none⟩)) hf5 rfl rfl rfl rfl rfl rfl (r_fieldAddr fi_28_4 rfl rfl) fun ac6 hf6 => ?_)
  refine seq_one (op_val (v := .int .i64 b) hf6 rfl rfl rfl rfl rfl rfl (r_load ag_3 rfl (hI3.at 0 rfl) hc.c4) fun ac7 hf7 => ?_)
  refine seq_one (op_val (v := .pointer (some ⟨b1, 3, none⟩)) hf7 rfl rfl rfl rfl rfl rfl (r_fieldAddr fi_28_3 rfl rfl) fun ac8 hf8 => ?_)
  refine seq_one (op_val (v := .int .i64 f) hf8 rfl rfl rfl rfl rfl rfl (r_load ag_3 rfl (hI3.at 0 rfl) hc.c3) fun ac9 hf9 => ?_)
  refine seq_one (op_pure hf9 rfl rfl rfl rfl ca_21 (least_pur _ _ _) hI3 fun ac10 wd2 hI4 hf10 => ?_)
  refine seq_one (op_val (v := .int .i64 (least3 r b f)) hf10 rfl rfl rfl rfl rfl rfl (r_assign rfl) fun ac11 hf11 => ?_)
  refine seq_end ?_
  clear ac3 hf3 ac4 hf4 ac5 hf5 ac6 hf6 ac7 hf7 ac8 hf8 ac9 wd1 hI3 hf9 ac10 hf10
  refine then_normal ?_
  refine code_seq ?_
  refine code_seq ?_
  refine seq_start (l := [0, 1]) rfl ?_
  refine seq_one (op_val (v := .int .i64 (least3 r b f)) hf11 rfl rfl rfl rfl rfl rfl (r_move rfl) fun ac12 hf12 => ?_)
  refine seq_one (op_val (v := .bool (decide ((least3 r b f) < 0))) hf12 rfl rfl rfl rfl rfl rfl (r_lss rfl rfl) fun ac13 hf13 => ?_)
  refine seq_end ?_
  clear ac11 hf11 ac12 hf12
  refine then_normal ?_
  refine code_if hf13 rfl (fun c12_1 => ?_) (fun c12_1 => ?_)
  · have hf14 := hf13.know 12 (u := .bool true) rfl (congrArg Value.bool c12_1)
    refine code_seq ?_
    refine seq_start (l := [0]) rfl ?_
    refine seq_one (op_val (v := .int .i64 0) hf14 rfl rfl rfl rfl rfl rfl (r_assign rfl) fun ac14 hf15 => ?_)
    refine seq_end ?_
    clear hf13 ac13 hf14
    refine then_normal ?_
    refine wp_ret ?_
    refine then_ret ?_
    refine post1 rfl hf15 rfl ⟨?_, hI4.done (fresh_keys (ks := [b1]) rfl (fk_cons hb1 fk_nil))⟩
    exact congrArg (fun z => Ending.returned (.int .i64 z)) ((by simp only [decide_eq_true_eq, decide_eq_false_iff_not] at *; rw [most_eq hc]; split <;> omega))
  · have hf16 := hf13.know 12 (u := .bool false) rfl (congrArg Value.bool c12_1)
    refine wp_skip ?_
    refine then_normal ?_
    refine code_seq ?_
    refine seq_start (l := [0, 1]) rfl ?_
    refine seq_one (op_val (v := .int .i64 (least3 r b f)) hf16 rfl rfl rfl rfl rfl rfl (r_move rfl) fun ac15 hf17 => ?_)
    refine seq_one (op_val (v := .int .i64 (least3 r b f)) hf17 rfl rfl rfl rfl rfl rfl (r_assign rfl) fun ac16 hf18 => ?_)
    refine seq_end ?_
    clear hf13 ac13 hf16 ac15 hf17
    refine then_normal ?_
    refine wp_ret ?_
    refine post1 rfl hf18 rfl ⟨?_, hI4.done (fresh_keys (ks := [b1]) rfl (fk_cons hb1 fk_nil))⟩
    exact congrArg (fun z => Ending.returned (.int .i64 z)) ((by simp only [decide_eq_true_eq, decide_eq_false_iff_not] at *; rw [most_eq hc]; split <;> omega))
end Go.Proofs.Ytnajiccihfdggaa
