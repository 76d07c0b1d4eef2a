/-
  The reference of count: New and Add: what each call comes to.
-/
import Derived.Test.YtohkdjaobdgenaaPlain7
namespace Go.Proofs.Ytohkdjaobdgenaa
set_option linter.unusedVariables false
set_option linter.unusedSimpArgs false
set_option maxRecDepth 100000
open Go.RowKit
set_option maxHeartbeats 8000000 in
theorem newR_walk {n k : Nat} (hn1 : 1 ≤ n) (hn2 : n ≤ 256) (hk1 : 1 ≤ k) (hk2 : k ≤ 64) (w : World) : Calls Try.prog 12 [.int .i64 (n : Int), .int .i64 (k : Int)].toArray w fun e w' => ∃ b, w.heap.size ≤ b ∧ e = .returned (.tuple #[.agg #[.int .i64 (k : Int), .slice (some ⟨b, 0, none⟩) n n], .bool true]) ∧ Inv w [(b, arr .u64 (List.replicate n 0), 24)] w' := by
  have hI1 := Inv.start w
  refine enter (n := 25) Try.func12 rfl rfl rfl ?_
  intro ac1 hf1
  refine code_seq ?_
  refine seq_start (l := [0, 1]) rfl ?_
  refine seq_one (op_alloc hf1 rfl rfl rfl ze_34 hI1 fun ac2 b1 wd1 hb1 hI2 hf2 => ?_)
  have hI3 : Inv w [(b1, #[.int .i64 0, .slice none 0 0], 34)] wd1 := hI2
  refine seq_one (op_val (v := .bool false) hf2 rfl rfl rfl rfl rfl rfl (r_assign rfl) fun ac3 hf3 => ?_)
  refine seq_end ?_
  clear ac1 hI1 hf1 hI2 ac2 hf2
  refine then_normal ?_
  refine code_seq ?_
  refine code_seq ?_
  refine seq_start (l := [0, 1, 2, 3, 4, 5, 6, 7, 8, 9, 10, 11, 12, 13]) rfl ?_
  refine seq_one (op_val (v := .int .i64 (n : Int)) hf3 rfl rfl rfl rfl rfl rfl (r_move rfl) fun ac4 hf4 => ?_)
  refine seq_one (op_val (v := .bool (decide ((n : Int) < 1))) hf4 rfl rfl rfl rfl rfl rfl (r_lss rfl rfl) fun ac5 hf5 => ?_)
  refine seq_one (op_val (v := .bool (decide ((n : Int) < 1))) hf5 rfl rfl rfl rfl rfl rfl (r_move rfl) fun ac6 hf6 => ?_)
  have hf7 := hf6.know 8 (u := .bool false) rfl (congrArg Value.bool (decide_eq_false (by omega)))
  refine seq_one (op_val (v := .int .i64 (n : Int)) hf7 rfl rfl rfl rfl rfl rfl (r_move rfl) fun ac7 hf8 => ?_)
  refine seq_one (op_val (v := .bool (decide ((n : Int) > 256))) hf8 rfl rfl rfl rfl rfl rfl (r_gtr rfl rfl) fun ac8 hf9 => ?_)
  refine seq_one (op_val (v := .bool (decide ((n : Int) > 256))) hf9 rfl rfl rfl rfl rfl rfl (r_pickF rfl rfl) fun ac9 hf10 => ?_)
  refine seq_one (op_val (v := .bool (decide ((n : Int) > 256))) hf10 rfl rfl rfl rfl rfl rfl (r_move rfl) fun ac10 hf11 => ?_)
  have hf12 := hf11.know 12 (u := .bool false) rfl (congrArg Value.bool (decide_eq_false (by omega)))
  refine seq_one (op_val (v := .int .i64 (k : Int)) hf12 rfl rfl rfl rfl rfl rfl (r_move rfl) fun ac11 hf13 => ?_)
  refine seq_one (op_val (v := .bool (decide ((k : Int) < 1))) hf13 rfl rfl rfl rfl rfl rfl (r_lss rfl rfl) fun ac12 hf14 => ?_)
  refine seq_one (op_val (v := .bool (decide ((k : Int) < 1))) hf14 rfl rfl rfl rfl rfl rfl (r_pickF rfl rfl) fun ac13 hf15 => ?_)
  refine seq_one (op_val (v := .bool (decide ((k : Int) < 1))) hf15 rfl rfl rfl rfl rfl rfl (r_move rfl) fun ac14 hf16 => ?_)
  have hf17 := hf16.know 16 (u := .bool false) rfl (congrArg Value.bool (decide_eq_false (by omega)))
  refine seq_one (op_val (v := .int .i64 (k : Int)) hf17 rfl rfl rfl rfl rfl rfl (r_move rfl) fun ac15 hf18 => ?_)
  refine seq_one (op_val (v := .bool (decide ((k : Int) > 64))) hf18 rfl rfl rfl rfl rfl rfl (r_gtr rfl rfl) fun ac16 hf19 => ?_)
  refine seq_one (op_val (v := .bool (decide ((k : Int) > 64))) hf19 rfl rfl rfl rfl rfl rfl (r_pickF rfl rfl) fun ac17 hf20 => ?_)
  refine seq_end ?_
  clear ac3 hf3 ac4 hf4 ac5 hf5 hf6 ac6 hf7 ac7 hf8 ac8 hf9 ac9 hf10 hf11 ac10 hf12 ac11 hf13 ac12 hf14 ac13 hf15 hf16 ac14 hf17 ac15 hf18 ac16 hf19
  refine then_normal ?_
  have hf21 := hf20.know 19 (u := .bool false) rfl (congrArg Value.bool (decide_eq_false (by omega)))
  refine code_if_false hf21 rfl ?_
  refine wp_skip ?_
  refine then_normal ?_
  refine code_seq ?_
  refine seq_start (l := [0, 1, 2, 3, 4, 5]) rfl ?_
  refine seq_one (op_val (v := .int .i64 (k : Int)) hf21 rfl rfl rfl rfl rfl rfl (r_move rfl) fun ac18 hf22 => ?_)
  refine seq_one (op_val (v := .int .i64 (n : Int)) hf22 rfl rfl rfl rfl rfl rfl (r_move rfl) fun ac19 hf23 => ?_)
  refine seq_one (op_make (m := n) hf23 rfl rfl rfl us_23 if_24 rfl rfl rfl (by omega) (by omega) hI3 fun ac20 b2 wd2 hb2 hI4 hf24 => ?_)
  rw [arr_rep] at hI4
  have hI5 : Inv w [(b1, #[.int .i64 0, .slice none 0 0], 34), (b2, arr .u64 (List.replicate n 0), 24)] wd2 := hI4
  refine seq_one (op_val (v := .agg #[.int .i64 (k : Int), .slice (some ⟨b2, 0, none⟩) n n]) hf24 rfl rfl rfl rfl rfl rfl (r_build (v := .agg #[.int .i64 (k : Int), .slice (some ⟨b2, 0, none⟩) n n]) rfl (fun _ => by kernel_rfl)) fun ac21 hf25 => ?_)
  refine seq_one (op_storeW (cells := #[.int .i64 (k : Int), .slice (some ⟨b2, 0, none⟩) n n]) 0 hf25 rfl rfl rfl rfl rfl sz_34 rfl rfl hI5 rfl rfl fun wd3 hI6 => ?_)
  have hI7 : Inv w [(b1, #[.int .i64 (k : Int), .slice (some ⟨b2, 0, none⟩) n n], 34), (b2, arr .u64 (List.replicate n 0), 24)] wd3 := hI6
  refine seq_one (op_val (v := .bool true) hf25 rfl rfl rfl rfl rfl rfl (r_assign rfl) fun ac22 hf26 => ?_)
  refine seq_end ?_
  clear hf20 ac17 hf21 ac18 hf22 ac19 wd1 hI3 hf23 hI4 ac20 hf24 wd2 hI5 hI6 ac21 hf25
  refine then_normal ?_
  refine wp_ret ?_
  exact postC1 rfl hf26 rfl ag_34 sz_34 (hI7.at 0 rfl) rfl rfl ⟨b2, hb2, rfl, Inv.keep (A := []) (N := [(b1, #[.int .i64 (k : Int), .slice (some ⟨b2, 0, none⟩) n n], 34)]) (T := [(b2, arr .u64 (List.replicate n 0), 24)]) hI7 (fresh_keys (ks := [b1]) rfl (fk_cons hb1 fk_nil))⟩
set_option maxHeartbeats 8000000 in
theorem newR_bad {c b : Int} (h : c < 1 ∨ c > 256 ∨ b < 1 ∨ b > 64) : Pur Try.prog 12 [.int .i64 c, .int .i64 b] (.tuple #[.agg #[.int .i64 0, .slice none 0 0], .bool false]) := by
  intro w
  have hI1 := Inv.start w
  refine enter (n := 25) Try.func12 rfl rfl rfl ?_
  intro ac1 hf1
  refine code_seq ?_
  refine seq_start (l := [0, 1]) rfl ?_
  refine seq_one (op_alloc hf1 rfl rfl rfl ze_34 hI1 fun ac2 b1 wd1 hb1 hI2 hf2 => ?_)
  have hI3 : Inv w [(b1, #[.int .i64 0, .slice none 0 0], 34)] wd1 := hI2
  refine seq_one (op_val (v := .bool false) hf2 rfl rfl rfl rfl rfl rfl (r_assign rfl) fun ac3 hf3 => ?_)
  refine seq_end ?_
  clear ac1 hI1 hf1 hI2 ac2 hf2
  refine then_normal ?_
  refine code_seq ?_
  refine code_seq ?_
  refine seq_start (l := [0, 1, 2, 3, 4, 5, 6, 7, 8, 9, 10, 11, 12, 13]) rfl ?_
  refine seq_one (op_val (v := .int .i64 c) hf3 rfl rfl rfl rfl rfl rfl (r_move rfl) fun ac4 hf4 => ?_)
  refine seq_one (op_val (v := .bool (decide (c < 1))) hf4 rfl rfl rfl rfl rfl rfl (r_lss rfl rfl) fun ac5 hf5 => ?_)
  refine seq_one (op_val (v := .bool (decide (c < 1))) hf5 rfl rfl rfl rfl rfl rfl (r_move rfl) fun ac6 hf6 => ?_)
  rcases Bool.eq_false_or_eq_true (decide (c < 1) : Bool) with g8_1 | g8_1
  · have hf7 := hf6.know 8 (u := .bool true) rfl (congrArg Value.bool g8_1)
    refine seq_one (op_skip hf7 rfl rfl rfl rfl fun ac7 hf8 => ?_)
    refine seq_one (op_skip hf8 rfl rfl rfl rfl fun ac8 hf9 => ?_)
    refine seq_one (op_val (v := .bool true) hf9 rfl rfl rfl rfl rfl rfl (r_pickT rfl rfl) fun ac9 hf10 => ?_)
    refine seq_one (op_val (v := .bool true) hf10 rfl rfl rfl rfl rfl rfl (r_move rfl) fun ac10 hf11 => ?_)
    refine seq_one (op_skip hf11 rfl rfl rfl rfl fun ac11 hf12 => ?_)
    refine seq_one (op_skip hf12 rfl rfl rfl rfl fun ac12 hf13 => ?_)
    refine seq_one (op_val (v := .bool true) hf13 rfl rfl rfl rfl rfl rfl (r_pickT rfl rfl) fun ac13 hf14 => ?_)
    refine seq_one (op_val (v := .bool true) hf14 rfl rfl rfl rfl rfl rfl (r_move rfl) fun ac14 hf15 => ?_)
    refine seq_one (op_skip hf15 rfl rfl rfl rfl fun ac15 hf16 => ?_)
    refine seq_one (op_skip hf16 rfl rfl rfl rfl fun ac16 hf17 => ?_)
    refine seq_one (op_val (v := .bool true) hf17 rfl rfl rfl rfl rfl rfl (r_pickT rfl rfl) fun ac17 hf18 => ?_)
    refine seq_end ?_
    clear ac3 hf3 ac4 hf4 ac5 hf5 hf6 ac6 hf7 ac7 hf8 ac8 hf9 ac9 hf10 ac10 hf11 ac11 hf12 ac12 hf13 ac13 hf14 ac14 hf15 ac15 hf16 ac16 hf17
    refine then_normal ?_
    refine code_if_true hf18 rfl ?_
    refine code_seq ?_
    refine seq_start (l := [0, 1, 2]) rfl ?_
    refine seq_one (op_val (v := .agg #[.int .i64 0, .slice none 0 0]) hf18 rfl rfl rfl rfl rfl rfl (r_build (v := .agg #[.int .i64 0, .slice none 0 0]) rfl (fun _ => by kernel_rfl)) fun ac18 hf19 => ?_)
    refine seq_one (op_storeW (cells := #[.int .i64 0, .slice none 0 0]) 0 hf19 rfl rfl rfl rfl rfl sz_34 rfl rfl hI3 rfl rfl fun wd2 hI4 => ?_)
    refine seq_one (op_val (v := .bool false) hf19 rfl rfl rfl rfl rfl rfl (r_assign rfl) fun ac19 hf20 => ?_)
    refine seq_end ?_
    clear ac17 hf18 wd1 hI3 ac18 hf19
    refine then_normal ?_
    refine wp_ret ?_
    refine then_ret ?_
    refine postC1 rfl hf20 rfl ag_34 sz_34 (hI4.at 0 rfl) rfl rfl ⟨?_, hI4.done (fresh_keys (ks := [b1]) rfl (fk_cons hb1 fk_nil))⟩
    rfl
  · have hf21 := hf6.know 8 (u := .bool false) rfl (congrArg Value.bool g8_1)
    refine seq_one (op_val (v := .int .i64 c) hf21 rfl rfl rfl rfl rfl rfl (r_move rfl) fun ac20 hf22 => ?_)
    refine seq_one (op_val (v := .bool (decide (c > 256))) hf22 rfl rfl rfl rfl rfl rfl (r_gtr rfl rfl) fun ac21 hf23 => ?_)
    refine seq_one (op_val (v := .bool (decide (c > 256))) hf23 rfl rfl rfl rfl rfl rfl (r_pickF rfl rfl) fun ac22 hf24 => ?_)
    refine seq_one (op_val (v := .bool (decide (c > 256))) hf24 rfl rfl rfl rfl rfl rfl (r_move rfl) fun ac23 hf25 => ?_)
    rcases Bool.eq_false_or_eq_true (decide (c > 256) : Bool) with g12_2 | g12_2
    · have hf26 := hf25.know 12 (u := .bool true) rfl (congrArg Value.bool g12_2)
      refine seq_one (op_skip hf26 rfl rfl rfl rfl fun ac24 hf27 => ?_)
      refine seq_one (op_skip hf27 rfl rfl rfl rfl fun ac25 hf28 => ?_)
      refine seq_one (op_val (v := .bool true) hf28 rfl rfl rfl rfl rfl rfl (r_pickT rfl rfl) fun ac26 hf29 => ?_)
      refine seq_one (op_val (v := .bool true) hf29 rfl rfl rfl rfl rfl rfl (r_move rfl) fun ac27 hf30 => ?_)
      refine seq_one (op_skip hf30 rfl rfl rfl rfl fun ac28 hf31 => ?_)
      refine seq_one (op_skip hf31 rfl rfl rfl rfl fun ac29 hf32 => ?_)
      refine seq_one (op_val (v := .bool true) hf32 rfl rfl rfl rfl rfl rfl (r_pickT rfl rfl) fun ac30 hf33 => ?_)
      refine seq_end ?_
      clear ac3 hf3 ac4 hf4 ac5 hf5 hf6 ac6 hf21 ac20 hf22 ac21 hf23 ac22 hf24 hf25 ac23 hf26 ac24 hf27 ac25 hf28 ac26 hf29 ac27 hf30 ac28 hf31 ac29 hf32
      refine then_normal ?_
      refine code_if_true hf33 rfl ?_
      refine code_seq ?_
      refine seq_start (l := [0, 1, 2]) rfl ?_
      refine seq_one (op_val (v := .agg #[.int .i64 0, .slice none 0 0]) hf33 rfl rfl rfl rfl rfl rfl (r_build (v := .agg #[.int .i64 0, .slice none 0 0]) rfl (fun _ => by kernel_rfl)) fun ac31 hf34 => ?_)
      refine seq_one (op_storeW (cells := #[.int .i64 0, .slice none 0 0]) 0 hf34 rfl rfl rfl rfl rfl sz_34 rfl rfl hI3 rfl rfl fun wd3 hI5 => ?_)
      refine seq_one (op_val (v := .bool false) hf34 rfl rfl rfl rfl rfl rfl (r_assign rfl) fun ac32 hf35 => ?_)
      refine seq_end ?_
      clear ac30 hf33 wd1 hI3 ac31 hf34
      refine then_normal ?_
      refine wp_ret ?_
      refine then_ret ?_
      refine postC1 rfl hf35 rfl ag_34 sz_34 (hI5.at 0 rfl) rfl rfl ⟨?_, hI5.done (fresh_keys (ks := [b1]) rfl (fk_cons hb1 fk_nil))⟩
      rfl
    · have hf36 := hf25.know 12 (u := .bool false) rfl (congrArg Value.bool g12_2)
      refine seq_one (op_val (v := .int .i64 b) hf36 rfl rfl rfl rfl rfl rfl (r_move rfl) fun ac33 hf37 => ?_)
      refine seq_one (op_val (v := .bool (decide (b < 1))) hf37 rfl rfl rfl rfl rfl rfl (r_lss rfl rfl) fun ac34 hf38 => ?_)
      refine seq_one (op_val (v := .bool (decide (b < 1))) hf38 rfl rfl rfl rfl rfl rfl (r_pickF rfl rfl) fun ac35 hf39 => ?_)
      refine seq_one (op_val (v := .bool (decide (b < 1))) hf39 rfl rfl rfl rfl rfl rfl (r_move rfl) fun ac36 hf40 => ?_)
      rcases Bool.eq_false_or_eq_true (decide (b < 1) : Bool) with g16_3 | g16_3
      · have hf41 := hf40.know 16 (u := .bool true) rfl (congrArg Value.bool g16_3)
        refine seq_one (op_skip hf41 rfl rfl rfl rfl fun ac37 hf42 => ?_)
        refine seq_one (op_skip hf42 rfl rfl rfl rfl fun ac38 hf43 => ?_)
        refine seq_one (op_val (v := .bool true) hf43 rfl rfl rfl rfl rfl rfl (r_pickT rfl rfl) fun ac39 hf44 => ?_)
        refine seq_end ?_
        clear ac3 hf3 ac4 hf4 ac5 hf5 hf6 ac6 hf21 ac20 hf22 ac21 hf23 ac22 hf24 hf25 ac23 hf36 ac33 hf37 ac34 hf38 ac35 hf39 hf40 ac36 hf41 ac37 hf42 ac38 hf43
        refine then_normal ?_
        refine code_if_true hf44 rfl ?_
        refine code_seq ?_
        refine seq_start (l := [0, 1, 2]) rfl ?_
        refine seq_one (op_val (v := .agg #[.int .i64 0, .slice none 0 0]) hf44 rfl rfl rfl rfl rfl rfl (r_build (v := .agg #[.int .i64 0, .slice none 0 0]) rfl (fun _ => by kernel_rfl)) fun ac40 hf45 => ?_)
        refine seq_one (op_storeW (cells := #[.int .i64 0, .slice none 0 0]) 0 hf45 rfl rfl rfl rfl rfl sz_34 rfl rfl hI3 rfl rfl fun wd4 hI6 => ?_)
        refine seq_one (op_val (v := .bool false) hf45 rfl rfl rfl rfl rfl rfl (r_assign rfl) fun ac41 hf46 => ?_)
        refine seq_end ?_
        clear ac39 hf44 wd1 hI3 ac40 hf45
        refine then_normal ?_
        refine wp_ret ?_
        refine then_ret ?_
        refine postC1 rfl hf46 rfl ag_34 sz_34 (hI6.at 0 rfl) rfl rfl ⟨?_, hI6.done (fresh_keys (ks := [b1]) rfl (fk_cons hb1 fk_nil))⟩
        rfl
      · have hf47 := hf40.know 16 (u := .bool false) rfl (congrArg Value.bool g16_3)
        refine seq_one (op_val (v := .int .i64 b) hf47 rfl rfl rfl rfl rfl rfl (r_move rfl) fun ac42 hf48 => ?_)
        refine seq_one (op_val (v := .bool (decide (b > 64))) hf48 rfl rfl rfl rfl rfl rfl (r_gtr rfl rfl) fun ac43 hf49 => ?_)
        refine seq_one (op_val (v := .bool (decide (b > 64))) hf49 rfl rfl rfl rfl rfl rfl (r_pickF rfl rfl) fun ac44 hf50 => ?_)
        refine seq_end ?_
        clear ac3 hf3 ac4 hf4 ac5 hf5 hf6 ac6 hf21 ac20 hf22 ac21 hf23 ac22 hf24 hf25 ac23 hf36 ac33 hf37 ac34 hf38 ac35 hf39 hf40 ac36 hf47 ac42 hf48 ac43 hf49
        refine then_normal ?_
        refine code_if hf50 rfl (fun c19_4 => ?_) (fun c19_4 => ?_)
        · have hf51 := hf50.know 19 (u := .bool true) rfl (congrArg Value.bool c19_4)
          refine code_seq ?_
          refine seq_start (l := [0, 1, 2]) rfl ?_
          refine seq_one (op_val (v := .agg #[.int .i64 0, .slice none 0 0]) hf51 rfl rfl rfl rfl rfl rfl (r_build (v := .agg #[.int .i64 0, .slice none 0 0]) rfl (fun _ => by kernel_rfl)) fun ac45 hf52 => ?_)
          refine seq_one (op_storeW (cells := #[.int .i64 0, .slice none 0 0]) 0 hf52 rfl rfl rfl rfl rfl sz_34 rfl rfl hI3 rfl rfl fun wd5 hI7 => ?_)
          refine seq_one (op_val (v := .bool false) hf52 rfl rfl rfl rfl rfl rfl (r_assign rfl) fun ac46 hf53 => ?_)
          refine seq_end ?_
          clear hf50 ac44 hf51 wd1 hI3 ac45 hf52
          refine then_normal ?_
          refine wp_ret ?_
          refine then_ret ?_
          refine postC1 rfl hf53 rfl ag_34 sz_34 (hI7.at 0 rfl) rfl rfl ⟨?_, hI7.done (fresh_keys (ks := [b1]) rfl (fk_cons hb1 fk_nil))⟩
          rfl
        · have hf54 := hf50.know 19 (u := .bool false) rfl (congrArg Value.bool c19_4)
          refine wp_skip ?_
          refine then_normal ?_
          refine code_seq ?_
          refine seq_start (l := [0, 1, 2, 3, 4, 5]) rfl ?_
          refine seq_one (op_val (v := .int .i64 b) hf54 rfl rfl rfl rfl rfl rfl (r_move rfl) fun ac47 hf55 => ?_)
          refine seq_one (op_val (v := .int .i64 c) hf55 rfl rfl rfl rfl rfl rfl (r_move rfl) fun ac48 hf56 => ?_)
          exfalso
          simp only [decide_eq_true_eq, decide_eq_false_iff_not] at g8_1 g12_2 g16_3 c19_4
          omega
set_option maxHeartbeats 8000000 in
theorem addR_in {rb cap n k : Nat} {xs : List Int} (hl : xs.length = n) {j : Nat} {am : Int} (hj : j < n) (hn2 : n ≤ 256) (hk1 : 1 ≤ k) (hk2 : k ≤ 64) (hxs : ∀ j, j < n → 0 ≤ xs.getD j 0 ∧ xs.getD j 0 < 18446744073709551616) (ham : 0 ≤ am ∧ am < 18446744073709551616) {w : World} (hr : Rd w .u64 (some ⟨rb, 0, none⟩) xs) : Calls Try.prog 17 [.agg #[.int .i64 (k : Int), .slice (some ⟨rb, 0, none⟩) n cap], .int .i64 (j : Int), .int .u64 am].toArray w fun e w' => ∃ b m, w.heap.size ≤ b ∧ n + m ≤ maxLen ∧ e = .returned (.tuple #[.agg #[.int .i64 (k : Int), .slice (some ⟨b, 0, none⟩) n (n + m)], .bool true]) ∧ Inv w [(b, arr .u64 (xs.set j ((xs.getD j 0 + am) % pw k) ++ List.replicate m 0), 24)] w' := by
  have hn1 : 1 ≤ n := by omega
  have hI1 := Inv.start w
  refine enter (n := 37) Try.func17 rfl rfl rfl ?_
  intro ac1 hf1
  refine code_seq ?_
  refine seq_start (l := [0, 1, 2]) rfl ?_
  refine seq_one (op_box hf1 rfl rfl rfl rfl hI1 fun ac2 b1 wd1 hb1 hI2 hf2 => ?_)
  have hI3 : Inv w [(b1, #[.int .i64 (k : Int), .slice (some ⟨rb, 0, none⟩) n cap], 34)] wd1 := hI2
  refine seq_one (op_alloc hf2 rfl rfl rfl ze_34 hI3 fun ac3 b2 wd2 hb2 hI4 hf3 => ?_)
  have hI5 : Inv w [(b1, #[.int .i64 (k : Int), .slice (some ⟨rb, 0, none⟩) n cap], 34), (b2, #[.int .i64 0, .slice none 0 0], 34)] wd2 := hI4
  refine seq_one (op_val (v := .bool false) hf3 rfl rfl rfl rfl rfl rfl (r_assign rfl) fun ac4 hf4 => ?_)
  refine seq_end ?_
  clear ac1 hI1 hf1 hI2 ac2 wd1 hI3 hf2 hI4 ac3 hf3
  refine then_normal ?_
  refine code_seq ?_
  refine code_seq ?_
  refine seq_start (l := [0, 1, 2, 3, 4, 5, 6, 7, 8]) rfl ?_
  refine seq_one (op_val (v := .int .i64 (j : Int)) hf4 rfl rfl rfl rfl rfl rfl (r_move rfl) fun ac5 hf5 => ?_)
  refine seq_one (op_val (v := .bool (decide ((j : Int) < 0))) hf5 rfl rfl rfl rfl rfl rfl (r_lss rfl rfl) fun ac6 hf6 => ?_)
  refine seq_one (op_val (v := .bool (decide ((j : Int) < 0))) hf6 rfl rfl rfl rfl rfl rfl (r_move rfl) fun ac7 hf7 => ?_)
  have hf8 := hf7.know 11 (u := .bool false) rfl (congrArg Value.bool (decide_eq_false (by omega)))
  refine seq_one (op_val (v := .int .i64 (j : Int)) hf8 rfl rfl rfl rfl rfl rfl (r_move rfl) fun ac8 hf9 => ?_)
  refine seq_one (op_val (v := .pointer (some ⟨b1, 1, none⟩)) hf9 rfl rfl rfl rfl rfl rfl (r_fieldAddr fi_34_1 rfl rfl) fun ac9 hf10 => ?_)
  refine seq_one (op_val (v := .slice (some ⟨rb, 0, none⟩) n cap) hf10 rfl rfl rfl rfl rfl rfl (r_load ag_23 rfl (hI5.at 0 rfl) rfl) fun ac10 hf11 => ?_)
  refine seq_one (op_val (v := .int .i64 (n : Int)) hf11 rfl rfl rfl rfl rfl rfl (r_len sl_23 rfl) fun ac11 hf12 => ?_)
  refine seq_one (op_val (v := .bool (decide ((j : Int) ≥ (n : Int)))) hf12 rfl rfl rfl rfl rfl rfl (r_geq rfl rfl) fun ac12 hf13 => ?_)
  refine seq_one (op_val (v := .bool (decide ((j : Int) ≥ (n : Int)))) hf13 rfl rfl rfl rfl rfl rfl (r_pickF rfl rfl) fun ac13 hf14 => ?_)
  refine seq_end ?_
  clear ac4 hf4 ac5 hf5 ac6 hf6 hf7 ac7 hf8 ac8 hf9 ac9 hf10 ac10 hf11 ac11 hf12 ac12 hf13
  refine then_normal ?_
  have hf15 := hf14.know 17 (u := .bool false) rfl (congrArg Value.bool (decide_eq_false (by omega)))
  refine code_if_false hf15 rfl ?_
  refine wp_skip ?_
  refine then_normal ?_
  refine code_seq ?_
  refine seq_start (l := [0, 1, 2, 3, 4]) rfl ?_
  refine seq_one (op_bslice (s := 24) (cells := #[]) hf15 rfl rfl rfl rfl rfl (fun _ => by kernel_rfl) hI5 fun ac14 b3 wd3 hb3 hI6 hf16 => ?_)
  have hI7 : Inv w [(b1, #[.int .i64 (k : Int), .slice (some ⟨rb, 0, none⟩) n cap], 34), (b2, #[.int .i64 0, .slice none 0 0], 34), (b3, #[], 24)] wd3 := hI6
  refine seq_one (op_val (v := .pointer (some ⟨b1, 1, none⟩)) hf16 rfl rfl rfl rfl rfl rfl (r_fieldAddr fi_34_1 rfl rfl) fun ac15 hf17 => ?_)
  refine seq_one (op_val (v := .slice (some ⟨rb, 0, none⟩) n cap) hf17 rfl rfl rfl rfl rfl rfl (r_load ag_23 rfl (hI7.at 0 rfl) rfl) fun ac16 hf18 => ?_)
  refine seq_one (op_clone (xs := xs) (l := n) hl hf18 rfl rfl rfl us_23 if_24 rfl rfl (hr.old hI7 (fresh_keys (ks := [b1, b2, b3]) rfl (fk_cons hb1 (fk_cons hb2 (fk_cons hb3 fk_nil))))) hn1 (by simp only [maxLen]; omega) (by omega) hI7 fun ac17 b4 m4 wd4 hb4 hm4 hI8 hf19 => ?_)
  have hI9 : Inv w [(b1, #[.int .i64 (k : Int), .slice (some ⟨rb, 0, none⟩) n cap], 34), (b2, #[.int .i64 0, .slice none 0 0], 34), (b3, #[], 24), (b4, arr .u64 (xs ++ List.replicate m4 0), 24)] wd4 := hI8
  refine seq_one (op_val (v := .slice (some ⟨b4, 0, none⟩) n (n + m4)) hf19 rfl rfl rfl rfl rfl rfl (r_assign rfl) fun ac18 hf20 => ?_)
  refine seq_end ?_
  clear hf14 ac13 wd2 hI5 hf15 hI6 ac14 hf16 ac15 hf17 ac16 wd3 hI7 hf18 hI8 ac17 hf19
  refine then_normal ?_
  refine code_seq ?_
  refine any_start (fun w => Has [(b1, #[.int .i64 (k : Int), .slice (some ⟨rb, 0, none⟩) n cap], 34)] w) follows (Has.drew (Has.cons (hI9.at 0 rfl) Has.nil)) ?_
  have hS1 : Has [(b1, #[.int .i64 (k : Int), .slice (some ⟨rb, 0, none⟩) n cap], 34)] _ := Has.drew (Has.cons (hI9.at 0 rfl) Has.nil)
  have hI10 := hI9.drew
  refine any_val (i := 0) (v := .slice (some ⟨b4, 0, none⟩) n (n + m4)) hf20 rfl rfl rfl rfl rfl rfl (fun _ _ _ h => h) (by kernel_rfl) (by kernel_rfl) (by kernel_rfl) (fun wd4 hS1 => (r_move rfl)) hS1 fun ac19 hf21 => ?_
  refine any_val (i := 1) (v := .int .i64 (j : Int)) hf21 rfl rfl rfl rfl rfl rfl (fun _ _ _ h => h) (by kernel_rfl) (by kernel_rfl) (by kernel_rfl) (fun wd4 hS1 => (r_move rfl)) hS1 fun ac20 hf22 => ?_
  refine any_val (i := 2) (v := .slice (some ⟨b4, 0, none⟩) n (n + m4)) hf22 rfl rfl rfl rfl rfl rfl (fun _ _ _ h => h) (by kernel_rfl) (by kernel_rfl) (by kernel_rfl) (fun wd4 hS1 => (r_move rfl)) hS1 fun ac21 hf23 => ?_
  refine any_val (i := 3) (v := .int .i64 (j : Int)) hf23 rfl rfl rfl rfl rfl rfl (fun _ _ _ h => h) (by kernel_rfl) (by kernel_rfl) (by kernel_rfl) (fun wd4 hS1 => (r_move rfl)) hS1 fun ac22 hf24 => ?_
  refine any_val (i := 4) (v := .pointer (some ⟨b4, j, none⟩)) hf24 rfl rfl rfl rfl rfl rfl (fun _ _ _ h => h) (by kernel_rfl) (by kernel_rfl) (by kernel_rfl) (fun wd4 hS1 => (r_indexAddrS (i := j) sl_23 rfl rfl rfl (by omega) (by rw [Nat.mul_one, Nat.zero_add]))) hS1 fun ac23 hf25 => ?_
  refine any_val (i := 6) (v := .int .u64 am) hf25 rfl rfl rfl rfl rfl rfl (fun _ _ _ h => h) (by kernel_rfl) (by kernel_rfl) (by kernel_rfl) (fun wd4 hS1 => (r_move rfl)) hS1 fun ac24 hf26 => ?_
  refine any_val (i := 7) (v := .pointer (some ⟨b1, 0, none⟩)) hf26 rfl rfl rfl rfl rfl rfl (fun _ _ _ h => h) (by kernel_rfl) (by kernel_rfl) (by kernel_rfl) (fun wd4 hS1 => (r_fieldAddr fi_34_0 rfl rfl)) hS1 fun ac25 hf27 => ?_
  refine any_val (i := 8) (v := .int .i64 (k : Int)) hf27 rfl rfl rfl rfl rfl rfl (fun _ _ _ h => h) (by kernel_rfl) (by kernel_rfl) (by kernel_rfl) (fun wd4 hS1 => (r_load ag_3 rfl (hS1.at 0 rfl) rfl)) hS1 fun ac26 hf28 => ?_
  refine any_one (i := 5) (by kernel_rfl) ?_
  refine op_val (v := .int .u64 ((xs ++ List.replicate m4 0).getD j 0)) hf28 rfl rfl rfl rfl rfl rfl (r_load ag_24 rfl (hI10.at 3 rfl) (arr_get (Nat.lt_of_lt_of_eq (by omega) (Eq.symm ((by rw [List.length_append, List.length_replicate, hl]) : (xs ++ List.replicate m4 0).length = n + m4))))) fun ac27 hf29 => ⟨?_, ?_⟩
  · exact (Has.cons (hI10.at 0 rfl) Has.nil)
  have hS2 : Has [(b1, #[.int .i64 (k : Int), .slice (some ⟨rb, 0, none⟩) n cap], 34)] _ := (Has.cons (hI10.at 0 rfl) Has.nil)
  refine any_one (i := 9) (by kernel_rfl) ?_
  refine (op_pure hf29 rfl rfl rfl rfl ca_28 (sum_pur (by rw [getD_app (by omega)]; exact hxs j hj) ham hk2) hI10 fun ac28 wd5 hI11 hf30 => ⟨?_, ?_⟩)
  · exact (Has.cons (hI11.at 0 rfl) Has.nil)
  have hS3 : Has [(b1, #[.int .i64 (k : Int), .slice (some ⟨rb, 0, none⟩) n cap], 34)] _ := (Has.cons (hI11.at 0 rfl) Has.nil)
  refine any_val (i := 10) (v := .pointer (some ⟨b4, j, none⟩)) hf30 rfl rfl rfl rfl rfl rfl (fun _ _ _ h => h) (by kernel_rfl) (by kernel_rfl) (by kernel_rfl) (fun wd5 hS3 => (r_indexAddrS (i := j) sl_23 rfl rfl rfl (by omega) (by rw [Nat.mul_one, Nat.zero_add]))) hS3 fun ac29 hf31 => ?_
  refine any_one (i := 11) (by kernel_rfl) ?_
  refine (op_store (cs' := arr .u64 ((xs ++ List.replicate m4 0).set j (((xs ++ List.replicate m4 0).getD j 0 + am) % pw k))) 3 hf31 rfl rfl rfl rfl rfl sz_24 hI11 rfl (Nat.lt_of_lt_of_eq (by omega) (Eq.symm (arr_size ((by rw [List.length_append, List.length_replicate, hl]) : (xs ++ List.replicate m4 0).length = n + m4)))) arr_set fun wd6 hI12 => ⟨?_, ?_⟩)
  · exact (Has.cons (hI12.at 0 rfl) Has.nil)
  have hI13 : Inv w [(b1, #[.int .i64 (k : Int), .slice (some ⟨rb, 0, none⟩) n cap], 34), (b2, #[.int .i64 0, .slice none 0 0], 34), (b3, #[], 24), (b4, arr .u64 ((xs ++ List.replicate m4 0).set j (((xs ++ List.replicate m4 0).getD j 0 + am) % pw k)), 24)] wd6 := hI12
  have hS4 : Has [(b1, #[.int .i64 (k : Int), .slice (some ⟨rb, 0, none⟩) n cap], 34)] _ := (Has.cons (hI13.at 0 rfl) Has.nil)
  refine any_end (by kernel_rfl) ?_
  clear hI9 ac18 hf20 ac19 hf21 ac20 hf22 ac21 hf23 ac22 hf24 ac23 hf25 ac24 hf26 ac25 hf27 ac26 hf28 hS1 ac27 wd4 hI10 hf29 hS2 ac28 hf30 wd5 hI11 hI12 hS3 hS4
  refine then_normal ?_
  refine code_seq ?_
  refine seq_start (l := [0, 1, 2]) rfl ?_
  refine seq_one (op_val (v := .slice (some ⟨b4, 0, none⟩) n (n + m4)) hf31 rfl rfl rfl rfl rfl rfl (r_move rfl) fun ac30 hf32 => ?_)
  refine seq_one (op_val (v := .pointer (some ⟨b1, 1, none⟩)) hf32 rfl rfl rfl rfl rfl rfl (r_fieldAddr fi_34_1 rfl rfl) fun ac31 hf33 => ?_)
  refine seq_one (op_store (cs' := #[.int .i64 (k : Int), .slice (some ⟨b4, 0, none⟩) n (n + m4)]) 0 hf33 rfl rfl rfl rfl rfl sz_23 hI13 rfl (ltb rfl) (by kernel_rfl) fun wd7 hI14 => ?_)
  have hI15 : Inv w [(b1, #[.int .i64 (k : Int), .slice (some ⟨b4, 0, none⟩) n (n + m4)], 34), (b2, #[.int .i64 0, .slice none 0 0], 34), (b3, #[], 24), (b4, arr .u64 ((xs ++ List.replicate m4 0).set j (((xs ++ List.replicate m4 0).getD j 0 + am) % pw k)), 24)] wd7 := hI14
  refine seq_end ?_
  clear ac29 hf31 ac30 hf32 wd6 hI13 hI14
  refine then_normal ?_
  refine code_seq ?_
  refine seq_start (l := [0, 1, 2]) rfl ?_
  refine seq_one (op_val (v := .agg #[.int .i64 (k : Int), .slice (some ⟨b4, 0, none⟩) n (n + m4)]) hf33 rfl rfl rfl rfl rfl rfl (r_loadW ag_34 sz_34 rfl (hI15.at 0 rfl) rfl) fun ac32 hf34 => ?_)
  refine seq_one (op_storeW (cells := #[.int .i64 (k : Int), .slice (some ⟨b4, 0, none⟩) n (n + m4)]) 1 hf34 rfl rfl rfl rfl rfl sz_34 rfl rfl hI15 rfl rfl fun wd8 hI16 => ?_)
  have hI17 : Inv w [(b1, #[.int .i64 (k : Int), .slice (some ⟨b4, 0, none⟩) n (n + m4)], 34), (b2, #[.int .i64 (k : Int), .slice (some ⟨b4, 0, none⟩) n (n + m4)], 34), (b3, #[], 24), (b4, arr .u64 ((xs ++ List.replicate m4 0).set j (((xs ++ List.replicate m4 0).getD j 0 + am) % pw k)), 24)] wd8 := hI16
  refine seq_one (op_val (v := .bool true) hf34 rfl rfl rfl rfl rfl rfl (r_assign rfl) fun ac33 hf35 => ?_)
  refine seq_end ?_
  clear ac31 hf33 wd7 hI15 hI16 ac32 hf34
  refine then_normal ?_
  refine wp_ret ?_
  rw [addR_fix hl hj] at hI17
  exact postC1 rfl hf35 rfl ag_34 sz_34 (hI17.at 1 rfl) rfl rfl ⟨b4, m4, hb4, hm4, rfl, Inv.keep (A := []) (N := [(b1, #[.int .i64 (k : Int), .slice (some ⟨b4, 0, none⟩) n (n + m4)], 34), (b2, #[.int .i64 (k : Int), .slice (some ⟨b4, 0, none⟩) n (n + m4)], 34), (b3, #[], 24)]) (T := [(b4, arr .u64 (xs.set j ((xs.getD j 0 + am) % pw k) ++ List.replicate m4 0), 24)]) hI17 (fresh_keys (ks := [b1, b2, b3]) rfl (fk_cons hb1 (fk_cons hb2 (fk_cons hb3 fk_nil))))⟩
set_option maxHeartbeats 8000000 in
theorem addR_out {rb cap n k : Nat} {xs : List Int} (hl : xs.length = n) {i am : Int} (ho : i < 0 ∨ (n : Int) ≤ i) : Pur Try.prog 17 [.agg #[.int .i64 (k : Int), .slice (some ⟨rb, 0, none⟩) n cap], .int .i64 i, .int .u64 am] (.tuple #[.agg #[.int .i64 (k : Int), .slice (some ⟨rb, 0, none⟩) n cap], .bool false]) := by
  intro w
  have hI1 := Inv.start w
  refine enter (n := 37) Try.func17 rfl rfl rfl ?_
  intro ac1 hf1
  refine code_seq ?_
  refine seq_start (l := [0, 1, 2]) rfl ?_
  refine seq_one (op_box hf1 rfl rfl rfl rfl hI1 fun ac2 b1 wd1 hb1 hI2 hf2 => ?_)
  have hI3 : Inv w [(b1, #[.int .i64 (k : Int), .slice (some ⟨rb, 0, none⟩) n cap], 34)] wd1 := hI2
  refine seq_one (op_alloc hf2 rfl rfl rfl ze_34 hI3 fun ac3 b2 wd2 hb2 hI4 hf3 => ?_)
  have hI5 : Inv w [(b1, #[.int .i64 (k : Int), .slice (some ⟨rb, 0, none⟩) n cap], 34), (b2, #[.int .i64 0, .slice none 0 0], 34)] wd2 := hI4
  refine seq_one (op_val (v := .bool false) hf3 rfl rfl rfl rfl rfl rfl (r_assign rfl) fun ac4 hf4 => ?_)
  refine seq_end ?_
  clear ac1 hI1 hf1 hI2 ac2 wd1 hI3 hf2 hI4 ac3 hf3
  refine then_normal ?_
  refine code_seq ?_
  refine code_seq ?_
  refine seq_start (l := [0, 1, 2, 3, 4, 5, 6, 7, 8]) rfl ?_
  refine seq_one (op_val (v := .int .i64 i) hf4 rfl rfl rfl rfl rfl rfl (r_move rfl) fun ac5 hf5 => ?_)
  refine seq_one (op_val (v := .bool (decide (i < 0))) hf5 rfl rfl rfl rfl rfl rfl (r_lss rfl rfl) fun ac6 hf6 => ?_)
  refine seq_one (op_val (v := .bool (decide (i < 0))) hf6 rfl rfl rfl rfl rfl rfl (r_move rfl) fun ac7 hf7 => ?_)
  rcases Bool.eq_false_or_eq_true (decide (i < 0) : Bool) with g11_1 | g11_1
  · have hf8 := hf7.know 11 (u := .bool true) rfl (congrArg Value.bool g11_1)
    refine seq_one (op_skip hf8 rfl rfl rfl rfl fun ac8 hf9 => ?_)
    refine seq_one (op_skip hf9 rfl rfl rfl rfl fun ac9 hf10 => ?_)
    refine seq_one (op_skip hf10 rfl rfl rfl rfl fun ac10 hf11 => ?_)
    refine seq_one (op_skip hf11 rfl rfl rfl rfl fun ac11 hf12 => ?_)
    refine seq_one (op_skip hf12 rfl rfl rfl rfl fun ac12 hf13 => ?_)
    refine seq_one (op_val (v := .bool true) hf13 rfl rfl rfl rfl rfl rfl (r_pickT rfl rfl) fun ac13 hf14 => ?_)
    refine seq_end ?_
    clear ac4 hf4 ac5 hf5 ac6 hf6 hf7 ac7 hf8 ac8 hf9 ac9 hf10 ac10 hf11 ac11 hf12 ac12 hf13
    refine then_normal ?_
    refine code_if_true hf14 rfl ?_
    refine code_seq ?_
    refine seq_start (l := [0, 1, 2]) rfl ?_
    refine seq_one (op_val (v := .agg #[.int .i64 (k : Int), .slice (some ⟨rb, 0, none⟩) n cap]) hf14 rfl rfl rfl rfl rfl rfl (r_loadW ag_34 sz_34 rfl (hI5.at 0 rfl) rfl) fun ac14 hf15 => ?_)
    refine seq_one (op_storeW (cells := #[.int .i64 (k : Int), .slice (some ⟨rb, 0, none⟩) n cap]) 1 hf15 rfl rfl rfl rfl rfl sz_34 rfl rfl hI5 rfl rfl fun wd3 hI6 => ?_)
    have hI7 : Inv w [(b1, #[.int .i64 (k : Int), .slice (some ⟨rb, 0, none⟩) n cap], 34), (b2, #[.int .i64 (k : Int), .slice (some ⟨rb, 0, none⟩) n cap], 34)] wd3 := hI6
    refine seq_one (op_val (v := .bool false) hf15 rfl rfl rfl rfl rfl rfl (r_assign rfl) fun ac15 hf16 => ?_)
    refine seq_end ?_
    clear ac13 hf14 wd2 hI5 hI6 ac14 hf15
    refine then_normal ?_
    refine wp_ret ?_
    refine then_ret ?_
    refine postC1 rfl hf16 rfl ag_34 sz_34 (hI7.at 1 rfl) rfl rfl ⟨?_, hI7.done (fresh_keys (ks := [b1, b2]) rfl (fk_cons hb1 (fk_cons hb2 fk_nil)))⟩
    rfl
  · have hf17 := hf7.know 11 (u := .bool false) rfl (congrArg Value.bool g11_1)
    refine seq_one (op_val (v := .int .i64 i) hf17 rfl rfl rfl rfl rfl rfl (r_move rfl) fun ac16 hf18 => ?_)
    refine seq_one (op_val (v := .pointer (some ⟨b1, 1, none⟩)) hf18 rfl rfl rfl rfl rfl rfl (r_fieldAddr fi_34_1 rfl rfl) fun ac17 hf19 => ?_)
    refine seq_one (op_val (v := .slice (some ⟨rb, 0, none⟩) n cap) hf19 rfl rfl rfl rfl rfl rfl (r_load ag_23 rfl (hI5.at 0 rfl) rfl) fun ac18 hf20 => ?_)
    refine seq_one (op_val (v := .int .i64 (n : Int)) hf20 rfl rfl rfl rfl rfl rfl (r_len sl_23 rfl) fun ac19 hf21 => ?_)
    refine seq_one (op_val (v := .bool (decide (i ≥ (n : Int)))) hf21 rfl rfl rfl rfl rfl rfl (r_geq rfl rfl) fun ac20 hf22 => ?_)
    refine seq_one (op_val (v := .bool (decide (i ≥ (n : Int)))) hf22 rfl rfl rfl rfl rfl rfl (r_pickF rfl rfl) fun ac21 hf23 => ?_)
    refine seq_end ?_
    clear ac4 hf4 ac5 hf5 ac6 hf6 hf7 ac7 hf17 ac16 hf18 ac17 hf19 ac18 hf20 ac19 hf21 ac20 hf22
    refine then_normal ?_
    refine code_if hf23 rfl (fun c17_2 => ?_) (fun c17_2 => ?_)
    · have hf24 := hf23.know 17 (u := .bool true) rfl (congrArg Value.bool c17_2)
      refine code_seq ?_
      refine seq_start (l := [0, 1, 2]) rfl ?_
      refine seq_one (op_val (v := .agg #[.int .i64 (k : Int), .slice (some ⟨rb, 0, none⟩) n cap]) hf24 rfl rfl rfl rfl rfl rfl (r_loadW ag_34 sz_34 rfl (hI5.at 0 rfl) rfl) fun ac22 hf25 => ?_)
      refine seq_one (op_storeW (cells := #[.int .i64 (k : Int), .slice (some ⟨rb, 0, none⟩) n cap]) 1 hf25 rfl rfl rfl rfl rfl sz_34 rfl rfl hI5 rfl rfl fun wd4 hI8 => ?_)
      have hI9 : Inv w [(b1, #[.int .i64 (k : Int), .slice (some ⟨rb, 0, none⟩) n cap], 34), (b2, #[.int .i64 (k : Int), .slice (some ⟨rb, 0, none⟩) n cap], 34)] wd4 := hI8
      refine seq_one (op_val (v := .bool false) hf25 rfl rfl rfl rfl rfl rfl (r_assign rfl) fun ac23 hf26 => ?_)
      refine seq_end ?_
      clear hf23 ac21 hf24 wd2 hI5 hI8 ac22 hf25
      refine then_normal ?_
      refine wp_ret ?_
      refine then_ret ?_
      refine postC1 rfl hf26 rfl ag_34 sz_34 (hI9.at 1 rfl) rfl rfl ⟨?_, hI9.done (fresh_keys (ks := [b1, b2]) rfl (fk_cons hb1 (fk_cons hb2 fk_nil)))⟩
      rfl
    · have hf27 := hf23.know 17 (u := .bool false) rfl (congrArg Value.bool c17_2)
      refine wp_skip ?_
      refine then_normal ?_
      refine code_seq ?_
      refine seq_start (l := [0, 1, 2, 3, 4]) rfl ?_
      exfalso
      simp only [decide_eq_true_eq, decide_eq_false_iff_not] at g11_1 c17_2
      omega
end Go.Proofs.Ytohkdjaobdgenaa
