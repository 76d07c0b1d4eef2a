/-
  The reference of lists, third part: Push.
-/
import Derived.Test.YtjelaoblpchmmaaRef05b
namespace Go.Proofs.Ytjelaoblpchmmaa
set_option linter.unusedVariables false
set_option linter.unusedSimpArgs false
set_option maxRecDepth 100000
open Go.RowKit
set_option maxHeartbeats 8000000 in
theorem rpush_walk {N K : Nat} {c : Ch N K} {LL : List En} (hc : c.Lof LL) {P : Option Addr} {C : Nat} (hlC : LL.length ≤ C) {w : World} (hr0 : Rows_ w P 1 (rws LL)) (hrd : ∀ e ∈ LL, Rd w .i64 e.1 e.2.2) {l n : Int} : Calls Try.prog 36 [.agg #[.int .i64 (N : Int), .slice P LL.length C], .int .i64 l, .int .i64 n].toArray w fun e w' => ∃ S P2 C2 L2, e = .returned (.tuple #[.agg #[.int .i64 (N : Int), .slice P2 (List.length L2) C2], .int .i64 (c.pushE l n)]) ∧ Inv w S w' ∧ (∀ x ∈ S, w.heap.size ≤ x.1) ∧ Ch.Lof (c.push l n) L2 ∧ ∀ w0 SB, VL w0 SB P C LL → VL w0 (SB ++ S) P2 C2 L2 := by
  have hk := hc.len
  have hK := c.hK
  have hN := c.hN
  have hI1 := Inv.start w
  refine enter (n := 51) Try.func36 rfl rfl rfl ?_
  intro ac1 hf1
  refine code_seq ?_
  refine seq_start (l := [0, 1, 2]) rfl ?_
  refine seq_one (op_box hf1 rfl rfl rfl rfl hI1 fun ac2 b1 wd1 hb1 hI2 hf2 => ?_)
  have hI3 : Inv w [(b1, #[.int .i64 (N : Int), .slice P LL.length C], 63)] wd1 := hI2
  refine seq_one (op_alloc hf2 rfl rfl rfl ze_63 hI3 fun ac3 b2 wd2 hb2 hI4 hf3 => ?_)
  have hI5 : Inv w [(b1, #[.int .i64 (N : Int), .slice P LL.length C], 63), (b2, #[.int .i64 0, .slice none 0 0], 63)] wd2 := hI4
  refine seq_one (op_val (v := .int .i64 0) hf3 rfl rfl rfl rfl rfl rfl (r_assign rfl) fun ac4 hf4 => ?_)
  refine seq_end ?_
  clear ac1 hI1 hf1 hI2 ac2 wd1 hI3 hf2 hI4 ac3 hf3
  refine then_normal ?_
  refine code_seq ?_
  refine code_seq ?_
  refine seq_start (l := [0, 1, 2, 3, 4, 5, 6, 7, 8, 9, 10, 11, 12, 13, 14, 15, 16, 17, 18]) rfl ?_
  refine seq_one (op_val (v := .int .i64 l) hf4 rfl rfl rfl rfl rfl rfl (r_move rfl) fun ac5 hf5 => ?_)
  refine seq_one (op_val (v := .bool (decide (l < 0))) hf5 rfl rfl rfl rfl rfl rfl (r_lss rfl rfl) fun ac6 hf6 => ?_)
  refine seq_one (op_val (v := .bool (decide (l < 0))) hf6 rfl rfl rfl rfl rfl rfl (r_move rfl) fun ac7 hf7 => ?_)
  rcases Bool.eq_false_or_eq_true (decide (l < 0) : Bool) with g12_1 | g12_1
  · have hf8 := hf7.know 12 (u := .bool true) rfl (congrArg Value.bool g12_1)
    refine seq_one (op_skip hf8 rfl rfl rfl rfl fun ac8 hf9 => ?_)
    refine seq_one (op_skip hf9 rfl rfl rfl rfl fun ac9 hf10 => ?_)
    refine seq_one (op_skip hf10 rfl rfl rfl rfl fun ac10 hf11 => ?_)
    refine seq_one (op_skip hf11 rfl rfl rfl rfl fun ac11 hf12 => ?_)
    refine seq_one (op_skip hf12 rfl rfl rfl rfl fun ac12 hf13 => ?_)
    refine seq_one (op_val (v := .bool true) hf13 rfl rfl rfl rfl rfl rfl (r_pickT rfl rfl) fun ac13 hf14 => ?_)
    refine seq_one (op_val (v := .bool true) hf14 rfl rfl rfl rfl rfl rfl (r_move rfl) fun ac14 hf15 => ?_)
    refine seq_one (op_skip hf15 rfl rfl rfl rfl fun ac15 hf16 => ?_)
    refine seq_one (op_skip hf16 rfl rfl rfl rfl fun ac16 hf17 => ?_)
    refine seq_one (op_val (v := .bool true) hf17 rfl rfl rfl rfl rfl rfl (r_pickT rfl rfl) fun ac17 hf18 => ?_)
    refine seq_one (op_val (v := .bool true) hf18 rfl rfl rfl rfl rfl rfl (r_move rfl) fun ac18 hf19 => ?_)
    refine seq_one (op_skip hf19 rfl rfl rfl rfl fun ac19 hf20 => ?_)
    refine seq_one (op_skip hf20 rfl rfl rfl rfl fun ac20 hf21 => ?_)
    refine seq_one (op_skip hf21 rfl rfl rfl rfl fun ac21 hf22 => ?_)
    refine seq_one (op_skip hf22 rfl rfl rfl rfl fun ac22 hf23 => ?_)
    refine seq_one (op_val (v := .bool true) hf23 rfl rfl rfl rfl rfl rfl (r_pickT rfl rfl) fun ac23 hf24 => ?_)
    refine seq_end ?_
    clear ac4 hf4 ac5 hf5 ac6 hf6 hf7 ac7 hf8 ac8 hf9 ac9 hf10 ac10 hf11 ac11 hf12 ac12 hf13 ac13 hf14 ac14 hf15 ac15 hf16 ac16 hf17 ac17 hf18 ac18 hf19 ac19 hf20 ac20 hf21 ac21 hf22 ac22 hf23
    refine then_normal ?_
    refine code_if_true hf24 rfl ?_
    refine code_seq ?_
    refine seq_start (l := [0, 1, 2]) rfl ?_
    refine seq_one (op_val (v := .agg #[.int .i64 (N : Int), .slice P LL.length C]) hf24 rfl rfl rfl rfl rfl rfl (r_loadW ag_63 sz_63 rfl (hI5.at 0 rfl) rfl) fun ac24 hf25 => ?_)
    refine seq_one (op_storeW (cells := #[.int .i64 (N : Int), .slice P LL.length C]) 1 hf25 rfl rfl rfl rfl rfl sz_63 rfl rfl hI5 rfl rfl fun wd3 hI6 => ?_)
    have hI7 : Inv w [(b1, #[.int .i64 (N : Int), .slice P LL.length C], 63), (b2, #[.int .i64 (N : Int), .slice P LL.length C], 63)] wd3 := hI6
    refine seq_one (op_val (v := .int .i64 2) hf25 rfl rfl rfl rfl rfl rfl (r_assign rfl) fun ac25 hf26 => ?_)
    refine seq_end ?_
    clear ac23 hf24 wd2 hI5 hI6 ac24 hf25
    refine then_normal ?_
    refine wp_ret ?_
    refine then_ret ?_
    have hp := Ch.push_bad (c := c) (l := l) (n := n) (by have := of_decide_eq_true g12_1; omega)
    exact postC1 rfl hf26 rfl ag_63 sz_63 (hI7.at 1 rfl) rfl rfl ⟨[], P, C, LL, (by rw [hp.2]), (hI7.done (fresh_keys (ks := [b1, b2]) rfl (fk_cons hb1 (fk_cons hb2 fk_nil)))), (fun _ h => by cases h), (by rw [hp.1]; exact hc), fun w0 SB h => h.mono (fun _ hx => List.mem_append_left _ hx)⟩
  · have hf27 := hf7.know 12 (u := .bool false) rfl (congrArg Value.bool g12_1)
    refine seq_one (op_val (v := .int .i64 l) hf27 rfl rfl rfl rfl rfl rfl (r_move rfl) fun ac26 hf28 => ?_)
    refine seq_one (op_val (v := .pointer (some ⟨b1, 1, none⟩)) hf28 rfl rfl rfl rfl rfl rfl (r_fieldAddr fi_63_1 rfl rfl) fun ac27 hf29 => ?_)
    refine seq_one (op_val (v := .slice P LL.length C) hf29 rfl rfl rfl rfl rfl rfl (r_load ag_61 rfl (hI5.at 0 rfl) rfl) fun ac28 hf30 => ?_)
    refine seq_one (op_val (v := .int .i64 ((LL.length : Nat) : Int)) hf30 rfl rfl rfl rfl rfl rfl (r_len sl_61 rfl) fun ac29 hf31 => ?_)
    refine seq_one (op_val (v := .bool (decide (l ≥ ((LL.length : Nat) : Int)))) hf31 rfl rfl rfl rfl rfl rfl (r_geq rfl rfl) fun ac30 hf32 => ?_)
    refine seq_one (op_val (v := .bool (decide (l ≥ ((LL.length : Nat) : Int)))) hf32 rfl rfl rfl rfl rfl rfl (r_pickF rfl rfl) fun ac31 hf33 => ?_)
    refine seq_one (op_val (v := .bool (decide (l ≥ ((LL.length : Nat) : Int)))) hf33 rfl rfl rfl rfl rfl rfl (r_move rfl) fun ac32 hf34 => ?_)
    rcases Bool.eq_false_or_eq_true (decide (l ≥ ((LL.length : Nat) : Int)) : Bool) with g19_2 | g19_2
    · have hf35 := hf34.know 19 (u := .bool true) rfl (congrArg Value.bool g19_2)
      refine seq_one (op_skip hf35 rfl rfl rfl rfl fun ac33 hf36 => ?_)
      refine seq_one (op_skip hf36 rfl rfl rfl rfl fun ac34 hf37 => ?_)
      refine seq_one (op_val (v := .bool true) hf37 rfl rfl rfl rfl rfl rfl (r_pickT rfl rfl) fun ac35 hf38 => ?_)
      refine seq_one (op_val (v := .bool true) hf38 rfl rfl rfl rfl rfl rfl (r_move rfl) fun ac36 hf39 => ?_)
      refine seq_one (op_skip hf39 rfl rfl rfl rfl fun ac37 hf40 => ?_)
      refine seq_one (op_skip hf40 rfl rfl rfl rfl fun ac38 hf41 => ?_)
      refine seq_one (op_skip hf41 rfl rfl rfl rfl fun ac39 hf42 => ?_)
      refine seq_one (op_skip hf42 rfl rfl rfl rfl fun ac40 hf43 => ?_)
      refine seq_one (op_val (v := .bool true) hf43 rfl rfl rfl rfl rfl rfl (r_pickT rfl rfl) fun ac41 hf44 => ?_)
      refine seq_end ?_
      clear ac4 hf4 ac5 hf5 ac6 hf6 hf7 ac7 hf27 ac26 hf28 ac27 hf29 ac28 hf30 ac29 hf31 ac30 hf32 ac31 hf33 hf34 ac32 hf35 ac33 hf36 ac34 hf37 ac35 hf38 ac36 hf39 ac37 hf40 ac38 hf41 ac39 hf42 ac40 hf43
      refine then_normal ?_
      refine code_if_true hf44 rfl ?_
      refine code_seq ?_
      refine seq_start (l := [0, 1, 2]) rfl ?_
      refine seq_one (op_val (v := .agg #[.int .i64 (N : Int), .slice P LL.length C]) hf44 rfl rfl rfl rfl rfl rfl (r_loadW ag_63 sz_63 rfl (hI5.at 0 rfl) rfl) fun ac42 hf45 => ?_)
      refine seq_one (op_storeW (cells := #[.int .i64 (N : Int), .slice P LL.length C]) 1 hf45 rfl rfl rfl rfl rfl sz_63 rfl rfl hI5 rfl rfl fun wd4 hI8 => ?_)
      have hI9 : Inv w [(b1, #[.int .i64 (N : Int), .slice P LL.length C], 63), (b2, #[.int .i64 (N : Int), .slice P LL.length C], 63)] wd4 := hI8
      refine seq_one (op_val (v := .int .i64 2) hf45 rfl rfl rfl rfl rfl rfl (r_assign rfl) fun ac43 hf46 => ?_)
      refine seq_end ?_
      clear ac41 hf44 wd2 hI5 hI8 ac42 hf45
      refine then_normal ?_
      refine wp_ret ?_
      refine then_ret ?_
      have hp := Ch.push_bad (c := c) (l := l) (n := n) (by have := of_decide_eq_true g19_2; omega)
      exact postC1 rfl hf46 rfl ag_63 sz_63 (hI9.at 1 rfl) rfl rfl ⟨[], P, C, LL, (by rw [hp.2]), (hI9.done (fresh_keys (ks := [b1, b2]) rfl (fk_cons hb1 (fk_cons hb2 fk_nil)))), (fun _ h => by cases h), (by rw [hp.1]; exact hc), fun w0 SB h => h.mono (fun _ hx => List.mem_append_left _ hx)⟩
    · have hf47 := hf34.know 19 (u := .bool false) rfl (congrArg Value.bool g19_2)
      refine seq_one (op_val (v := .int .i64 n) hf47 rfl rfl rfl rfl rfl rfl (r_move rfl) fun ac44 hf48 => ?_)
      refine seq_one (op_val (v := .bool (decide (n < 0))) hf48 rfl rfl rfl rfl rfl rfl (r_lss rfl rfl) fun ac45 hf49 => ?_)
      refine seq_one (op_val (v := .bool (decide (n < 0))) hf49 rfl rfl rfl rfl rfl rfl (r_pickF rfl rfl) fun ac46 hf50 => ?_)
      refine seq_one (op_val (v := .bool (decide (n < 0))) hf50 rfl rfl rfl rfl rfl rfl (r_move rfl) fun ac47 hf51 => ?_)
      rcases Bool.eq_false_or_eq_true (decide (n < 0) : Bool) with g23_3 | g23_3
      · have hf52 := hf51.know 23 (u := .bool true) rfl (congrArg Value.bool g23_3)
        refine seq_one (op_skip hf52 rfl rfl rfl rfl fun ac48 hf53 => ?_)
        refine seq_one (op_skip hf53 rfl rfl rfl rfl fun ac49 hf54 => ?_)
        refine seq_one (op_skip hf54 rfl rfl rfl rfl fun ac50 hf55 => ?_)
        refine seq_one (op_skip hf55 rfl rfl rfl rfl fun ac51 hf56 => ?_)
        refine seq_one (op_val (v := .bool true) hf56 rfl rfl rfl rfl rfl rfl (r_pickT rfl rfl) fun ac52 hf57 => ?_)
        refine seq_end ?_
        clear ac4 hf4 ac5 hf5 ac6 hf6 hf7 ac7 hf27 ac26 hf28 ac27 hf29 ac28 hf30 ac29 hf31 ac30 hf32 ac31 hf33 hf34 ac32 hf47 ac44 hf48 ac45 hf49 ac46 hf50 hf51 ac47 hf52 ac48 hf53 ac49 hf54 ac50 hf55 ac51 hf56
        refine then_normal ?_
        refine code_if_true hf57 rfl ?_
        refine code_seq ?_
        refine seq_start (l := [0, 1, 2]) rfl ?_
        refine seq_one (op_val (v := .agg #[.int .i64 (N : Int), .slice P LL.length C]) hf57 rfl rfl rfl rfl rfl rfl (r_loadW ag_63 sz_63 rfl (hI5.at 0 rfl) rfl) fun ac53 hf58 => ?_)
        refine seq_one (op_storeW (cells := #[.int .i64 (N : Int), .slice P LL.length C]) 1 hf58 rfl rfl rfl rfl rfl sz_63 rfl rfl hI5 rfl rfl fun wd5 hI10 => ?_)
        have hI11 : Inv w [(b1, #[.int .i64 (N : Int), .slice P LL.length C], 63), (b2, #[.int .i64 (N : Int), .slice P LL.length C], 63)] wd5 := hI10
        refine seq_one (op_val (v := .int .i64 2) hf58 rfl rfl rfl rfl rfl rfl (r_assign rfl) fun ac54 hf59 => ?_)
        refine seq_end ?_
        clear ac52 hf57 wd2 hI5 hI10 ac53 hf58
        refine then_normal ?_
        refine wp_ret ?_
        refine then_ret ?_
        have hp := Ch.push_bad (c := c) (l := l) (n := n) (by have := of_decide_eq_true g23_3; omega)
        exact postC1 rfl hf59 rfl ag_63 sz_63 (hI11.at 1 rfl) rfl rfl ⟨[], P, C, LL, (by rw [hp.2]), (hI11.done (fresh_keys (ks := [b1, b2]) rfl (fk_cons hb1 (fk_cons hb2 fk_nil)))), (fun _ h => by cases h), (by rw [hp.1]; exact hc), fun w0 SB h => h.mono (fun _ hx => List.mem_append_left _ hx)⟩
      · have hf60 := hf51.know 23 (u := .bool false) rfl (congrArg Value.bool g23_3)
        refine seq_one (op_val (v := .int .i64 n) hf60 rfl rfl rfl rfl rfl rfl (r_move rfl) fun ac55 hf61 => ?_)
        refine seq_one (op_val (v := .pointer (some ⟨b1, 0, none⟩)) hf61 rfl rfl rfl rfl rfl rfl (r_fieldAddr fi_63_0 rfl rfl) fun ac56 hf62 => ?_)
        refine seq_one (op_val (v := .int .i64 (N : Int)) hf62 rfl rfl rfl rfl rfl rfl (r_load ag_3 rfl (hI5.at 0 rfl) rfl) fun ac57 hf63 => ?_)
        refine seq_one (op_val (v := .bool (decide (n ≥ (N : Int)))) hf63 rfl rfl rfl rfl rfl rfl (r_geq rfl rfl) fun ac58 hf64 => ?_)
        refine seq_one (op_val (v := .bool (decide (n ≥ (N : Int)))) hf64 rfl rfl rfl rfl rfl rfl (r_pickF rfl rfl) fun ac59 hf65 => ?_)
        refine seq_end ?_
        clear ac4 hf4 ac5 hf5 ac6 hf6 hf7 ac7 hf27 ac26 hf28 ac27 hf29 ac28 hf30 ac29 hf31 ac30 hf32 ac31 hf33 hf34 ac32 hf47 ac44 hf48 ac45 hf49 ac46 hf50 hf51 ac47 hf60 ac55 hf61 ac56 hf62 ac57 hf63 ac58 hf64
        refine then_normal ?_
        refine code_if hf65 rfl (fun c28_4 => ?_) (fun c28_4 => ?_)
        · have hf66 := hf65.know 28 (u := .bool true) rfl (congrArg Value.bool c28_4)
          refine code_seq ?_
          refine seq_start (l := [0, 1, 2]) rfl ?_
          refine seq_one (op_val (v := .agg #[.int .i64 (N : Int), .slice P LL.length C]) hf66 rfl rfl rfl rfl rfl rfl (r_loadW ag_63 sz_63 rfl (hI5.at 0 rfl) rfl) fun ac60 hf67 => ?_)
          refine seq_one (op_storeW (cells := #[.int .i64 (N : Int), .slice P LL.length C]) 1 hf67 rfl rfl rfl rfl rfl sz_63 rfl rfl hI5 rfl rfl fun wd6 hI12 => ?_)
          have hI13 : Inv w [(b1, #[.int .i64 (N : Int), .slice P LL.length C], 63), (b2, #[.int .i64 (N : Int), .slice P LL.length C], 63)] wd6 := hI12
          refine seq_one (op_val (v := .int .i64 2) hf67 rfl rfl rfl rfl rfl rfl (r_assign rfl) fun ac61 hf68 => ?_)
          refine seq_end ?_
          clear hf65 ac59 hf66 wd2 hI5 hI12 ac60 hf67
          refine then_normal ?_
          refine wp_ret ?_
          refine then_ret ?_
          have hp := Ch.push_bad (c := c) (l := l) (n := n) (by have := of_decide_eq_true c28_4; omega)
          exact postC1 rfl hf68 rfl ag_63 sz_63 (hI13.at 1 rfl) rfl rfl ⟨[], P, C, LL, (by rw [hp.2]), (hI13.done (fresh_keys (ks := [b1, b2]) rfl (fk_cons hb1 (fk_cons hb2 fk_nil)))), (fun _ h => by cases h), (by rw [hp.1]; exact hc), fun w0 SB h => h.mono (fun _ hx => List.mem_append_left _ hx)⟩
        · have hf69 := hf65.know 28 (u := .bool false) rfl (congrArg Value.bool c28_4)
          refine wp_skip ?_
          refine then_normal ?_
          refine code_seq ?_
          refine seq_start (l := [0, 1, 2, 3, 4, 5, 6, 7]) rfl ?_
          refine seq_one (op_val (v := .agg #[.int .i64 (N : Int), .slice P LL.length C]) hf69 rfl rfl rfl rfl rfl rfl (r_loadW ag_63 sz_63 rfl (hI5.at 0 rfl) rfl) fun ac62 hf70 => ?_)
          refine seq_one (op_val (v := .int .i64 n) hf70 rfl rfl rfl rfl rfl rfl (r_move rfl) fun ac63 hf71 => ?_)
          refine seq_one (op_pureW hf71 rfl rfl rfl rfl ca_42 (rin_walk (n := n) hc (VL.start_le (VL.start (SS := []) hlC hr0 hrd)) (VL.rows (VL.start (SS := []) hlC hr0 hrd) hI5 (fresh_keys (ks := [b1, b2]) rfl (fk_cons hb1 (fk_cons hb2 fk_nil))) (fun _ h => by cases h)) (VL.rds (VL.start (SS := []) hlC hr0 hrd) hI5 (fresh_keys (ks := [b1, b2]) rfl (fk_cons hb1 (fk_cons hb2 fk_nil))) (fun _ h => by cases h))) hI5 fun ac64 wd7 hI14 hf72 => ?_)
          refine seq_one (op_val (v := .tuple #[.int .i64 (c.atV n), .bool (c.inn n)]) hf72 rfl rfl rfl rfl rfl rfl (r_move rfl) fun ac65 hf73 => ?_)
          refine seq_one (op_val (v := .int .i64 (c.atV n)) hf73 rfl rfl rfl rfl rfl rfl (r_extract rfl rfl) fun ac66 hf74 => ?_)
          refine seq_one (op_val (v := .bool (c.inn n)) hf74 rfl rfl rfl rfl rfl rfl (r_extract rfl rfl) fun ac67 hf75 => ?_)
          refine seq_one (op_val (v := .int .i64 (c.atV n)) hf75 rfl rfl rfl rfl rfl rfl (r_assign rfl) fun ac68 hf76 => ?_)
          refine seq_one (op_val (v := .bool (c.inn n)) hf76 rfl rfl rfl rfl rfl rfl (r_assign rfl) fun ac69 hf77 => ?_)
          refine seq_end ?_
          clear hf65 ac59 hf69 ac62 hf70 ac63 wd2 hI5 hf71 ac64 hf72 ac65 hf73 ac66 hf74 ac67 hf75 ac68 hf76
          refine then_normal ?_
          refine code_seq ?_
          refine code_seq ?_
          refine seq_start (l := [0]) rfl ?_
          refine seq_one (op_val (v := .bool (c.inn n)) hf77 rfl rfl rfl rfl rfl rfl (r_move rfl) fun ac70 hf78 => ?_)
          refine seq_end ?_
          clear ac69 hf77
          refine then_normal ?_
          refine code_if hf78 rfl (fun c36_5 => ?_) (fun c36_5 => ?_)
          · have hf79 := hf78.know 36 (u := .bool true) rfl (congrArg Value.bool c36_5)
            refine code_seq ?_
            refine seq_start (l := [0, 1, 2]) rfl ?_
            refine seq_one (op_val (v := .agg #[.int .i64 (N : Int), .slice P LL.length C]) hf79 rfl rfl rfl rfl rfl rfl (r_loadW ag_63 sz_63 rfl (hI14.at 0 rfl) rfl) fun ac71 hf80 => ?_)
            refine seq_one (op_storeW (cells := #[.int .i64 (N : Int), .slice P LL.length C]) 1 hf80 rfl rfl rfl rfl rfl sz_63 rfl rfl hI14 rfl rfl fun wd8 hI15 => ?_)
            have hI16 : Inv w [(b1, #[.int .i64 (N : Int), .slice P LL.length C], 63), (b2, #[.int .i64 (N : Int), .slice P LL.length C], 63)] wd8 := hI15
            refine seq_one (op_val (v := .int .i64 50) hf80 rfl rfl rfl rfl rfl rfl (r_assign rfl) fun ac72 hf81 => ?_)
            refine seq_end ?_
            clear hf78 ac70 hf79 wd7 hI14 hI15 ac71 hf80
            refine then_normal ?_
            refine wp_ret ?_
            refine then_ret ?_
            have hp := Ch.push_full (c := c) (l := l) (n := n) (by have := of_decide_eq_false g12_1; have := of_decide_eq_false g19_2; omega) (by have := of_decide_eq_false g23_3; have := of_decide_eq_false c28_4; omega) c36_5
            exact postC1 rfl hf81 rfl ag_63 sz_63 (hI16.at 1 rfl) rfl rfl ⟨[], P, C, LL, (by rw [hp.2]), (hI16.done (fresh_keys (ks := [b1, b2]) rfl (fk_cons hb1 (fk_cons hb2 fk_nil)))), (fun _ h => by cases h), (by rw [hp.1]; exact hc), fun w0 SB h => h.mono (fun _ hx => List.mem_append_left _ hx)⟩
          · have hf82 := hf78.know 36 (u := .bool false) rfl (congrArg Value.bool c36_5)
            refine wp_skip ?_
            refine then_normal ?_
            refine code_seq ?_
            have hrd3_0 := (VL.rows (VL.start (SS := []) hlC hr0 hrd) hI14 (fresh_keys (ks := [b1, b2]) rfl (fk_cons hb1 (fk_cons hb2 fk_nil))) (fun _ h => by cases h))
            refine any_start (fun w => Has [(b1, #[.int .i64 (N : Int), .slice P LL.length C], 63)] w ∧ Rows_ w P 1 (rws LL)) follows ⟨Has.drew (Has.cons (hI14.at 0 rfl) Has.nil), hrd3_0⟩ ?_
            have hS1 : Has [(b1, #[.int .i64 (N : Int), .slice P LL.length C], 63)] _ ∧ Rows_ _ P 1 (rws LL) := ⟨Has.drew (Has.cons (hI14.at 0 rfl) Has.nil), hrd3_0⟩
            have hI17 := hI14.drew
            refine any_val (i := 0) (v := .agg #[.int .i64 (N : Int), .slice P LL.length C]) hf82 rfl rfl rfl rfl rfl rfl (fun _ _ _ h => h) (by kernel_rfl) (by kernel_rfl) (by kernel_rfl) (fun wd7 hS1 => (r_loadW ag_63 sz_63 rfl (hS1.1.at 0 rfl) rfl)) hS1 fun ac73 hf83 => ?_
            refine any_val (i := 1) (v := .int .i64 l) hf83 rfl rfl rfl rfl rfl rfl (fun _ _ _ h => h) (by kernel_rfl) (by kernel_rfl) (by kernel_rfl) (fun wd7 hS1 => (r_move rfl)) hS1 fun ac74 hf84 => ?_
            refine any_val (i := 3) (v := .pointer (some ⟨b1, 1, none⟩)) hf84 rfl rfl rfl rfl rfl rfl (fun _ _ _ h => h) (by kernel_rfl) (by kernel_rfl) (by kernel_rfl) (fun wd7 hS1 => (r_fieldAddr fi_63_1 rfl rfl)) hS1 fun ac75 hf85 => ?_
            refine any_val (i := 4) (v := .slice P LL.length C) hf85 rfl rfl rfl rfl rfl rfl (fun _ _ _ h => h) (by kernel_rfl) (by kernel_rfl) (by kernel_rfl) (fun wd7 hS1 => (r_load ag_61 rfl (hS1.1.at 0 rfl) rfl)) hS1 fun ac76 hf86 => ?_
            refine any_val (i := 5) (v := .int .i64 l) hf86 rfl rfl rfl rfl rfl rfl (fun _ _ _ h => h) (by kernel_rfl) (by kernel_rfl) (by kernel_rfl) (fun wd7 hS1 => (r_move rfl)) hS1 fun ac77 hf87 => ?_
            refine any_val (i := 6) (v := .pointer (slAt P (l.toNat * 1))) hf87 rfl rfl rfl rfl rfl rfl (fun _ _ _ h => h) (by kernel_rfl) (by kernel_rfl) (by kernel_rfl) (fun wd7 hS1 => (r_indexAddrR (i := l.toNat) (sz := 1) sl_61 rfl rfl (by have := of_decide_eq_false g12_1; omega) (by have := of_decide_eq_false g12_1; have := of_decide_eq_false g19_2; omega) rfl ⟨_, ((VL.rows (VL.start (SS := []) hlC hr0 hrd) hI17 (fresh_keys (ks := [b1, b2]) rfl (fk_cons hb1 (fk_cons hb2 fk_nil))) (fun _ h => by cases h)) _ _ (rws_get (LL := LL) (j := l.toNat) (by have := of_decide_eq_false g12_1; have := of_decide_eq_false g19_2; omega))).choose_spec.1⟩)) hS1 fun ac78 hf88 => ?_
            refine any_val (i := 7) (v := .slice ((LL.getD l.toNat eD).1) ((LL.getD l.toNat eD).2.2.length) ((LL.getD l.toNat eD).2.1)) hf88 rfl rfl rfl rfl rfl rfl (fun _ _ _ h => h) (by kernel_rfl) (by kernel_rfl) (by kernel_rfl) (fun wd7 hS1 => (r_loadE ag_27 rfl hS1.2 (rws_get (LL := LL) (j := l.toNat) (by have := of_decide_eq_false g12_1; have := of_decide_eq_false g19_2; omega)) rfl)) hS1 fun ac79 hf89 => ?_
            refine any_val (i := 9) (v := .int .i64 n) hf89 rfl rfl rfl rfl rfl rfl (fun _ _ _ h => h) (by kernel_rfl) (by kernel_rfl) (by kernel_rfl) (fun wd7 hS1 => (r_move rfl)) hS1 fun ac80 hf90 => ?_
            refine any_two (i := 2) (j := 10) (by kernel_rfl) ?_ ?_
            ·
              refine (op_bslice (s := 3) (cells := #[]) hf90 rfl rfl rfl rfl rfl (fun _ => by kernel_rfl) hI17 fun ac81 b4 wd9 hb4 hI18 hf91 => ⟨?_, ?_⟩)
              · exact ⟨(Has.cons (hI18.at 0 rfl) Has.nil), (VL.rows (VL.start (SS := []) hlC hr0 hrd) hI18 (fresh_keys (ks := [b1, b2, b4]) rfl (fk_cons hb1 (fk_cons hb2 (fk_cons hb4 fk_nil)))) (fun _ h => by cases h))⟩
              have hI19 : Inv w [(b1, #[.int .i64 (N : Int), .slice P LL.length C], 63), (b2, #[.int .i64 0, .slice none 0 0], 63), (b4, #[], 3)] wd9 := hI18
              have hS2 : Has [(b1, #[.int .i64 (N : Int), .slice P LL.length C], 63)] _ ∧ Rows_ _ P 1 (rws LL) := ⟨(Has.cons (hI19.at 0 rfl) Has.nil), (VL.rows (VL.start (SS := []) hlC hr0 hrd) hI19 (fresh_keys (ks := [b1, b2, b4]) rfl (fk_cons hb1 (fk_cons hb2 (fk_cons hb4 fk_nil)))) (fun _ h => by cases h))⟩
              refine any_two (i := 8) (j := 10) (by kernel_rfl) ?_ ?_
              ·
                have hI20 : Inv w ([(b1, #[.int .i64 (N : Int), .slice P LL.length C], 63), (b2, #[.int .i64 0, .slice none 0 0], 63)] ++ [(b4, #[], 3)]) _ := hI19
                refine (op_appendN (A := [(b1, #[.int .i64 (N : Int), .slice P LL.length C], 63), (b2, #[.int .i64 0, .slice none 0 0], 63)]) (S := [(b4, #[], 3)]) (xs := []) (ys := (LL.getD l.toNat eD).2.2) rfl rfl hf91 rfl rfl rfl us_27 if_3 rfl Sl.lit0 rfl (VN.rd (VL.get (VL.start (SS := []) hlC hr0 hrd) (by have := of_decide_eq_false g12_1; have := of_decide_eq_false g19_2; omega)) hI20 (fk_app (fresh_keys (ks := [b1, b2]) rfl (fk_cons hb1 (fk_cons hb2 fk_nil))) (fun x hx => by simp only [List.mem_singleton] at hx; subst hx; exact hb4)) (fun _ h => by cases h)) hI20 (fun x hx => by simp only [List.mem_singleton] at hx; subst hx; exact hb4) (by simp only [List.length_append, List.length_nil, List.length_cons, maxLen]; have := hc.le (j := l.toNat) (by have := of_decide_eq_false g12_1; have := of_decide_eq_false g19_2; omega); omega) (by simp only [List.length_append, List.length_nil, List.length_cons, Nat.zero_add]; have := hc.le (j := l.toNat) (by have := of_decide_eq_false g12_1; have := of_decide_eq_false g19_2; omega); omega) fun ac82 p5 capp5 Sp5 wd10 hsp5 hzp5 hI21 hf92 => ⟨?_, ?_⟩)
                ·
                  have hI22 : Inv w ([(b1, #[.int .i64 (N : Int), .slice P LL.length C], 63), (b2, #[.int .i64 0, .slice none 0 0], 63)] ++ Sp5) wd10 := hI21
                  exact ⟨(Has.cons (hI22.at 0 rfl) Has.nil), (VL.rows (VL.start (SS := []) hlC hr0 hrd) hI22 (fk_app (fresh_keys (ks := [b1, b2]) rfl (fk_cons hb1 (fk_cons hb2 fk_nil))) hzp5) (fun _ h => by cases h))⟩
                have hI23 : Inv w ([(b1, #[.int .i64 (N : Int), .slice P LL.length C], 63), (b2, #[.int .i64 0, .slice none 0 0], 63)] ++ Sp5) wd10 := hI21
                have hS3 : Has [(b1, #[.int .i64 (N : Int), .slice P LL.length C], 63)] _ ∧ Rows_ _ P 1 (rws LL) := ⟨(Has.cons (hI23.at 0 rfl) Has.nil), (VL.rows (VL.start (SS := []) hlC hr0 hrd) hI23 (fk_app (fresh_keys (ks := [b1, b2]) rfl (fk_cons hb1 (fk_cons hb2 fk_nil))) hzp5) (fun _ h => by cases h))⟩
                refine any_one (i := 10) (by kernel_rfl) ?_
                refine (op_bslice (s := 3) (cells := #[.int .i64 n]) hf92 rfl rfl rfl rfl rfl (fun _ => by kernel_rfl) hI23 fun ac83 b6 wd11 hb6 hI24 hf93 => ⟨?_, ?_⟩)
                ·
                  have hI25 : Inv w ([(b1, #[.int .i64 (N : Int), .slice P LL.length C], 63), (b2, #[.int .i64 0, .slice none 0 0], 63), (b6, #[.int .i64 n], 3)] ++ Sp5) wd11 := Inv.tail (A := [(b1, #[.int .i64 (N : Int), .slice P LL.length C], 63), (b2, #[.int .i64 0, .slice none 0 0], 63)]) (T := Sp5) (N := [(b6, #[.int .i64 n], 3)]) hI24
                  exact ⟨(Has.cons (hI25.at 0 rfl) Has.nil), (VL.rows (VL.start (SS := []) hlC hr0 hrd) hI25 (fk_app (fresh_keys (ks := [b1, b2, b6]) rfl (fk_cons hb1 (fk_cons hb2 (fk_cons hb6 fk_nil)))) hzp5) (fun _ h => by cases h))⟩
                have hI26 : Inv w ([(b1, #[.int .i64 (N : Int), .slice P LL.length C], 63), (b2, #[.int .i64 0, .slice none 0 0], 63), (b6, #[.int .i64 n], 3)] ++ Sp5) wd11 := Inv.tail (A := [(b1, #[.int .i64 (N : Int), .slice P LL.length C], 63), (b2, #[.int .i64 0, .slice none 0 0], 63)]) (T := Sp5) (N := [(b6, #[.int .i64 n], 3)]) hI24
                have hS4 : Has [(b1, #[.int .i64 (N : Int), .slice P LL.length C], 63)] _ ∧ Rows_ _ P 1 (rws LL) := ⟨(Has.cons (hI26.at 0 rfl) Has.nil), (VL.rows (VL.start (SS := []) hlC hr0 hrd) hI26 (fk_app (fresh_keys (ks := [b1, b2, b6]) rfl (fk_cons hb1 (fk_cons hb2 (fk_cons hb6 fk_nil)))) hzp5) (fun _ h => by cases h))⟩
                refine any_one (i := 11) (by kernel_rfl) ?_
                refine (op_appendN (A := [(b1, #[.int .i64 (N : Int), .slice P LL.length C], 63), (b2, #[.int .i64 0, .slice none 0 0], 63), (b6, #[.int .i64 n], 3)]) (S := Sp5) (xs := ([] ++ (LL.getD l.toNat eD).2.2)) (ys := [n]) rfl rfl hf93 rfl rfl rfl us_27 if_3 rfl hsp5 rfl (Rd.blk (xs := [n]) (hI26.at 2 rfl) rfl) hI26 hzp5 (by simp only [List.length_append, List.length_nil, List.length_cons, maxLen]; have := hc.le (j := l.toNat) (by have := of_decide_eq_false g12_1; have := of_decide_eq_false g19_2; omega); omega) (by simp only [List.length_append, List.length_nil, List.length_cons, Nat.zero_add]; have := hc.le (j := l.toNat) (by have := of_decide_eq_false g12_1; have := of_decide_eq_false g19_2; omega); omega) fun ac84 p7 capp7 Sp7 wd12 hsp7 hzp7 hI27 hf94 => ⟨?_, ?_⟩)
                ·
                  have hI28 : Inv w ([(b1, #[.int .i64 (N : Int), .slice P LL.length C], 63), (b2, #[.int .i64 0, .slice none 0 0], 63), (b6, #[.int .i64 n], 3)] ++ Sp7) wd12 := hI27
                  exact ⟨(Has.cons (hI28.at 0 rfl) Has.nil), (VL.rows (VL.start (SS := []) hlC hr0 hrd) hI28 (fk_app (fresh_keys (ks := [b1, b2, b6]) rfl (fk_cons hb1 (fk_cons hb2 (fk_cons hb6 fk_nil)))) hzp7) (fun _ h => by cases h))⟩
                have hI29 : Inv w ([(b1, #[.int .i64 (N : Int), .slice P LL.length C], 63), (b2, #[.int .i64 0, .slice none 0 0], 63), (b6, #[.int .i64 n], 3)] ++ Sp7) wd12 := hI27
                have hS5 : Has [(b1, #[.int .i64 (N : Int), .slice P LL.length C], 63)] _ ∧ Rows_ _ P 1 (rws LL) := ⟨(Has.cons (hI29.at 0 rfl) Has.nil), (VL.rows (VL.start (SS := []) hlC hr0 hrd) hI29 (fk_app (fresh_keys (ks := [b1, b2, b6]) rfl (fk_cons hb1 (fk_cons hb2 (fk_cons hb6 fk_nil)))) hzp7) (fun _ h => by cases h))⟩
                refine any_one (i := 12) (by kernel_rfl) ?_
                refine (op_call (R := fun v w' => ∃ S P2 C2, v = .agg #[.int .i64 (N : Int), .slice P2 (LL.set (l).toNat (p7, capp7, (([] ++ (LL.getD l.toNat eD).2.2) ++ [n]))).length C2] ∧ SO S P2 C2 (LL.set (l).toNat (p7, capp7, (([] ++ (LL.getD l.toNat eD).2.2) ++ [n]))) ∧ Inv _ S w' ∧ ∀ x ∈ S, Array.size (World.heap _) ≤ x.1) hf94 rfl rfl rfl rfl ca_59 ((rwith_walk (n0 := (N : Int)) (l := l) (q := p7) (cq := capp7) (xs := (([] ++ (LL.getD l.toNat eD).2.2) ++ [n])) hc (VL.start_le (VL.start (SS := []) hlC hr0 hrd)) (VL.rows (VL.start (SS := []) hlC hr0 hrd) hI29 (fk_app (fresh_keys (ks := [b1, b2, b6]) rfl (fk_cons hb1 (fk_cons hb2 (fk_cons hb6 fk_nil)))) hzp7) (fun _ h => by cases h)) (VL.rds (VL.start (SS := []) hlC hr0 hrd) hI29 (fk_app (fresh_keys (ks := [b1, b2, b6]) rfl (fk_cons hb1 (fk_cons hb2 (fk_cons hb6 fk_nil)))) hzp7) (fun _ h => by cases h)) (by have := of_decide_eq_false g12_1; have := of_decide_eq_false g19_2; omega)).mono fun _ _ ⟨S, P2, C2, he, h1, h2, h3⟩ => ⟨_, he, S, P2, C2, rfl, h1, h2, h3⟩) fun ac85 v wd13 hR hf95 => ?_)
                obtain ⟨Sq8, q8, capq8, rfl, hsq8, hwq8, hzq8⟩ := hR
                have hyq8 := fk_le hI29.size hzq8
                have hI30 : Inv w ([(b1, #[.int .i64 (N : Int), .slice P LL.length C], 63), (b2, #[.int .i64 0, .slice none 0 0], 63), (b6, #[.int .i64 n], 3)] ++ (Sp7 ++ Sq8)) _ := hI29.callN hwq8 hzq8
                refine ⟨?_, ?_⟩
                · exact ⟨(Has.cons (hI30.at 0 rfl) Has.nil), (VL.rows (VL.start (SS := []) hlC hr0 hrd) hI30 (fk_app (fresh_keys (ks := [b1, b2, b6]) rfl (fk_cons hb1 (fk_cons hb2 (fk_cons hb6 fk_nil)))) (fk_app hzp7 hyq8)) (fun _ h => by cases h))⟩
                have hS6 : Has [(b1, #[.int .i64 (N : Int), .slice P LL.length C], 63)] _ ∧ Rows_ _ P 1 (rws LL) := ⟨(Has.cons (hI30.at 0 rfl) Has.nil), (VL.rows (VL.start (SS := []) hlC hr0 hrd) hI30 (fk_app (fresh_keys (ks := [b1, b2, b6]) rfl (fk_cons hb1 (fk_cons hb2 (fk_cons hb6 fk_nil)))) (fk_app hzp7 hyq8)) (fun _ h => by cases h))⟩
                refine any_one (i := 13) (by kernel_rfl) ?_
                refine (op_storeW (cells := #[.int .i64 (N : Int), .slice q8 ((LL.set (l).toNat (p7, capp7, (([] ++ (LL.getD l.toNat eD).2.2) ++ [n]))).length) capq8]) 1 hf95 rfl rfl rfl rfl rfl sz_63 rfl rfl hI30 rfl rfl fun wd14 hI31 => ⟨?_, ?_⟩)
                ·
                  have hI32 : Inv w ([(b1, #[.int .i64 (N : Int), .slice P LL.length C], 63), (b2, #[.int .i64 (N : Int), .slice q8 ((LL.set (l).toNat (p7, capp7, (([] ++ (LL.getD l.toNat eD).2.2) ++ [n]))).length) capq8], 63), (b6, #[.int .i64 n], 3)] ++ (Sp7 ++ Sq8)) wd14 := hI31
                  exact ⟨(Has.cons (hI32.at 0 rfl) Has.nil), (VL.rows (VL.start (SS := []) hlC hr0 hrd) hI32 (fk_app (fresh_keys (ks := [b1, b2, b6]) rfl (fk_cons hb1 (fk_cons hb2 (fk_cons hb6 fk_nil)))) (fk_app hzp7 hyq8)) (fun _ h => by cases h))⟩
                have hI33 : Inv w ([(b1, #[.int .i64 (N : Int), .slice P LL.length C], 63), (b2, #[.int .i64 (N : Int), .slice q8 ((LL.set (l).toNat (p7, capp7, (([] ++ (LL.getD l.toNat eD).2.2) ++ [n]))).length) capq8], 63), (b6, #[.int .i64 n], 3)] ++ (Sp7 ++ Sq8)) wd14 := hI31
                have hS7 : Has [(b1, #[.int .i64 (N : Int), .slice P LL.length C], 63)] _ ∧ Rows_ _ P 1 (rws LL) := ⟨(Has.cons (hI33.at 0 rfl) Has.nil), (VL.rows (VL.start (SS := []) hlC hr0 hrd) hI33 (fk_app (fresh_keys (ks := [b1, b2, b6]) rfl (fk_cons hb1 (fk_cons hb2 (fk_cons hb6 fk_nil)))) (fk_app hzp7 hyq8)) (fun _ h => by cases h))⟩
                refine any_val (i := 14) (v := .int .i64 0) hf95 rfl rfl rfl rfl rfl rfl (fun _ _ _ h => h) (by kernel_rfl) (by kernel_rfl) (by kernel_rfl) (fun wd14 hS7 => (r_assign rfl)) hS7 fun ac86 hf96 => ?_
                refine any_end (by kernel_rfl) ?_
                clear hf78 hrd3_0 hI14 ac70 hf82 ac73 hf83 ac74 hf84 ac75 hf85 ac76 hf86 ac77 hf87 ac78 hf88 ac79 hf89 ac80 wd7 hI17 hf90 hI18 hS1 hI19 ac81 wd9 hI20 hf91 hI21 hS2 ac82 wd10 hI23 hf92 hI24 hS3 ac83 wd11 hI26 hf93 hI27 hS4 ac84 wd12 hf94 hI29 hwq8 hzq8 hS5 wd13 hI30 hI31 hS6 ac85 hf95 hS7
                refine then_normal ?_
                refine wp_ret ?_
                have hp := Ch.push_lof (l := l) (n := n) hc (by have := of_decide_eq_false g12_1; have := of_decide_eq_false g19_2; omega) (by have := of_decide_eq_false g23_3; have := of_decide_eq_false c28_4; omega) c36_5 (q := p7) (cq := capp7)
                exact postC1 rfl hf96 rfl ag_63 sz_63 (hI33.at 1 rfl) rfl rfl ⟨(Sp7 ++ Sq8), q8, capq8, (LL.set (l).toNat (p7, capp7, (([] ++ (LL.getD l.toNat eD).2.2) ++ [n]))), (by rw [hp.2]), (Inv.keep (A := []) (N := [(b1, #[.int .i64 (N : Int), .slice P LL.length C], 63), (b2, #[.int .i64 (N : Int), .slice q8 ((LL.set (l).toNat (p7, capp7, (([] ++ (LL.getD l.toNat eD).2.2) ++ [n]))).length) capq8], 63), (b6, #[.int .i64 n], 3)]) (T := (Sp7 ++ Sq8)) hI33 (fresh_keys (ks := [b1, b2, b6]) rfl (fk_cons hb1 (fk_cons hb2 (fk_cons hb6 fk_nil))))), (fk_app hzp7 hyq8), hp.1, fun w0 SB h => VL.set h hsq8 hsp7⟩
              ·
                refine (op_bslice (s := 3) (cells := #[.int .i64 n]) hf91 rfl rfl rfl rfl rfl (fun _ => by kernel_rfl) hI19 fun ac87 b5 wd15 hb5 hI34 hf97 => ⟨?_, ?_⟩)
                · exact ⟨(Has.cons (hI34.at 0 rfl) Has.nil), (VL.rows (VL.start (SS := []) hlC hr0 hrd) hI34 (fresh_keys (ks := [b1, b2, b4, b5]) rfl (fk_cons hb1 (fk_cons hb2 (fk_cons hb4 (fk_cons hb5 fk_nil))))) (fun _ h => by cases h))⟩
                have hI35 : Inv w [(b1, #[.int .i64 (N : Int), .slice P LL.length C], 63), (b2, #[.int .i64 0, .slice none 0 0], 63), (b4, #[], 3), (b5, #[.int .i64 n], 3)] wd15 := hI34
                have hS8 : Has [(b1, #[.int .i64 (N : Int), .slice P LL.length C], 63)] _ ∧ Rows_ _ P 1 (rws LL) := ⟨(Has.cons (hI35.at 0 rfl) Has.nil), (VL.rows (VL.start (SS := []) hlC hr0 hrd) hI35 (fresh_keys (ks := [b1, b2, b4, b5]) rfl (fk_cons hb1 (fk_cons hb2 (fk_cons hb4 (fk_cons hb5 fk_nil))))) (fun _ h => by cases h))⟩
                refine any_one (i := 8) (by kernel_rfl) ?_
                have hI36 : Inv w ([(b1, #[.int .i64 (N : Int), .slice P LL.length C], 63), (b2, #[.int .i64 0, .slice none 0 0], 63), (b5, #[.int .i64 n], 3)] ++ [(b4, #[], 3)]) _ := Inv.tail (A := [(b1, #[.int .i64 (N : Int), .slice P LL.length C], 63), (b2, #[.int .i64 0, .slice none 0 0], 63)]) (T := [(b4, #[], 3)]) (N := [(b5, #[.int .i64 n], 3)]) hI35
                refine (op_appendN (A := [(b1, #[.int .i64 (N : Int), .slice P LL.length C], 63), (b2, #[.int .i64 0, .slice none 0 0], 63), (b5, #[.int .i64 n], 3)]) (S := [(b4, #[], 3)]) (xs := []) (ys := (LL.getD l.toNat eD).2.2) rfl rfl hf97 rfl rfl rfl us_27 if_3 rfl Sl.lit0 rfl (VN.rd (VL.get (VL.start (SS := []) hlC hr0 hrd) (by have := of_decide_eq_false g12_1; have := of_decide_eq_false g19_2; omega)) hI36 (fk_app (fresh_keys (ks := [b1, b2, b5]) rfl (fk_cons hb1 (fk_cons hb2 (fk_cons hb5 fk_nil)))) (fun x hx => by simp only [List.mem_singleton] at hx; subst hx; exact hb4)) (fun _ h => by cases h)) hI36 (fun x hx => by simp only [List.mem_singleton] at hx; subst hx; exact hb4) (by simp only [List.length_append, List.length_nil, List.length_cons, maxLen]; have := hc.le (j := l.toNat) (by have := of_decide_eq_false g12_1; have := of_decide_eq_false g19_2; omega); omega) (by simp only [List.length_append, List.length_nil, List.length_cons, Nat.zero_add]; have := hc.le (j := l.toNat) (by have := of_decide_eq_false g12_1; have := of_decide_eq_false g19_2; omega); omega) fun ac88 p6 capp6 Sp6 wd16 hsp6 hzp6 hI37 hf98 => ⟨?_, ?_⟩)
                ·
                  have hI38 : Inv w ([(b1, #[.int .i64 (N : Int), .slice P LL.length C], 63), (b2, #[.int .i64 0, .slice none 0 0], 63), (b5, #[.int .i64 n], 3)] ++ Sp6) wd16 := hI37
                  exact ⟨(Has.cons (hI38.at 0 rfl) Has.nil), (VL.rows (VL.start (SS := []) hlC hr0 hrd) hI38 (fk_app (fresh_keys (ks := [b1, b2, b5]) rfl (fk_cons hb1 (fk_cons hb2 (fk_cons hb5 fk_nil)))) hzp6) (fun _ h => by cases h))⟩
                have hI39 : Inv w ([(b1, #[.int .i64 (N : Int), .slice P LL.length C], 63), (b2, #[.int .i64 0, .slice none 0 0], 63), (b5, #[.int .i64 n], 3)] ++ Sp6) wd16 := hI37
                have hS9 : Has [(b1, #[.int .i64 (N : Int), .slice P LL.length C], 63)] _ ∧ Rows_ _ P 1 (rws LL) := ⟨(Has.cons (hI39.at 0 rfl) Has.nil), (VL.rows (VL.start (SS := []) hlC hr0 hrd) hI39 (fk_app (fresh_keys (ks := [b1, b2, b5]) rfl (fk_cons hb1 (fk_cons hb2 (fk_cons hb5 fk_nil)))) hzp6) (fun _ h => by cases h))⟩
                refine any_one (i := 11) (by kernel_rfl) ?_
                refine (op_appendN (A := [(b1, #[.int .i64 (N : Int), .slice P LL.length C], 63), (b2, #[.int .i64 0, .slice none 0 0], 63), (b5, #[.int .i64 n], 3)]) (S := Sp6) (xs := ([] ++ (LL.getD l.toNat eD).2.2)) (ys := [n]) rfl rfl hf98 rfl rfl rfl us_27 if_3 rfl hsp6 rfl (Rd.blk (xs := [n]) (hI39.at 2 rfl) rfl) hI39 hzp6 (by simp only [List.length_append, List.length_nil, List.length_cons, maxLen]; have := hc.le (j := l.toNat) (by have := of_decide_eq_false g12_1; have := of_decide_eq_false g19_2; omega); omega) (by simp only [List.length_append, List.length_nil, List.length_cons, Nat.zero_add]; have := hc.le (j := l.toNat) (by have := of_decide_eq_false g12_1; have := of_decide_eq_false g19_2; omega); omega) fun ac89 p7 capp7 Sp7 wd17 hsp7 hzp7 hI40 hf99 => ⟨?_, ?_⟩)
                ·
                  have hI41 : Inv w ([(b1, #[.int .i64 (N : Int), .slice P LL.length C], 63), (b2, #[.int .i64 0, .slice none 0 0], 63), (b5, #[.int .i64 n], 3)] ++ Sp7) wd17 := hI40
                  exact ⟨(Has.cons (hI41.at 0 rfl) Has.nil), (VL.rows (VL.start (SS := []) hlC hr0 hrd) hI41 (fk_app (fresh_keys (ks := [b1, b2, b5]) rfl (fk_cons hb1 (fk_cons hb2 (fk_cons hb5 fk_nil)))) hzp7) (fun _ h => by cases h))⟩
                have hI42 : Inv w ([(b1, #[.int .i64 (N : Int), .slice P LL.length C], 63), (b2, #[.int .i64 0, .slice none 0 0], 63), (b5, #[.int .i64 n], 3)] ++ Sp7) wd17 := hI40
                have hS10 : Has [(b1, #[.int .i64 (N : Int), .slice P LL.length C], 63)] _ ∧ Rows_ _ P 1 (rws LL) := ⟨(Has.cons (hI42.at 0 rfl) Has.nil), (VL.rows (VL.start (SS := []) hlC hr0 hrd) hI42 (fk_app (fresh_keys (ks := [b1, b2, b5]) rfl (fk_cons hb1 (fk_cons hb2 (fk_cons hb5 fk_nil)))) hzp7) (fun _ h => by cases h))⟩
                refine any_one (i := 12) (by kernel_rfl) ?_
                refine (op_call (R := fun v w' => ∃ S P2 C2, v = .agg #[.int .i64 (N : Int), .slice P2 (LL.set (l).toNat (p7, capp7, (([] ++ (LL.getD l.toNat eD).2.2) ++ [n]))).length C2] ∧ SO S P2 C2 (LL.set (l).toNat (p7, capp7, (([] ++ (LL.getD l.toNat eD).2.2) ++ [n]))) ∧ Inv _ S w' ∧ ∀ x ∈ S, Array.size (World.heap _) ≤ x.1) hf99 rfl rfl rfl rfl ca_59 ((rwith_walk (n0 := (N : Int)) (l := l) (q := p7) (cq := capp7) (xs := (([] ++ (LL.getD l.toNat eD).2.2) ++ [n])) hc (VL.start_le (VL.start (SS := []) hlC hr0 hrd)) (VL.rows (VL.start (SS := []) hlC hr0 hrd) hI42 (fk_app (fresh_keys (ks := [b1, b2, b5]) rfl (fk_cons hb1 (fk_cons hb2 (fk_cons hb5 fk_nil)))) hzp7) (fun _ h => by cases h)) (VL.rds (VL.start (SS := []) hlC hr0 hrd) hI42 (fk_app (fresh_keys (ks := [b1, b2, b5]) rfl (fk_cons hb1 (fk_cons hb2 (fk_cons hb5 fk_nil)))) hzp7) (fun _ h => by cases h)) (by have := of_decide_eq_false g12_1; have := of_decide_eq_false g19_2; omega)).mono fun _ _ ⟨S, P2, C2, he, h1, h2, h3⟩ => ⟨_, he, S, P2, C2, rfl, h1, h2, h3⟩) fun ac90 v wd18 hR hf100 => ?_)
                obtain ⟨Sq8, q8, capq8, rfl, hsq8, hwq8, hzq8⟩ := hR
                have hyq8 := fk_le hI42.size hzq8
                have hI43 : Inv w ([(b1, #[.int .i64 (N : Int), .slice P LL.length C], 63), (b2, #[.int .i64 0, .slice none 0 0], 63), (b5, #[.int .i64 n], 3)] ++ (Sp7 ++ Sq8)) _ := hI42.callN hwq8 hzq8
                refine ⟨?_, ?_⟩
                · exact ⟨(Has.cons (hI43.at 0 rfl) Has.nil), (VL.rows (VL.start (SS := []) hlC hr0 hrd) hI43 (fk_app (fresh_keys (ks := [b1, b2, b5]) rfl (fk_cons hb1 (fk_cons hb2 (fk_cons hb5 fk_nil)))) (fk_app hzp7 hyq8)) (fun _ h => by cases h))⟩
                have hS11 : Has [(b1, #[.int .i64 (N : Int), .slice P LL.length C], 63)] _ ∧ Rows_ _ P 1 (rws LL) := ⟨(Has.cons (hI43.at 0 rfl) Has.nil), (VL.rows (VL.start (SS := []) hlC hr0 hrd) hI43 (fk_app (fresh_keys (ks := [b1, b2, b5]) rfl (fk_cons hb1 (fk_cons hb2 (fk_cons hb5 fk_nil)))) (fk_app hzp7 hyq8)) (fun _ h => by cases h))⟩
                refine any_one (i := 13) (by kernel_rfl) ?_
                refine (op_storeW (cells := #[.int .i64 (N : Int), .slice q8 ((LL.set (l).toNat (p7, capp7, (([] ++ (LL.getD l.toNat eD).2.2) ++ [n]))).length) capq8]) 1 hf100 rfl rfl rfl rfl rfl sz_63 rfl rfl hI43 rfl rfl fun wd19 hI44 => ⟨?_, ?_⟩)
                ·
                  have hI45 : Inv w ([(b1, #[.int .i64 (N : Int), .slice P LL.length C], 63), (b2, #[.int .i64 (N : Int), .slice q8 ((LL.set (l).toNat (p7, capp7, (([] ++ (LL.getD l.toNat eD).2.2) ++ [n]))).length) capq8], 63), (b5, #[.int .i64 n], 3)] ++ (Sp7 ++ Sq8)) wd19 := hI44
                  exact ⟨(Has.cons (hI45.at 0 rfl) Has.nil), (VL.rows (VL.start (SS := []) hlC hr0 hrd) hI45 (fk_app (fresh_keys (ks := [b1, b2, b5]) rfl (fk_cons hb1 (fk_cons hb2 (fk_cons hb5 fk_nil)))) (fk_app hzp7 hyq8)) (fun _ h => by cases h))⟩
                have hI46 : Inv w ([(b1, #[.int .i64 (N : Int), .slice P LL.length C], 63), (b2, #[.int .i64 (N : Int), .slice q8 ((LL.set (l).toNat (p7, capp7, (([] ++ (LL.getD l.toNat eD).2.2) ++ [n]))).length) capq8], 63), (b5, #[.int .i64 n], 3)] ++ (Sp7 ++ Sq8)) wd19 := hI44
                have hS12 : Has [(b1, #[.int .i64 (N : Int), .slice P LL.length C], 63)] _ ∧ Rows_ _ P 1 (rws LL) := ⟨(Has.cons (hI46.at 0 rfl) Has.nil), (VL.rows (VL.start (SS := []) hlC hr0 hrd) hI46 (fk_app (fresh_keys (ks := [b1, b2, b5]) rfl (fk_cons hb1 (fk_cons hb2 (fk_cons hb5 fk_nil)))) (fk_app hzp7 hyq8)) (fun _ h => by cases h))⟩
                refine any_val (i := 14) (v := .int .i64 0) hf100 rfl rfl rfl rfl rfl rfl (fun _ _ _ h => h) (by kernel_rfl) (by kernel_rfl) (by kernel_rfl) (fun wd19 hS12 => (r_assign rfl)) hS12 fun ac91 hf101 => ?_
                refine any_end (by kernel_rfl) ?_
                clear hf78 hrd3_0 hI14 ac70 hf82 ac73 hf83 ac74 hf84 ac75 hf85 ac76 hf86 ac77 hf87 ac78 hf88 ac79 hf89 ac80 wd7 hI17 hf90 hI18 hS1 ac81 wd9 hI19 hf91 hI34 hS2 hI35 ac87 wd15 hI36 hf97 hI37 hS8 ac88 wd16 hI39 hf98 hI40 hS9 ac89 wd17 hf99 hI42 hwq8 hzq8 hS10 wd18 hI43 hI44 hS11 ac90 hf100 hS12
                refine then_normal ?_
                refine wp_ret ?_
                have hp := Ch.push_lof (l := l) (n := n) hc (by have := of_decide_eq_false g12_1; have := of_decide_eq_false g19_2; omega) (by have := of_decide_eq_false g23_3; have := of_decide_eq_false c28_4; omega) c36_5 (q := p7) (cq := capp7)
                exact postC1 rfl hf101 rfl ag_63 sz_63 (hI46.at 1 rfl) rfl rfl ⟨(Sp7 ++ Sq8), q8, capq8, (LL.set (l).toNat (p7, capp7, (([] ++ (LL.getD l.toNat eD).2.2) ++ [n]))), (by rw [hp.2]), (Inv.keep (A := []) (N := [(b1, #[.int .i64 (N : Int), .slice P LL.length C], 63), (b2, #[.int .i64 (N : Int), .slice q8 ((LL.set (l).toNat (p7, capp7, (([] ++ (LL.getD l.toNat eD).2.2) ++ [n]))).length) capq8], 63), (b5, #[.int .i64 n], 3)]) (T := (Sp7 ++ Sq8)) hI46 (fresh_keys (ks := [b1, b2, b5]) rfl (fk_cons hb1 (fk_cons hb2 (fk_cons hb5 fk_nil))))), (fk_app hzp7 hyq8), hp.1, fun w0 SB h => VL.set h hsq8 hsp7⟩
            ·
              refine (op_bslice (s := 3) (cells := #[.int .i64 n]) hf90 rfl rfl rfl rfl rfl (fun _ => by kernel_rfl) hI17 fun ac92 b4 wd20 hb4 hI47 hf102 => ⟨?_, ?_⟩)
              · exact ⟨(Has.cons (hI47.at 0 rfl) Has.nil), (VL.rows (VL.start (SS := []) hlC hr0 hrd) hI47 (fresh_keys (ks := [b1, b2, b4]) rfl (fk_cons hb1 (fk_cons hb2 (fk_cons hb4 fk_nil)))) (fun _ h => by cases h))⟩
              have hI48 : Inv w [(b1, #[.int .i64 (N : Int), .slice P LL.length C], 63), (b2, #[.int .i64 0, .slice none 0 0], 63), (b4, #[.int .i64 n], 3)] wd20 := hI47
              have hS13 : Has [(b1, #[.int .i64 (N : Int), .slice P LL.length C], 63)] _ ∧ Rows_ _ P 1 (rws LL) := ⟨(Has.cons (hI48.at 0 rfl) Has.nil), (VL.rows (VL.start (SS := []) hlC hr0 hrd) hI48 (fresh_keys (ks := [b1, b2, b4]) rfl (fk_cons hb1 (fk_cons hb2 (fk_cons hb4 fk_nil)))) (fun _ h => by cases h))⟩
              refine any_one (i := 2) (by kernel_rfl) ?_
              refine (op_bslice (s := 3) (cells := #[]) hf102 rfl rfl rfl rfl rfl (fun _ => by kernel_rfl) hI48 fun ac93 b5 wd21 hb5 hI49 hf103 => ⟨?_, ?_⟩)
              · exact ⟨(Has.cons (hI49.at 0 rfl) Has.nil), (VL.rows (VL.start (SS := []) hlC hr0 hrd) hI49 (fresh_keys (ks := [b1, b2, b4, b5]) rfl (fk_cons hb1 (fk_cons hb2 (fk_cons hb4 (fk_cons hb5 fk_nil))))) (fun _ h => by cases h))⟩
              have hI50 : Inv w [(b1, #[.int .i64 (N : Int), .slice P LL.length C], 63), (b2, #[.int .i64 0, .slice none 0 0], 63), (b4, #[.int .i64 n], 3), (b5, #[], 3)] wd21 := hI49
              have hS14 : Has [(b1, #[.int .i64 (N : Int), .slice P LL.length C], 63)] _ ∧ Rows_ _ P 1 (rws LL) := ⟨(Has.cons (hI50.at 0 rfl) Has.nil), (VL.rows (VL.start (SS := []) hlC hr0 hrd) hI50 (fresh_keys (ks := [b1, b2, b4, b5]) rfl (fk_cons hb1 (fk_cons hb2 (fk_cons hb4 (fk_cons hb5 fk_nil))))) (fun _ h => by cases h))⟩
              refine any_one (i := 8) (by kernel_rfl) ?_
              have hI51 : Inv w ([(b1, #[.int .i64 (N : Int), .slice P LL.length C], 63), (b2, #[.int .i64 0, .slice none 0 0], 63), (b4, #[.int .i64 n], 3)] ++ [(b5, #[], 3)]) _ := hI50
              refine (op_appendN (A := [(b1, #[.int .i64 (N : Int), .slice P LL.length C], 63), (b2, #[.int .i64 0, .slice none 0 0], 63), (b4, #[.int .i64 n], 3)]) (S := [(b5, #[], 3)]) (xs := []) (ys := (LL.getD l.toNat eD).2.2) rfl rfl hf103 rfl rfl rfl us_27 if_3 rfl Sl.lit0 rfl (VN.rd (VL.get (VL.start (SS := []) hlC hr0 hrd) (by have := of_decide_eq_false g12_1; have := of_decide_eq_false g19_2; omega)) hI51 (fk_app (fresh_keys (ks := [b1, b2, b4]) rfl (fk_cons hb1 (fk_cons hb2 (fk_cons hb4 fk_nil)))) (fun x hx => by simp only [List.mem_singleton] at hx; subst hx; exact hb5)) (fun _ h => by cases h)) hI51 (fun x hx => by simp only [List.mem_singleton] at hx; subst hx; exact hb5) (by simp only [List.length_append, List.length_nil, List.length_cons, maxLen]; have := hc.le (j := l.toNat) (by have := of_decide_eq_false g12_1; have := of_decide_eq_false g19_2; omega); omega) (by simp only [List.length_append, List.length_nil, List.length_cons, Nat.zero_add]; have := hc.le (j := l.toNat) (by have := of_decide_eq_false g12_1; have := of_decide_eq_false g19_2; omega); omega) fun ac94 p6 capp6 Sp6 wd22 hsp6 hzp6 hI52 hf104 => ⟨?_, ?_⟩)
              ·
                have hI53 : Inv w ([(b1, #[.int .i64 (N : Int), .slice P LL.length C], 63), (b2, #[.int .i64 0, .slice none 0 0], 63), (b4, #[.int .i64 n], 3)] ++ Sp6) wd22 := hI52
                exact ⟨(Has.cons (hI53.at 0 rfl) Has.nil), (VL.rows (VL.start (SS := []) hlC hr0 hrd) hI53 (fk_app (fresh_keys (ks := [b1, b2, b4]) rfl (fk_cons hb1 (fk_cons hb2 (fk_cons hb4 fk_nil)))) hzp6) (fun _ h => by cases h))⟩
              have hI54 : Inv w ([(b1, #[.int .i64 (N : Int), .slice P LL.length C], 63), (b2, #[.int .i64 0, .slice none 0 0], 63), (b4, #[.int .i64 n], 3)] ++ Sp6) wd22 := hI52
              have hS15 : Has [(b1, #[.int .i64 (N : Int), .slice P LL.length C], 63)] _ ∧ Rows_ _ P 1 (rws LL) := ⟨(Has.cons (hI54.at 0 rfl) Has.nil), (VL.rows (VL.start (SS := []) hlC hr0 hrd) hI54 (fk_app (fresh_keys (ks := [b1, b2, b4]) rfl (fk_cons hb1 (fk_cons hb2 (fk_cons hb4 fk_nil)))) hzp6) (fun _ h => by cases h))⟩
              refine any_one (i := 11) (by kernel_rfl) ?_
              refine (op_appendN (A := [(b1, #[.int .i64 (N : Int), .slice P LL.length C], 63), (b2, #[.int .i64 0, .slice none 0 0], 63), (b4, #[.int .i64 n], 3)]) (S := Sp6) (xs := ([] ++ (LL.getD l.toNat eD).2.2)) (ys := [n]) rfl rfl hf104 rfl rfl rfl us_27 if_3 rfl hsp6 rfl (Rd.blk (xs := [n]) (hI54.at 2 rfl) rfl) hI54 hzp6 (by simp only [List.length_append, List.length_nil, List.length_cons, maxLen]; have := hc.le (j := l.toNat) (by have := of_decide_eq_false g12_1; have := of_decide_eq_false g19_2; omega); omega) (by simp only [List.length_append, List.length_nil, List.length_cons, Nat.zero_add]; have := hc.le (j := l.toNat) (by have := of_decide_eq_false g12_1; have := of_decide_eq_false g19_2; omega); omega) fun ac95 p7 capp7 Sp7 wd23 hsp7 hzp7 hI55 hf105 => ⟨?_, ?_⟩)
              ·
                have hI56 : Inv w ([(b1, #[.int .i64 (N : Int), .slice P LL.length C], 63), (b2, #[.int .i64 0, .slice none 0 0], 63), (b4, #[.int .i64 n], 3)] ++ Sp7) wd23 := hI55
                exact ⟨(Has.cons (hI56.at 0 rfl) Has.nil), (VL.rows (VL.start (SS := []) hlC hr0 hrd) hI56 (fk_app (fresh_keys (ks := [b1, b2, b4]) rfl (fk_cons hb1 (fk_cons hb2 (fk_cons hb4 fk_nil)))) hzp7) (fun _ h => by cases h))⟩
              have hI57 : Inv w ([(b1, #[.int .i64 (N : Int), .slice P LL.length C], 63), (b2, #[.int .i64 0, .slice none 0 0], 63), (b4, #[.int .i64 n], 3)] ++ Sp7) wd23 := hI55
              have hS16 : Has [(b1, #[.int .i64 (N : Int), .slice P LL.length C], 63)] _ ∧ Rows_ _ P 1 (rws LL) := ⟨(Has.cons (hI57.at 0 rfl) Has.nil), (VL.rows (VL.start (SS := []) hlC hr0 hrd) hI57 (fk_app (fresh_keys (ks := [b1, b2, b4]) rfl (fk_cons hb1 (fk_cons hb2 (fk_cons hb4 fk_nil)))) hzp7) (fun _ h => by cases h))⟩
              refine any_one (i := 12) (by kernel_rfl) ?_
              refine (op_call (R := fun v w' => ∃ S P2 C2, v = .agg #[.int .i64 (N : Int), .slice P2 (LL.set (l).toNat (p7, capp7, (([] ++ (LL.getD l.toNat eD).2.2) ++ [n]))).length C2] ∧ SO S P2 C2 (LL.set (l).toNat (p7, capp7, (([] ++ (LL.getD l.toNat eD).2.2) ++ [n]))) ∧ Inv _ S w' ∧ ∀ x ∈ S, Array.size (World.heap _) ≤ x.1) hf105 rfl rfl rfl rfl ca_59 ((rwith_walk (n0 := (N : Int)) (l := l) (q := p7) (cq := capp7) (xs := (([] ++ (LL.getD l.toNat eD).2.2) ++ [n])) hc (VL.start_le (VL.start (SS := []) hlC hr0 hrd)) (VL.rows (VL.start (SS := []) hlC hr0 hrd) hI57 (fk_app (fresh_keys (ks := [b1, b2, b4]) rfl (fk_cons hb1 (fk_cons hb2 (fk_cons hb4 fk_nil)))) hzp7) (fun _ h => by cases h)) (VL.rds (VL.start (SS := []) hlC hr0 hrd) hI57 (fk_app (fresh_keys (ks := [b1, b2, b4]) rfl (fk_cons hb1 (fk_cons hb2 (fk_cons hb4 fk_nil)))) hzp7) (fun _ h => by cases h)) (by have := of_decide_eq_false g12_1; have := of_decide_eq_false g19_2; omega)).mono fun _ _ ⟨S, P2, C2, he, h1, h2, h3⟩ => ⟨_, he, S, P2, C2, rfl, h1, h2, h3⟩) fun ac96 v wd24 hR hf106 => ?_)
              obtain ⟨Sq8, q8, capq8, rfl, hsq8, hwq8, hzq8⟩ := hR
              have hyq8 := fk_le hI57.size hzq8
              have hI58 : Inv w ([(b1, #[.int .i64 (N : Int), .slice P LL.length C], 63), (b2, #[.int .i64 0, .slice none 0 0], 63), (b4, #[.int .i64 n], 3)] ++ (Sp7 ++ Sq8)) _ := hI57.callN hwq8 hzq8
              refine ⟨?_, ?_⟩
              · exact ⟨(Has.cons (hI58.at 0 rfl) Has.nil), (VL.rows (VL.start (SS := []) hlC hr0 hrd) hI58 (fk_app (fresh_keys (ks := [b1, b2, b4]) rfl (fk_cons hb1 (fk_cons hb2 (fk_cons hb4 fk_nil)))) (fk_app hzp7 hyq8)) (fun _ h => by cases h))⟩
              have hS17 : Has [(b1, #[.int .i64 (N : Int), .slice P LL.length C], 63)] _ ∧ Rows_ _ P 1 (rws LL) := ⟨(Has.cons (hI58.at 0 rfl) Has.nil), (VL.rows (VL.start (SS := []) hlC hr0 hrd) hI58 (fk_app (fresh_keys (ks := [b1, b2, b4]) rfl (fk_cons hb1 (fk_cons hb2 (fk_cons hb4 fk_nil)))) (fk_app hzp7 hyq8)) (fun _ h => by cases h))⟩
              refine any_one (i := 13) (by kernel_rfl) ?_
              refine (op_storeW (cells := #[.int .i64 (N : Int), .slice q8 ((LL.set (l).toNat (p7, capp7, (([] ++ (LL.getD l.toNat eD).2.2) ++ [n]))).length) capq8]) 1 hf106 rfl rfl rfl rfl rfl sz_63 rfl rfl hI58 rfl rfl fun wd25 hI59 => ⟨?_, ?_⟩)
              ·
                have hI60 : Inv w ([(b1, #[.int .i64 (N : Int), .slice P LL.length C], 63), (b2, #[.int .i64 (N : Int), .slice q8 ((LL.set (l).toNat (p7, capp7, (([] ++ (LL.getD l.toNat eD).2.2) ++ [n]))).length) capq8], 63), (b4, #[.int .i64 n], 3)] ++ (Sp7 ++ Sq8)) wd25 := hI59
                exact ⟨(Has.cons (hI60.at 0 rfl) Has.nil), (VL.rows (VL.start (SS := []) hlC hr0 hrd) hI60 (fk_app (fresh_keys (ks := [b1, b2, b4]) rfl (fk_cons hb1 (fk_cons hb2 (fk_cons hb4 fk_nil)))) (fk_app hzp7 hyq8)) (fun _ h => by cases h))⟩
              have hI61 : Inv w ([(b1, #[.int .i64 (N : Int), .slice P LL.length C], 63), (b2, #[.int .i64 (N : Int), .slice q8 ((LL.set (l).toNat (p7, capp7, (([] ++ (LL.getD l.toNat eD).2.2) ++ [n]))).length) capq8], 63), (b4, #[.int .i64 n], 3)] ++ (Sp7 ++ Sq8)) wd25 := hI59
              have hS18 : Has [(b1, #[.int .i64 (N : Int), .slice P LL.length C], 63)] _ ∧ Rows_ _ P 1 (rws LL) := ⟨(Has.cons (hI61.at 0 rfl) Has.nil), (VL.rows (VL.start (SS := []) hlC hr0 hrd) hI61 (fk_app (fresh_keys (ks := [b1, b2, b4]) rfl (fk_cons hb1 (fk_cons hb2 (fk_cons hb4 fk_nil)))) (fk_app hzp7 hyq8)) (fun _ h => by cases h))⟩
              refine any_val (i := 14) (v := .int .i64 0) hf106 rfl rfl rfl rfl rfl rfl (fun _ _ _ h => h) (by kernel_rfl) (by kernel_rfl) (by kernel_rfl) (fun wd25 hS18 => (r_assign rfl)) hS18 fun ac97 hf107 => ?_
              refine any_end (by kernel_rfl) ?_
              clear hf78 hrd3_0 hI14 ac70 hf82 ac73 hf83 ac74 hf84 ac75 hf85 ac76 hf86 ac77 hf87 ac78 hf88 ac79 hf89 ac80 wd7 hI17 hf90 hI47 hS1 ac92 wd20 hI48 hf102 hI49 hS13 hI50 ac93 wd21 hI51 hf103 hI52 hS14 ac94 wd22 hI54 hf104 hI55 hS15 ac95 wd23 hf105 hI57 hwq8 hzq8 hS16 wd24 hI58 hI59 hS17 ac96 hf106 hS18
              refine then_normal ?_
              refine wp_ret ?_
              have hp := Ch.push_lof (l := l) (n := n) hc (by have := of_decide_eq_false g12_1; have := of_decide_eq_false g19_2; omega) (by have := of_decide_eq_false g23_3; have := of_decide_eq_false c28_4; omega) c36_5 (q := p7) (cq := capp7)
              exact postC1 rfl hf107 rfl ag_63 sz_63 (hI61.at 1 rfl) rfl rfl ⟨(Sp7 ++ Sq8), q8, capq8, (LL.set (l).toNat (p7, capp7, (([] ++ (LL.getD l.toNat eD).2.2) ++ [n]))), (by rw [hp.2]), (Inv.keep (A := []) (N := [(b1, #[.int .i64 (N : Int), .slice P LL.length C], 63), (b2, #[.int .i64 (N : Int), .slice q8 ((LL.set (l).toNat (p7, capp7, (([] ++ (LL.getD l.toNat eD).2.2) ++ [n]))).length) capq8], 63), (b4, #[.int .i64 n], 3)]) (T := (Sp7 ++ Sq8)) hI61 (fresh_keys (ks := [b1, b2, b4]) rfl (fk_cons hb1 (fk_cons hb2 (fk_cons hb4 fk_nil))))), (fk_app hzp7 hyq8), hp.1, fun w0 SB h => VL.set h hsq8 hsp7⟩
end Go.Proofs.Ytjelaoblpchmmaa
