/-
  The reference of lists, sixth part: New.
-/
import Derived.Test.YtjelaoblpchmmaaRef05e
namespace Go.Proofs.Ytjelaoblpchmmaa
set_option linter.unusedVariables false
set_option linter.unusedSimpArgs false
set_option maxRecDepth 100000
open Go.RowKit
set_option maxHeartbeats 8000000 in
theorem rnew5_walk {N K : Nat} (hN : 1 ≤ N ∧ N ≤ 65536) (hK : 1 ≤ K ∧ K ≤ 64) (w : World) : Calls Try.prog 35 [.int .i64 (K : Int), .int .i64 (N : Int)].toArray w fun e w' => ∃ S P2 C2 L2, e = .returned (.tuple #[.agg #[.int .i64 (N : Int), .slice P2 (List.length L2) C2], .int .i64 0]) ∧ SO S P2 C2 L2 ∧ (L2.map fun (e : En) => e.2.2) = List.replicate K [] ∧ Inv w S w' ∧ ∀ x ∈ S, w.heap.size ≤ x.1 := by
  have hI1 := Inv.start w
  refine enter (n := 37) Try.func35 rfl rfl rfl ?_
  intro ac1 hf1
  refine code_seq ?_
  refine seq_start (l := [0, 1]) rfl ?_
  refine seq_one (op_alloc hf1 rfl rfl rfl ze_63 hI1 fun ac2 b1 wd1 hb1 hI2 hf2 => ?_)
  have hI3 : Inv w [(b1, #[.int .i64 0, .slice none 0 0], 63)] wd1 := hI2
  refine seq_one (op_val (v := .int .i64 0) hf2 rfl rfl rfl rfl rfl rfl (r_assign rfl) fun ac3 hf3 => ?_)
  refine seq_end ?_
  clear ac1 hI1 hf1 hI2 ac2 hf2
  refine then_normal ?_
  refine code_seq ?_
  refine code_seq ?_
  refine seq_start (l := [0, 1, 2, 3, 4, 5, 6, 7, 8, 9, 10, 11, 12, 13]) rfl ?_
  refine seq_one (op_val (v := .int .i64 (K : Int)) hf3 rfl rfl rfl rfl rfl rfl (r_move rfl) fun ac4 hf4 => ?_)
  refine seq_one (op_val (v := .bool (decide ((K : Int) < 1))) hf4 rfl rfl rfl rfl rfl rfl (r_lss rfl rfl) fun ac5 hf5 => ?_)
  refine seq_one (op_val (v := .bool (decide ((K : Int) < 1))) hf5 rfl rfl rfl rfl rfl rfl (r_move rfl) fun ac6 hf6 => ?_)
  have hf7 := hf6.know 10 (u := .bool false) rfl (congrArg Value.bool (decide_eq_false (by omega)))
  refine seq_one (op_val (v := .int .i64 (K : Int)) hf7 rfl rfl rfl rfl rfl rfl (r_move rfl) fun ac7 hf8 => ?_)
  refine seq_one (op_val (v := .bool (decide ((K : Int) > 64))) hf8 rfl rfl rfl rfl rfl rfl (r_gtr rfl rfl) fun ac8 hf9 => ?_)
  refine seq_one (op_val (v := .bool (decide ((K : Int) > 64))) hf9 rfl rfl rfl rfl rfl rfl (r_pickF rfl rfl) fun ac9 hf10 => ?_)
  refine seq_one (op_val (v := .bool (decide ((K : Int) > 64))) hf10 rfl rfl rfl rfl rfl rfl (r_move rfl) fun ac10 hf11 => ?_)
  have hf12 := hf11.know 14 (u := .bool false) rfl (congrArg Value.bool (decide_eq_false (by omega)))
  refine seq_one (op_val (v := .int .i64 (N : Int)) hf12 rfl rfl rfl rfl rfl rfl (r_move rfl) fun ac11 hf13 => ?_)
  refine seq_one (op_val (v := .bool (decide ((N : Int) < 1))) hf13 rfl rfl rfl rfl rfl rfl (r_lss rfl rfl) fun ac12 hf14 => ?_)
  refine seq_one (op_val (v := .bool (decide ((N : Int) < 1))) hf14 rfl rfl rfl rfl rfl rfl (r_pickF rfl rfl) fun ac13 hf15 => ?_)
  refine seq_one (op_val (v := .bool (decide ((N : Int) < 1))) hf15 rfl rfl rfl rfl rfl rfl (r_move rfl) fun ac14 hf16 => ?_)
  have hf17 := hf16.know 18 (u := .bool false) rfl (congrArg Value.bool (decide_eq_false (by omega)))
  refine seq_one (op_val (v := .int .i64 (N : Int)) hf17 rfl rfl rfl rfl rfl rfl (r_move rfl) fun ac15 hf18 => ?_)
  refine seq_one (op_val (v := .bool (decide ((N : Int) > 65536))) hf18 rfl rfl rfl rfl rfl rfl (r_gtr rfl rfl) fun ac16 hf19 => ?_)
  refine seq_one (op_val (v := .bool (decide ((N : Int) > 65536))) hf19 rfl rfl rfl rfl rfl rfl (r_pickF rfl rfl) fun ac17 hf20 => ?_)
  refine seq_end ?_
  clear ac3 hf3 ac4 hf4 ac5 hf5 hf6 ac6 hf7 ac7 hf8 ac8 hf9 ac9 hf10 hf11 ac10 hf12 ac11 hf13 ac12 hf14 ac13 hf15 hf16 ac14 hf17 ac15 hf18 ac16 hf19
  refine then_normal ?_
  have hf21 := hf20.know 21 (u := .bool false) rfl (congrArg Value.bool (decide_eq_false (by omega)))
  refine code_if_false hf21 rfl ?_
  refine wp_skip ?_
  refine then_normal ?_
  refine code_seq ?_
  refine seq_start (l := [0, 1, 2, 3]) rfl ?_
  refine seq_one (op_val (v := .int .i64 (N : Int)) hf21 rfl rfl rfl rfl rfl rfl (r_move rfl) fun ac18 hf22 => ?_)
  refine seq_one (op_val (v := .agg #[.int .i64 (N : Int), .slice none 0 0]) hf22 rfl rfl rfl rfl rfl rfl (r_build (v := .agg #[.int .i64 (N : Int), .slice none 0 0]) rfl (fun _ => by kernel_rfl)) fun ac19 hf23 => ?_)
  refine seq_one (op_alloc hf23 rfl rfl rfl ze_63 hI3 fun ac20 b2 wd2 hb2 hI4 hf24 => ?_)
  have hI5 : Inv w [(b1, #[.int .i64 0, .slice none 0 0], 63), (b2, #[.int .i64 0, .slice none 0 0], 63)] wd2 := hI4
  refine seq_one (op_storeW (cells := #[.int .i64 (N : Int), .slice none 0 0]) 1 hf24 rfl rfl rfl rfl rfl sz_63 rfl rfl hI5 rfl rfl fun wd3 hI6 => ?_)
  have hI7 : Inv w [(b1, #[.int .i64 0, .slice none 0 0], 63), (b2, #[.int .i64 (N : Int), .slice none 0 0], 63)] wd3 := hI6
  refine seq_end ?_
  clear hf20 ac17 hf21 ac18 hf22 ac19 wd1 hI3 hf23 hI4 wd2 hI5 hI6
  refine then_normal ?_
  refine code_seq ?_
  refine code_seq ?_
  refine seq_start (l := [0]) rfl ?_
  refine seq_one (op_val (v := .int .i64 0) hf24 rfl rfl rfl rfl rfl rfl (r_assign rfl) fun ac21 hf25 => ?_)
  refine seq_end ?_
  clear ac20 hf24
  refine then_normal ?_
  refine wp_block ?_
  have hI8 : Inv w ([(b1, #[.int .i64 0, .slice none 0 0], 63), (b2, #[.int .i64 (N : Int), .slice none (List.length ([] : List En)) 0], 63)] ++ []) wd3 := hI7.more
  refine code_loop (α := Nat × (Option Addr) × Nat × (List Blk) × (List En)) (fun (x : Nat × (Option Addr) × Nat × (List Blk) × (List En)) => match x with | (i, P2, C2, S, LL2) => [(0, .int .i64 (K : Int)), (1, .int .i64 (N : Int)), (4, .pointer (some ⟨b1, 0, none⟩)), (5, .int .i64 0), (6, .pointer (some ⟨b2, 0, none⟩)), (8, .int .i64 (K : Int)), (9, .bool (decide ((K : Int) < 1))), (10, .bool false), (11, .int .i64 (K : Int)), (12, .bool (decide ((K : Int) > 64))), (13, .bool (decide ((K : Int) > 64))), (14, .bool false), (15, .int .i64 (N : Int)), (16, .bool (decide ((N : Int) < 1))), (17, .bool (decide ((N : Int) < 1))), (18, .bool false), (19, .int .i64 (N : Int)), (20, .bool (decide ((N : Int) > 65536))), (21, .bool false), (23, .int .i64 (N : Int)), (24, .agg #[.int .i64 (N : Int), .slice none 0 0]), (7, .int .i64 (i : Int))]) (fun (x : Nat × (Option Addr) × Nat × (List Blk) × (List En)) => match x with | (i, P2, C2, S, LL2) => fun wL => Inv w ([(b1, #[.int .i64 0, .slice none 0 0], 63), (b2, #[.int .i64 (N : Int), .slice P2 (List.length LL2) C2], 63)] ++ S) wL ∧ (i ≤ K ∧ SO S P2 C2 LL2 ∧ (LL2.map fun (e : En) => e.2.2) = List.replicate i [] ∧ ∀ x ∈ S, w.heap.size ≤ x.1)) (fun (x : Nat × (Option Addr) × Nat × (List Blk) × (List En)) => match x with | (i, P2, C2, S, LL2) => K - i) (0, none, 0, [], []) (hf25.cons 0 rfl (hf25.cons 1 rfl (hf25.cons 4 rfl (hf25.cons 5 rfl (hf25.cons 6 rfl (hf25.cons 8 rfl (hf25.cons 9 rfl (hf25.cons 10 rfl (hf25.cons 11 rfl (hf25.cons 12 rfl (hf25.cons 13 rfl (hf25.cons 14 rfl (hf25.cons 15 rfl (hf25.cons 16 rfl (hf25.cons 17 rfl (hf25.cons 18 rfl (hf25.cons 19 rfl (hf25.cons 20 rfl (hf25.cons 21 rfl (hf25.cons 23 rfl (hf25.cons 24 rfl (hf25.cons 7 rfl hf25.nil)))))))))))))))))))))) ⟨hI8, ⟨Nat.zero_le _, SO.nil, rfl, fun _ h => by cases h⟩⟩ ?_
  intro ⟨i, P2, C2, S, LL2⟩ ac22 wd4 hf26 hL1
  obtain ⟨hI9, hx1⟩ := hL1
  dsimp only at hf26 hI9 hx1
  clear hI7 ac21 wd3 hf25 hI8
  have hln : LL2.length = i := by simpa using congrArg List.length hx1.2.2.1
  refine code_seq ?_
  refine code_seq ?_
  refine seq_start (l := [0, 1, 2]) rfl ?_
  refine seq_one (op_val (v := .int .i64 (i : Int)) hf26 rfl rfl rfl rfl rfl rfl (r_move rfl) fun ac23 hf27 => ?_)
  refine seq_one (op_val (v := .int .i64 (K : Int)) hf27 rfl rfl rfl rfl rfl rfl (r_move rfl) fun ac24 hf28 => ?_)
  refine seq_one (op_val (v := .bool (decide ((i : Int) < (K : Int)))) hf28 rfl rfl rfl rfl rfl rfl (r_lss rfl rfl) fun ac25 hf29 => ?_)
  refine seq_end ?_
  clear ac22 hf26 ac23 hf27 ac24 hf28
  refine then_normal ?_
  refine code_if hf29 rfl (fun c27_1 => ?_) (fun c27_1 => ?_)
  · have hf30 := hf29.know 27 (u := .bool true) rfl (congrArg Value.bool c27_1)
    refine wp_skip ?_
    refine then_normal ?_
    refine code_seq ?_
    refine wp_block ?_
    refine seq_start (l := [0, 1, 2, 3, 4, 5, 6]) rfl ?_
    refine seq_one (op_val (v := .pointer (some ⟨b2, 1, none⟩)) hf30 rfl rfl rfl rfl rfl rfl (r_fieldAddr fi_63_1 rfl rfl) fun ac26 hf31 => ?_)
    refine seq_one (op_val (v := .slice P2 (List.length LL2) C2) hf31 rfl rfl rfl rfl rfl rfl (r_load ag_61 rfl (hI9.at 1 rfl) rfl) fun ac27 hf32 => ?_)
    refine seq_one (op_bslice (s := 3) (cells := #[]) hf32 rfl rfl rfl rfl rfl (fun _ => by kernel_rfl) hI9 fun ac28 b3 wd5 hb3 hI10 hf33 => ?_)
    have hI11 : Inv w ([(b1, #[.int .i64 0, .slice none 0 0], 63), (b2, #[.int .i64 (N : Int), .slice P2 (List.length LL2) C2], 63), (b3, #[], 3)] ++ S) wd5 := Inv.tail (A := [(b1, #[.int .i64 0, .slice none 0 0], 63), (b2, #[.int .i64 (N : Int), .slice P2 (List.length LL2) C2], 63)]) (T := S) (N := [(b3, #[], 3)]) hI10
    refine seq_one (op_bslice (s := 27) (cells := #[.slice (some ⟨b3, 0, none⟩) 0 0]) hf33 rfl rfl rfl rfl rfl (fun _ => by kernel_rfl) hI11 fun ac29 b4 wd6 hb4 hI12 hf34 => ?_)
    have hI13 : Inv w ([(b1, #[.int .i64 0, .slice none 0 0], 63), (b2, #[.int .i64 (N : Int), .slice P2 (List.length LL2) C2], 63), (b3, #[], 3), (b4, #[.slice (some ⟨b3, 0, none⟩) 0 0], 27)] ++ S) wd6 := Inv.tail (A := [(b1, #[.int .i64 0, .slice none 0 0], 63), (b2, #[.int .i64 (N : Int), .slice P2 (List.length LL2) C2], 63), (b3, #[], 3)]) (T := S) (N := [(b4, #[.slice (some ⟨b3, 0, none⟩) 0 0], 27)]) hI12
    refine seq_one (op_appendE (A := [(b1, #[.int .i64 0, .slice none 0 0], 63), (b2, #[.int .i64 (N : Int), .slice P2 (List.length LL2) C2], 63), (b3, #[], 3), (b4, #[.slice (some ⟨b3, 0, none⟩) 0 0], 27)]) (S := S) (LL := LL2) (u := (((some ⟨b3, 0, none⟩ : Option Addr), 0, []) : En)) hf34 rfl rfl rfl us_61 if3_27 rfl rfl hx1.2.1 rfl hI13 hx1.2.2.2 (List.mem_of_getElem? (i := 3) rfl) (by simp only [maxLen]; omega) (by omega) fun ac30 p5 capp5 Sp5 wd7 hsp5 hzp5 hI14 hf35 => ?_)
    have hI15 : Inv w ([(b1, #[.int .i64 0, .slice none 0 0], 63), (b2, #[.int .i64 (N : Int), .slice P2 (List.length LL2) C2], 63), (b3, #[], 3), (b4, #[.slice (some ⟨b3, 0, none⟩) 0 0], 27)] ++ Sp5) wd7 := hI14
    refine seq_one (op_val (v := .pointer (some ⟨b2, 1, none⟩)) hf35 rfl rfl rfl rfl rfl rfl (r_fieldAddr fi_63_1 rfl rfl) fun ac31 hf36 => ?_)
    refine seq_one (op_store (cs' := #[.int .i64 (N : Int), .slice p5 ((LL2 ++ [(((some ⟨b3, 0, none⟩ : Option Addr), 0, []) : En)]).length) capp5]) 1 hf36 rfl rfl rfl rfl rfl sz_61 hI15 rfl (ltb rfl) (by kernel_rfl) fun wd8 hI16 => ?_)
    have hI17 : Inv w ([(b1, #[.int .i64 0, .slice none 0 0], 63), (b2, #[.int .i64 (N : Int), .slice p5 ((LL2 ++ [(((some ⟨b3, 0, none⟩ : Option Addr), 0, []) : En)]).length) capp5], 63), (b3, #[], 3), (b4, #[.slice (some ⟨b3, 0, none⟩) 0 0], 27)] ++ Sp5) wd8 := hI16
    refine seq_end ?_
    clear hf29 ac25 hf30 ac26 hf31 ac27 wd4 hI9 hf32 hI10 ac28 wd5 hI11 hf33 hI12 ac29 wd6 hI13 hf34 hI14 ac30 hf35 wd7 hI15 hI16
    refine block_normal ?_
    refine then_normal ?_
    refine seq_start (l := [0, 1, 2]) rfl ?_
    refine seq_one (op_val (v := .int .i64 (i : Int)) hf36 rfl rfl rfl rfl rfl rfl (r_move rfl) fun ac32 hf37 => ?_)
    refine seq_one (op_val (v := .int .i64 ((i + 1 : Nat) : Int)) hf37 rfl rfl rfl rfl rfl rfl (r_add (c := ((i + 1 : Nat) : Int)) rfl rfl (wrap_i64 (by omega) (by have := hx1.1; omega))) fun ac33 hf38 => ?_)
    refine seq_one (op_val (v := .int .i64 ((i + 1 : Nat) : Int)) hf38 rfl rfl rfl rfl rfl rfl (r_assign rfl) fun ac34 hf39 => ?_)
    refine seq_end ?_
    clear ac31 hf36 ac32 hf37 ac33 hf38
    refine then_normal ?_
    exact ⟨(i + 1, p5, capp5, Sp5, (LL2 ++ [(((some ⟨b3, 0, none⟩ : Option Addr), 0, []) : En)])), (hf39.cons 0 rfl (hf39.cons 1 rfl (hf39.cons 4 rfl (hf39.cons 5 rfl (hf39.cons 6 rfl (hf39.cons 8 rfl (hf39.cons 9 rfl (hf39.cons 10 rfl (hf39.cons 11 rfl (hf39.cons 12 rfl (hf39.cons 13 rfl (hf39.cons 14 rfl (hf39.cons 15 rfl (hf39.cons 16 rfl (hf39.cons 17 rfl (hf39.cons 18 rfl (hf39.cons 19 rfl (hf39.cons 20 rfl (hf39.cons 21 rfl (hf39.cons 23 rfl (hf39.cons 24 rfl (hf39.cons 7 rfl hf39.nil)))))))))))))))))))))), ⟨(Inv.keep (A := [(b1, #[.int .i64 0, .slice none 0 0], 63), (b2, #[.int .i64 (N : Int), .slice p5 ((LL2 ++ [(((some ⟨b3, 0, none⟩ : Option Addr), 0, []) : En)]).length) capp5], 63)]) (N := [(b3, #[], 3), (b4, #[.slice (some ⟨b3, 0, none⟩) 0 0], 27)]) (T := Sp5) hI17 (fresh_keys (ks := [b3, b4]) rfl (fk_cons hb3 (fk_cons hb4 fk_nil)))), ⟨(by have := of_decide_eq_true c27_1; omega), hsp5, rep_s hx1.2.2.1, hzp5⟩⟩, (by have := of_decide_eq_true c27_1; show K - (i + 1) < K - i; omega)⟩
  · have hf40 := hf29.know 27 (u := .bool false) rfl (congrArg Value.bool c27_1)
    refine wp_exit ?_
    refine then_exit ?_
    refine then_exit ?_
    refine block_here ?_
    refine then_normal ?_
    refine code_seq ?_
    refine seq_start (l := [0, 1, 2]) rfl ?_
    refine seq_one (op_val (v := .agg #[.int .i64 (N : Int), .slice P2 (List.length LL2) C2]) hf40 rfl rfl rfl rfl rfl rfl (r_loadW ag_63 sz_63 rfl (hI9.at 1 rfl) rfl) fun ac35 hf41 => ?_)
    refine seq_one (op_storeW (cells := #[.int .i64 (N : Int), .slice P2 (List.length LL2) C2]) 0 hf41 rfl rfl rfl rfl rfl sz_63 rfl rfl hI9 rfl rfl fun wd9 hI18 => ?_)
    have hI19 : Inv w ([(b1, #[.int .i64 (N : Int), .slice P2 (List.length LL2) C2], 63), (b2, #[.int .i64 (N : Int), .slice P2 (List.length LL2) C2], 63)] ++ S) wd9 := hI18
    refine seq_one (op_val (v := .int .i64 0) hf41 rfl rfl rfl rfl rfl rfl (r_assign rfl) fun ac36 hf42 => ?_)
    refine seq_end ?_
    clear hf29 ac25 hf40 wd4 hI9 hI18 ac35 hf41
    refine then_normal ?_
    refine wp_ret ?_
    obtain rfl : i = K := by have := of_decide_eq_false c27_1; have := hx1.1; omega
    exact postC1 rfl hf42 rfl ag_63 sz_63 (hI19.at 0 rfl) rfl rfl ⟨S, P2, C2, LL2, rfl, hx1.2.1, hx1.2.2.1, (Inv.keep (A := []) (N := [(b1, #[.int .i64 (N : Int), .slice P2 (List.length LL2) C2], 63), (b2, #[.int .i64 (N : Int), .slice P2 (List.length LL2) C2], 63)]) (T := S) hI19 (fresh_keys (ks := [b1, b2]) rfl (fk_cons hb1 (fk_cons hb2 fk_nil)))), hx1.2.2.2⟩
set_option maxHeartbeats 8000000 in
theorem rnew5_bad {k n : Int} (h : k < 1 ∨ k > 64 ∨ n < 1 ∨ n > 65536) (w : World) : Calls Try.prog 35 [.int .i64 k, .int .i64 n].toArray w fun e w' => e = .returned (.tuple #[.agg #[.int .i64 0, .slice none 0 0], .int .i64 2]) ∧ Inv w [] w' := by
  have hI1 := Inv.start w
  refine enter (n := 37) Try.func35 rfl rfl rfl ?_
  intro ac1 hf1
  refine code_seq ?_
  refine seq_start (l := [0, 1]) rfl ?_
  refine seq_one (op_alloc hf1 rfl rfl rfl ze_63 hI1 fun ac2 b1 wd1 hb1 hI2 hf2 => ?_)
  have hI3 : Inv w [(b1, #[.int .i64 0, .slice none 0 0], 63)] wd1 := hI2
  refine seq_one (op_val (v := .int .i64 0) hf2 rfl rfl rfl rfl rfl rfl (r_assign rfl) fun ac3 hf3 => ?_)
  refine seq_end ?_
  clear ac1 hI1 hf1 hI2 ac2 hf2
  refine then_normal ?_
  refine code_seq ?_
  refine code_seq ?_
  refine seq_start (l := [0, 1, 2, 3, 4, 5, 6, 7, 8, 9, 10, 11, 12, 13]) rfl ?_
  refine seq_one (op_val (v := .int .i64 k) hf3 rfl rfl rfl rfl rfl rfl (r_move rfl) fun ac4 hf4 => ?_)
  refine seq_one (op_val (v := .bool (decide (k < 1))) hf4 rfl rfl rfl rfl rfl rfl (r_lss rfl rfl) fun ac5 hf5 => ?_)
  refine seq_one (op_val (v := .bool (decide (k < 1))) hf5 rfl rfl rfl rfl rfl rfl (r_move rfl) fun ac6 hf6 => ?_)
  rcases Bool.eq_false_or_eq_true (decide (k < 1) : Bool) with g10_1 | g10_1
  · have hf7 := hf6.know 10 (u := .bool true) rfl (congrArg Value.bool g10_1)
    refine seq_one (op_skip hf7 rfl rfl rfl rfl fun ac7 hf8 => ?_)
    refine seq_one (op_skip hf8 rfl rfl rfl rfl fun ac8 hf9 => ?_)
    refine seq_one (op_val (v := .bool true) hf9 rfl rfl rfl rfl rfl rfl (r_pickT rfl rfl) fun ac9 hf10 => ?_)
    refine seq_one (op_val (v := .bool true) hf10 rfl rfl rfl rfl rfl rfl (r_move rfl) fun ac10 hf11 => ?_)
    refine seq_one (op_skip hf11 rfl rfl rfl rfl fun ac11 hf12 => ?_)
    refine seq_one (op_skip hf12 rfl rfl rfl rfl fun ac12 hf13 => ?_)
    refine seq_one (op_val (v := .bool true) hf13 rfl rfl rfl rfl rfl rfl (r_pickT rfl rfl) fun ac13 hf14 => ?_)
    refine seq_one (op_val (v := .bool true) hf14 rfl rfl rfl rfl rfl rfl (r_move rfl) fun ac14 hf15 => ?_)
    refine seq_one (op_skip hf15 rfl rfl rfl rfl fun ac15 hf16 => ?_)
    refine seq_one (op_skip hf16 rfl rfl rfl rfl fun ac16 hf17 => ?_)
    refine seq_one (op_val (v := .bool true) hf17 rfl rfl rfl rfl rfl rfl (r_pickT rfl rfl) fun ac17 hf18 => ?_)
    refine seq_end ?_
    clear ac3 hf3 ac4 hf4 ac5 hf5 hf6 ac6 hf7 ac7 hf8 ac8 hf9 ac9 hf10 ac10 hf11 ac11 hf12 ac12 hf13 ac13 hf14 ac14 hf15 ac15 hf16 ac16 hf17
    refine then_normal ?_
    refine code_if_true hf18 rfl ?_
    refine code_seq ?_
    refine seq_start (l := [0, 1, 2]) rfl ?_
    refine seq_one (op_val (v := .agg #[.int .i64 0, .slice none 0 0]) hf18 rfl rfl rfl rfl rfl rfl (r_build (v := .agg #[.int .i64 0, .slice none 0 0]) rfl (fun _ => by kernel_rfl)) fun ac18 hf19 => ?_)
    refine seq_one (op_storeW (cells := #[.int .i64 0, .slice none 0 0]) 0 hf19 rfl rfl rfl rfl rfl sz_63 rfl rfl hI3 rfl rfl fun wd2 hI4 => ?_)
    refine seq_one (op_val (v := .int .i64 2) hf19 rfl rfl rfl rfl rfl rfl (r_assign rfl) fun ac19 hf20 => ?_)
    refine seq_end ?_
    clear ac17 hf18 wd1 hI3 ac18 hf19
    refine then_normal ?_
    refine wp_ret ?_
    refine then_ret ?_
    exact postC1 rfl hf20 rfl ag_63 sz_63 (hI4.at 0 rfl) rfl rfl ⟨rfl, hI4.done (fresh_keys (ks := [b1]) rfl (fk_cons hb1 fk_nil))⟩
  · have hf21 := hf6.know 10 (u := .bool false) rfl (congrArg Value.bool g10_1)
    refine seq_one (op_val (v := .int .i64 k) hf21 rfl rfl rfl rfl rfl rfl (r_move rfl) fun ac20 hf22 => ?_)
    refine seq_one (op_val (v := .bool (decide (k > 64))) hf22 rfl rfl rfl rfl rfl rfl (r_gtr rfl rfl) fun ac21 hf23 => ?_)
    refine seq_one (op_val (v := .bool (decide (k > 64))) hf23 rfl rfl rfl rfl rfl rfl (r_pickF rfl rfl) fun ac22 hf24 => ?_)
    refine seq_one (op_val (v := .bool (decide (k > 64))) hf24 rfl rfl rfl rfl rfl rfl (r_move rfl) fun ac23 hf25 => ?_)
    rcases Bool.eq_false_or_eq_true (decide (k > 64) : Bool) with g14_2 | g14_2
    · have hf26 := hf25.know 14 (u := .bool true) rfl (congrArg Value.bool g14_2)
      refine seq_one (op_skip hf26 rfl rfl rfl rfl fun ac24 hf27 => ?_)
      refine seq_one (op_skip hf27 rfl rfl rfl rfl fun ac25 hf28 => ?_)
      refine seq_one (op_val (v := .bool true) hf28 rfl rfl rfl rfl rfl rfl (r_pickT rfl rfl) fun ac26 hf29 => ?_)
      refine seq_one (op_val (v := .bool true) hf29 rfl rfl rfl rfl rfl rfl (r_move rfl) fun ac27 hf30 => ?_)
      refine seq_one (op_skip hf30 rfl rfl rfl rfl fun ac28 hf31 => ?_)
      refine seq_one (op_skip hf31 rfl rfl rfl rfl fun ac29 hf32 => ?_)
      refine seq_one (op_val (v := .bool true) hf32 rfl rfl rfl rfl rfl rfl (r_pickT rfl rfl) fun ac30 hf33 => ?_)
      refine seq_end ?_
      clear ac3 hf3 ac4 hf4 ac5 hf5 hf6 ac6 hf21 ac20 hf22 ac21 hf23 ac22 hf24 hf25 ac23 hf26 ac24 hf27 ac25 hf28 ac26 hf29 ac27 hf30 ac28 hf31 ac29 hf32
      refine then_normal ?_
      refine code_if_true hf33 rfl ?_
      refine code_seq ?_
      refine seq_start (l := [0, 1, 2]) rfl ?_
      refine seq_one (op_val (v := .agg #[.int .i64 0, .slice none 0 0]) hf33 rfl rfl rfl rfl rfl rfl (r_build (v := .agg #[.int .i64 0, .slice none 0 0]) rfl (fun _ => by kernel_rfl)) fun ac31 hf34 => ?_)
      refine seq_one (op_storeW (cells := #[.int .i64 0, .slice none 0 0]) 0 hf34 rfl rfl rfl rfl rfl sz_63 rfl rfl hI3 rfl rfl fun wd3 hI5 => ?_)
      refine seq_one (op_val (v := .int .i64 2) hf34 rfl rfl rfl rfl rfl rfl (r_assign rfl) fun ac32 hf35 => ?_)
      refine seq_end ?_
      clear ac30 hf33 wd1 hI3 ac31 hf34
      refine then_normal ?_
      refine wp_ret ?_
      refine then_ret ?_
      exact postC1 rfl hf35 rfl ag_63 sz_63 (hI5.at 0 rfl) rfl rfl ⟨rfl, hI5.done (fresh_keys (ks := [b1]) rfl (fk_cons hb1 fk_nil))⟩
    · have hf36 := hf25.know 14 (u := .bool false) rfl (congrArg Value.bool g14_2)
      refine seq_one (op_val (v := .int .i64 n) hf36 rfl rfl rfl rfl rfl rfl (r_move rfl) fun ac33 hf37 => ?_)
      refine seq_one (op_val (v := .bool (decide (n < 1))) hf37 rfl rfl rfl rfl rfl rfl (r_lss rfl rfl) fun ac34 hf38 => ?_)
      refine seq_one (op_val (v := .bool (decide (n < 1))) hf38 rfl rfl rfl rfl rfl rfl (r_pickF rfl rfl) fun ac35 hf39 => ?_)
      refine seq_one (op_val (v := .bool (decide (n < 1))) hf39 rfl rfl rfl rfl rfl rfl (r_move rfl) fun ac36 hf40 => ?_)
      rcases Bool.eq_false_or_eq_true (decide (n < 1) : Bool) with g18_3 | g18_3
      · have hf41 := hf40.know 18 (u := .bool true) rfl (congrArg Value.bool g18_3)
        refine seq_one (op_skip hf41 rfl rfl rfl rfl fun ac37 hf42 => ?_)
        refine seq_one (op_skip hf42 rfl rfl rfl rfl fun ac38 hf43 => ?_)
        refine seq_one (op_val (v := .bool true) hf43 rfl rfl rfl rfl rfl rfl (r_pickT rfl rfl) fun ac39 hf44 => ?_)
        refine seq_end ?_
        clear ac3 hf3 ac4 hf4 ac5 hf5 hf6 ac6 hf21 ac20 hf22 ac21 hf23 ac22 hf24 hf25 ac23 hf36 ac33 hf37 ac34 hf38 ac35 hf39 hf40 ac36 hf41 ac37 hf42 ac38 hf43
        refine then_normal ?_
        refine code_if_true hf44 rfl ?_
        refine code_seq ?_
        refine seq_start (l := [0, 1, 2]) rfl ?_
        refine seq_one (op_val (v := .agg #[.int .i64 0, .slice none 0 0]) hf44 rfl rfl rfl rfl rfl rfl (r_build (v := .agg #[.int .i64 0, .slice none 0 0]) rfl (fun _ => by kernel_rfl)) fun ac40 hf45 => ?_)
        refine seq_one (op_storeW (cells := #[.int .i64 0, .slice none 0 0]) 0 hf45 rfl rfl rfl rfl rfl sz_63 rfl rfl hI3 rfl rfl fun wd4 hI6 => ?_)
        refine seq_one (op_val (v := .int .i64 2) hf45 rfl rfl rfl rfl rfl rfl (r_assign rfl) fun ac41 hf46 => ?_)
        refine seq_end ?_
        clear ac39 hf44 wd1 hI3 ac40 hf45
        refine then_normal ?_
        refine wp_ret ?_
        refine then_ret ?_
        exact postC1 rfl hf46 rfl ag_63 sz_63 (hI6.at 0 rfl) rfl rfl ⟨rfl, hI6.done (fresh_keys (ks := [b1]) rfl (fk_cons hb1 fk_nil))⟩
      · have hf47 := hf40.know 18 (u := .bool false) rfl (congrArg Value.bool g18_3)
        refine seq_one (op_val (v := .int .i64 n) hf47 rfl rfl rfl rfl rfl rfl (r_move rfl) fun ac42 hf48 => ?_)
        refine seq_one (op_val (v := .bool (decide (n > 65536))) hf48 rfl rfl rfl rfl rfl rfl (r_gtr rfl rfl) fun ac43 hf49 => ?_)
        refine seq_one (op_val (v := .bool (decide (n > 65536))) hf49 rfl rfl rfl rfl rfl rfl (r_pickF rfl rfl) fun ac44 hf50 => ?_)
        refine seq_end ?_
        clear ac3 hf3 ac4 hf4 ac5 hf5 hf6 ac6 hf21 ac20 hf22 ac21 hf23 ac22 hf24 hf25 ac23 hf36 ac33 hf37 ac34 hf38 ac35 hf39 hf40 ac36 hf47 ac42 hf48 ac43 hf49
        refine then_normal ?_
        have hf51 := hf50.know 21 (u := .bool true) rfl (congrArg Value.bool (decide_eq_true (by simp only [decide_eq_true_eq, decide_eq_false_iff_not] at g10_1 g14_2 g18_3; omega)))
        refine code_if_true hf51 rfl ?_
        refine code_seq ?_
        refine seq_start (l := [0, 1, 2]) rfl ?_
        refine seq_one (op_val (v := .agg #[.int .i64 0, .slice none 0 0]) hf51 rfl rfl rfl rfl rfl rfl (r_build (v := .agg #[.int .i64 0, .slice none 0 0]) rfl (fun _ => by kernel_rfl)) fun ac45 hf52 => ?_)
        refine seq_one (op_storeW (cells := #[.int .i64 0, .slice none 0 0]) 0 hf52 rfl rfl rfl rfl rfl sz_63 rfl rfl hI3 rfl rfl fun wd5 hI7 => ?_)
        refine seq_one (op_val (v := .int .i64 2) hf52 rfl rfl rfl rfl rfl rfl (r_assign rfl) fun ac46 hf53 => ?_)
        refine seq_end ?_
        clear hf50 ac44 hf51 wd1 hI3 ac45 hf52
        refine then_normal ?_
        refine wp_ret ?_
        refine then_ret ?_
        exact postC1 rfl hf53 rfl ag_63 sz_63 (hI7.at 0 rfl) rfl rfl ⟨rfl, hI7.done (fresh_keys (ks := [b1]) rfl (fk_cons hb1 fk_nil))⟩
end Go.Proofs.Ytjelaoblpchmmaa
