/-
  The functions of prio, and of the reference: what each call comes to.
-/
import Derived.Test.YtakkookpjhaekaaDoorTab
namespace Go.Proofs.YtakkookpjhaekaaDoor
set_option linter.unusedVariables false
set_option linter.unusedSimpArgs false
set_option maxRecDepth 100000
open Go.RowKit
theorem wrap_i64 {x : Int} (h1 : -9223372036854775808 ≤ x) (h2 : x ≤ 9223372036854775807) : IntKind.wrap .i64 x = x := IntWalk.i64_in x ⟨h1, h2⟩

theorem wf_i64 {n : Int} (h1 : -9223372036854775808 ≤ n) (h2 : n ≤ 9223372036854775807) : (Lit.int .i64 n).wf = true := WalkArith.wf_i64 ⟨h1, h2⟩
theorem wrap_u8 {x : Int} (h1 : 0 ≤ x) (h2 : x ≤ 255) : IntKind.wrap .u8 x = x := by rw [IntKind.wrap_u8]; omega
def bandF (m : List Int) (p : Int) : Int × Bool := if p > 15 ∨ m.getD p.toNat 0 ≥ 3 then (0, false) else (m.getD p.toNat 0, true)
def rightF (m : List Int) : Bool := m.all fun x => decide (x ≤ 3)
def ofL (m : List Int) (a : Int) (i : Nat) : List Int := ((List.range i).filter fun j => m.getD j 0 == a).map Int.ofNat
theorem ofL_true {m : List Int} {a : Int} {i : Nat} (h : (m.getD i 0 == a) = true) : ofL m a (i + 1) = ofL m a i ++ [(i : Int)] := by
  simp only [ofL, List.range_succ, List.filter_append, List.map_append]
  rw [List.filter_cons_of_pos (by simpa using h)]; rfl
theorem ofL_false {m : List Int} {a : Int} {i : Nat} (h : (m.getD i 0 == a) = false) : ofL m a (i + 1) = ofL m a i := by
  simp only [ofL, List.range_succ, List.filter_append, List.map_append]
  rw [List.filter_cons_of_neg (by rw [h]; simp)]; simp
theorem ofL_len {m : List Int} {a : Int} {i : Nat} : (ofL m a i).length ≤ i := by
  simp only [ofL, List.length_map]; exact Nat.le_trans (List.length_filter_le _ _) (by simp)
theorem ofL_mem {m : List Int} {a x : Int} {i : Nat} : x ∈ ofL m a i ↔ ∃ j : Nat, j < i ∧ x = (j : Int) ∧ m.getD j 0 = a := by
  simp only [ofL, List.mem_map, List.mem_filter, List.mem_range, beq_iff_eq]
  constructor
  · rintro ⟨j, ⟨h1, h2⟩, rfl⟩; exact ⟨j, h1, rfl, h2⟩
  · rintro ⟨j, h1, rfl, h2⟩; exact ⟨j, ⟨h1, h2⟩, rfl⟩
theorem ofL_u8 {m : List Int} {a : Int} : InK .u8 (ofL m a 16) := fun x hx => by
  obtain ⟨j, h1, rfl, _⟩ := ofL_mem.1 hx
  have : j < 16 := h1
  exact (by decide : ∀ j : Fin 16, (Lit.int .u8 ((j : Nat) : Int)).wf = true) ⟨j, this⟩

set_option maxHeartbeats 8000000 in
theorem of_mk (m : List Int) (hm : m.length = 16) (hk : InK .u8 m) (a : Int) (w : World) : Calls Tryd.prog 17 [.agg (arr .u8 m), .int .u8 a].toArray w fun e w' => ∃ S p cap, e = .returned (.slice p (ofL m a 16).length cap) ∧ Sl 5 .u8 S p cap (ofL m a 16) ∧ Inv w [] w' ∧ Inv w S w' ∧ ∀ x ∈ S, w.heap.size ≤ x.1 := by
  have hI1 := Inv.start w
  refine enter (n := 23) Tryd.func17 rfl rfl rfl ?_
  intro ac1 hf1
  refine code_seq ?_
  refine seq_start (l := [0, 1]) rfl ?_
  refine seq_one (op_box hf1 rfl rfl rfl rfl hI1 fun ac2 b1 wd1 hb1 hI2 hf2 => ?_)
  have hI3 : Inv w [(b1, arr .u8 m, 22)] wd1 := hI2
  refine seq_one (op_val (v := .slice none 0 0) hf2 rfl rfl rfl rfl rfl rfl (r_assign rfl) fun ac3 hf3 => ?_)
  refine seq_end ?_
  clear ac1 hI1 hf1 hI2 ac2 hf2
  refine then_normal ?_
  refine code_seq ?_
  refine seq_start (l := [0]) rfl ?_
  refine seq_one (op_val (v := .slice none 0 0) hf3 rfl rfl rfl rfl rfl rfl (r_assign rfl) fun ac4 hf4 => ?_)
  refine seq_end ?_
  clear ac3 hf3
  refine then_normal ?_
  refine code_seq ?_
  refine code_seq ?_
  refine seq_start (l := [0, 1]) rfl ?_
  refine seq_one (op_val (v := .agg (arr .u8 m)) hf4 rfl rfl rfl rfl rfl rfl (r_loadW ag_22 sz_22 rfl (hI3.at 0 rfl) (arr_size hm)) fun ac5 hf5 => ?_)
  refine seq_one (op_val (v := .int .i64 0) hf5 rfl rfl rfl rfl rfl rfl (r_move rfl) fun ac6 hf6 => ?_)
  refine seq_end ?_
  clear ac4 hf4 ac5 hf5
  refine then_normal ?_
  refine wp_block ?_
  refine code_loop (α := Nat × (Option Addr) × Nat × (List Blk)) (fun (x : Nat × (Option Addr) × Nat × (List Blk)) => match x with | (i, p, cap, S) => [(0, .agg (arr .u8 m)), (1, .int .u8 a), (2, .pointer (some ⟨b1, 0, none⟩)), (4, .slice none 0 0), (8, .agg (arr .u8 m)), (5, .slice p ((ofL m a i).length) cap), (9, .int .i64 (i : Int))]) (fun (x : Nat × (Option Addr) × Nat × (List Blk)) => match x with | (i, p, cap, S) => fun wL => Inv w ([(b1, arr .u8 m, 22)] ++ S) wL ∧ (Sl 5 .u8 S p cap (ofL m a i) ∧ (∀ x ∈ S, w.heap.size ≤ x.1) ∧ i ≤ 16)) (fun (x : Nat × (Option Addr) × Nat × (List Blk)) => match x with | (i, p, cap, S) => 16 - i) (0, none, 0, []) (hf6.cons 0 rfl (hf6.cons 1 rfl (hf6.cons 2 rfl (hf6.cons 4 rfl (hf6.cons 8 rfl (hf6.cons 5 rfl (hf6.cons 9 rfl hf6.nil))))))) ⟨hI3, ⟨Sl.nil, (fun _ h => by cases h), Nat.zero_le _⟩⟩ ?_
  intro ⟨i, p, cap, S⟩ ac7 wd2 hf7 hL1
  obtain ⟨hI4, hx1⟩ := hL1
  dsimp only at hf7 hI4 hx1
  clear ac6 wd1 hf6 hI3
  obtain ⟨hs1, hz1, hi1⟩ := hx1
  refine code_seq ?_
  refine seq_start (l := [0]) rfl ?_
  refine seq_one (op_val (v := .bool (decide ((i : Int) < 16))) hf7 rfl rfl rfl rfl rfl rfl (r_lss rfl rfl) fun ac8 hf8 => ?_)
  refine seq_end ?_
  clear ac7 hf7
  refine then_normal ?_
  refine code_seq ?_
  refine code_if hf8 rfl (fun c10_1 => ?_) (fun c10_1 => ?_)
  · have hf9 := hf8.know 10 (u := .bool true) rfl (congrArg Value.bool c10_1)
    refine wp_skip ?_
    refine then_normal ?_
    refine code_seq ?_
    refine wp_block ?_
    refine code_seq ?_
    refine seq_start (l := [0, 1, 2, 3]) rfl ?_
    refine seq_one (op_val (v := .int .i64 (i : Int)) hf9 rfl rfl rfl rfl rfl rfl (r_move rfl) fun ac9 hf10 => ?_)
    refine seq_one (op_val (v := .int .u8 (m.getD i 0)) hf10 rfl rfl rfl rfl rfl rfl (r_index (i := i) ar_22 ag_5 rfl rfl rfl (by have := of_decide_eq_true c10_1; omega) (arr_get1 (by rw [hm]; exact (by have := of_decide_eq_true c10_1; omega)))) fun ac10 hf11 => ?_)
    refine seq_one (op_val (v := .int .i64 (i : Int)) hf11 rfl rfl rfl rfl rfl rfl (r_assign rfl) fun ac11 hf12 => ?_)
    refine seq_one (op_val (v := .int .u8 (m.getD i 0)) hf12 rfl rfl rfl rfl rfl rfl (r_assign rfl) fun ac12 hf13 => ?_)
    refine seq_end ?_
    clear hf8 ac8 hf9 ac9 hf10 ac10 hf11 ac11 hf12
    refine then_normal ?_
    refine code_seq ?_
    refine seq_start (l := [0, 1, 2]) rfl ?_
    refine seq_one (op_val (v := .int .u8 (m.getD i 0)) hf13 rfl rfl rfl rfl rfl rfl (r_move rfl) fun ac13 hf14 => ?_)
    refine seq_one (op_val (v := .int .u8 a) hf14 rfl rfl rfl rfl rfl rfl (r_move rfl) fun ac14 hf15 => ?_)
    refine seq_one (op_val (v := .bool ((m.getD i 0) == a)) hf15 rfl rfl rfl rfl rfl rfl (r_eql rfl rfl) fun ac15 hf16 => ?_)
    refine seq_end ?_
    clear ac12 hf13 ac13 hf14 ac14 hf15
    refine then_normal ?_
    refine code_if hf16 rfl (fun c15_2 => ?_) (fun c15_2 => ?_)
    · have hf17 := hf16.know 15 (u := .bool true) rfl (congrArg Value.bool c15_2)
      refine seq_start (l := [0, 1, 2, 3, 4, 5]) rfl ?_
      refine seq_one (op_val (v := .slice p ((ofL m a i).length) cap) hf17 rfl rfl rfl rfl rfl rfl (r_move rfl) fun ac16 hf18 => ?_)
      refine seq_one (op_val (v := .int .i64 (i : Int)) hf18 rfl rfl rfl rfl rfl rfl (r_move rfl) fun ac17 hf19 => ?_)
      refine seq_one (op_val (v := .int .u8 (i : Int)) hf19 rfl rfl rfl rfl rfl rfl (r_conv (c := (i : Int)) ui_3 ui_5 rfl (wrap_u8 (by omega) (by have := of_decide_eq_true c10_1; omega))) fun ac18 hf20 => ?_)
      refine seq_one (op_bslice (s := 5) (cells := #[.int .u8 (i : Int)]) hf20 rfl rfl rfl rfl rfl (fun _ => by kernel_rfl) hI4 fun ac19 b2 wd3 hb2 hI5 hf21 => ?_)
      have hI6 : Inv w ([(b1, arr .u8 m, 22), (b2, #[.int .u8 (i : Int)], 5)] ++ S) wd3 := Inv.tail (A := [(b1, arr .u8 m, 22)]) (T := S) (N := [(b2, #[.int .u8 (i : Int)], 5)]) hI5
      refine seq_one (op_append1 (A := [(b1, arr .u8 m, 22), (b2, #[.int .u8 (i : Int)], 5)]) (S := S) hf21 rfl rfl rfl us_27 if_5 rfl hs1 rfl hI6 hz1 (List.mem_of_getElem? (i := 1) rfl) rfl (Nat.le_trans (Nat.succ_le_succ ofL_len) (by have := hi1; simp only [maxLen]; omega)) (by have := @ofL_len m a i; have := hi1; omega) fun ac20 p3 capp3 Sp3 wd4 hsp3 hzp3 hI7 hf22 => ?_)
      rw [← ofL_true c15_2] at hsp3 hf22
      refine seq_one (op_val (v := .slice p3 ((ofL m a (i + 1)).length) capp3) hf22 rfl rfl rfl rfl rfl rfl (r_assign rfl) fun ac21 hf23 => ?_)
      refine seq_end ?_
      clear hf16 ac15 hf17 ac16 hf18 ac17 hf19 ac18 wd2 hI4 hf20 hI5 ac19 wd3 hI6 hf21 ac20 hf22
      refine block_normal ?_
      refine then_normal ?_
      refine seq_start (l := [0, 1]) rfl ?_
      refine seq_one (op_val (v := .int .i64 ((i + 1 : Nat) : Int)) hf23 rfl rfl rfl rfl rfl rfl (r_add (c := ((i + 1 : Nat) : Int)) rfl rfl (wrap_i64 (by omega) (by omega))) fun ac22 hf24 => ?_)
      refine seq_one (op_val (v := .int .i64 ((i + 1 : Nat) : Int)) hf24 rfl rfl rfl rfl rfl rfl (r_move rfl) fun ac23 hf25 => ?_)
      refine seq_end ?_
      clear ac21 hf23 ac22 hf24
      refine then_normal ?_
      exact ⟨(i + 1, p3, capp3, Sp3), (hf25.cons 0 rfl (hf25.cons 1 rfl (hf25.cons 2 rfl (hf25.cons 4 rfl (hf25.cons 8 rfl (hf25.cons 5 rfl (hf25.cons 9 rfl hf25.nil))))))), ⟨(Inv.keep (A := [(b1, arr .u8 m, 22)]) (N := [(b2, #[.int .u8 (i : Int)], 5)]) (T := Sp3) hI7 (fresh_keys (ks := [b2]) rfl (fk_cons hb2 fk_nil))), ⟨hsp3, hzp3, by have := of_decide_eq_true c10_1; omega⟩⟩, (by have := of_decide_eq_true c10_1; show 16 - (i + 1) < 16 - i; omega)⟩
    · have hf26 := hf16.know 15 (u := .bool false) rfl (congrArg Value.bool c15_2)
      refine wp_skip ?_
      refine block_normal ?_
      refine then_normal ?_
      refine seq_start (l := [0, 1]) rfl ?_
      refine seq_one (op_val (v := .int .i64 ((i + 1 : Nat) : Int)) hf26 rfl rfl rfl rfl rfl rfl (r_add (c := ((i + 1 : Nat) : Int)) rfl rfl (wrap_i64 (by omega) (by omega))) fun ac24 hf27 => ?_)
      refine seq_one (op_val (v := .int .i64 ((i + 1 : Nat) : Int)) hf27 rfl rfl rfl rfl rfl rfl (r_move rfl) fun ac25 hf28 => ?_)
      refine seq_end ?_
      clear hf16 ac15 hf26 ac24 hf27
      refine then_normal ?_
      rw [← ofL_false c15_2] at hs1 hf28
      exact ⟨(i + 1, p, cap, S), (hf28.cons 0 rfl (hf28.cons 1 rfl (hf28.cons 2 rfl (hf28.cons 4 rfl (hf28.cons 8 rfl (hf28.cons 5 rfl (hf28.cons 9 rfl hf28.nil))))))), ⟨hI4, ⟨hs1, hz1, by have := of_decide_eq_true c10_1; omega⟩⟩, (by have := of_decide_eq_true c10_1; show 16 - (i + 1) < 16 - i; omega)⟩
  · have hf29 := hf8.know 10 (u := .bool false) rfl (congrArg Value.bool c10_1)
    refine wp_exit ?_
    refine then_exit ?_
    refine then_exit ?_
    refine block_here ?_
    refine then_normal ?_
    refine code_seq ?_
    refine seq_start (l := [0, 1]) rfl ?_
    refine seq_one (op_val (v := .slice p ((ofL m a i).length) cap) hf29 rfl rfl rfl rfl rfl rfl (r_move rfl) fun ac26 hf30 => ?_)
    refine seq_one (op_val (v := .slice p ((ofL m a i).length) cap) hf30 rfl rfl rfl rfl rfl rfl (r_assign rfl) fun ac27 hf31 => ?_)
    refine seq_end ?_
    clear hf8 ac8 hf29 ac26 hf30
    refine then_normal ?_
    refine wp_ret ?_
    have e16 : i = 16 := by have := of_decide_eq_false c10_1; omega
    subst e16
    exact post1 rfl hf31 rfl ⟨S, p, cap, rfl, hs1, Inv.drop (A := []) (B := S) (hI4.forget (List.sublist_append_right _ _) (fun x hx => (List.mem_append.1 hx).elim (fun h => .inr ((fresh_keys (ks := [b1]) rfl (fk_cons hb1 fk_nil)) x h)) .inl)) hz1, hI4.forget (List.sublist_append_right _ _) (fun x hx => (List.mem_append.1 hx).elim (fun h => .inr ((fresh_keys (ks := [b1]) rfl (fk_cons hb1 fk_nil)) x h)) .inl), hz1⟩
set_option maxHeartbeats 8000000 in
theorem ofR_mk (m : List Int) (hm : m.length = 16) (hk : InK .u8 m) (a : Int) (w : World) : Calls Tryd.prog 18 [.agg (arr .u8 m), .int .u8 a].toArray w fun e w' => ∃ S p cap, e = .returned (.slice p (ofL m a 16).length cap) ∧ Sl 5 .u8 S p cap (ofL m a 16) ∧ Inv w [] w' ∧ Inv w S w' ∧ ∀ x ∈ S, w.heap.size ≤ x.1 := by
  have hI1 := Inv.start w
  refine enter (n := 22) Tryd.func18 rfl rfl rfl ?_
  intro ac1 hf1
  refine code_seq ?_
  refine seq_start (l := [0, 1]) rfl ?_
  refine seq_one (op_box hf1 rfl rfl rfl rfl hI1 fun ac2 b1 wd1 hb1 hI2 hf2 => ?_)
  have hI3 : Inv w [(b1, arr .u8 m, 22)] wd1 := hI2
  refine seq_one (op_val (v := .slice none 0 0) hf2 rfl rfl rfl rfl rfl rfl (r_assign rfl) fun ac3 hf3 => ?_)
  refine seq_end ?_
  clear ac1 hI1 hf1 hI2 ac2 hf2
  refine then_normal ?_
  refine code_seq ?_
  refine seq_start (l := [0]) rfl ?_
  refine seq_one (op_val (v := .slice none 0 0) hf3 rfl rfl rfl rfl rfl rfl (r_assign rfl) fun ac4 hf4 => ?_)
  refine seq_end ?_
  clear ac3 hf3
  refine then_normal ?_
  refine code_seq ?_
  refine code_seq ?_
  refine seq_start (l := [0]) rfl ?_
  refine seq_one (op_val (v := .int .i64 0) hf4 rfl rfl rfl rfl rfl rfl (r_assign rfl) fun ac5 hf5 => ?_)
  refine seq_end ?_
  clear ac4 hf4
  refine then_normal ?_
  refine wp_block ?_
  refine code_loop (α := Nat × (Option Addr) × Nat × (List Blk)) (fun (x : Nat × (Option Addr) × Nat × (List Blk)) => match x with | (i, p, cap, S) => [(0, .agg (arr .u8 m)), (1, .int .u8 a), (2, .pointer (some ⟨b1, 0, none⟩)), (4, .slice none 0 0), (5, .slice p ((ofL m a i).length) cap), (6, .int .i64 (i : Int))]) (fun (x : Nat × (Option Addr) × Nat × (List Blk)) => match x with | (i, p, cap, S) => fun wL => Inv w ([(b1, arr .u8 m, 22)] ++ S) wL ∧ (Sl 5 .u8 S p cap (ofL m a i) ∧ (∀ x ∈ S, w.heap.size ≤ x.1) ∧ i ≤ 16)) (fun (x : Nat × (Option Addr) × Nat × (List Blk)) => match x with | (i, p, cap, S) => 16 - i) (0, none, 0, []) (hf5.cons 0 rfl (hf5.cons 1 rfl (hf5.cons 2 rfl (hf5.cons 4 rfl (hf5.cons 5 rfl (hf5.cons 6 rfl hf5.nil)))))) ⟨hI3, ⟨Sl.nil, (fun _ h => by cases h), Nat.zero_le _⟩⟩ ?_
  intro ⟨i, p, cap, S⟩ ac6 wd2 hf6 hL1
  obtain ⟨hI4, hx1⟩ := hL1
  dsimp only at hf6 hI4 hx1
  clear ac5 wd1 hf5 hI3
  obtain ⟨hs1, hz1, hi1⟩ := hx1
  refine code_seq ?_
  refine code_seq ?_
  refine seq_start (l := [0, 1]) rfl ?_
  refine seq_one (op_val (v := .int .i64 (i : Int)) hf6 rfl rfl rfl rfl rfl rfl (r_move rfl) fun ac7 hf7 => ?_)
  refine seq_one (op_val (v := .bool (decide ((i : Int) < 16))) hf7 rfl rfl rfl rfl rfl rfl (r_lss rfl rfl) fun ac8 hf8 => ?_)
  refine seq_end ?_
  clear ac6 hf6 ac7 hf7
  refine then_normal ?_
  refine code_if hf8 rfl (fun c8_1 => ?_) (fun c8_1 => ?_)
  · have hf9 := hf8.know 8 (u := .bool true) rfl (congrArg Value.bool c8_1)
    refine wp_skip ?_
    refine then_normal ?_
    refine code_seq ?_
    refine wp_block ?_
    refine code_seq ?_
    refine seq_start (l := [0, 1, 2, 3, 4]) rfl ?_
    refine seq_one (op_val (v := .int .i64 (i : Int)) hf9 rfl rfl rfl rfl rfl rfl (r_move rfl) fun ac9 hf10 => ?_)
    refine seq_one (op_val (v := .pointer (some ⟨b1, i, none⟩)) hf10 rfl rfl rfl rfl rfl rfl (r_indexAddr (i := i) ar_22 rfl rfl rfl (by have := of_decide_eq_true c8_1; omega) (by rw [Nat.mul_one, Nat.zero_add])) fun ac10 hf11 => ?_)
    refine seq_one (op_val (v := .int .u8 (m.getD i 0)) hf11 rfl rfl rfl rfl rfl rfl (r_load ag_5 rfl (hI4.at 0 rfl) (arr_get (by rw [hm]; exact (by have := of_decide_eq_true c8_1; omega)))) fun ac11 hf12 => ?_)
    refine seq_one (op_val (v := .int .u8 a) hf12 rfl rfl rfl rfl rfl rfl (r_move rfl) fun ac12 hf13 => ?_)
    refine seq_one (op_val (v := .bool ((m.getD i 0) == a)) hf13 rfl rfl rfl rfl rfl rfl (r_eql rfl rfl) fun ac13 hf14 => ?_)
    refine seq_end ?_
    clear hf8 ac8 hf9 ac9 hf10 ac10 hf11 ac11 hf12 ac12 hf13
    refine then_normal ?_
    refine code_if hf14 rfl (fun c15_2 => ?_) (fun c15_2 => ?_)
    · have hf15 := hf14.know 15 (u := .bool true) rfl (congrArg Value.bool c15_2)
      refine seq_start (l := [0, 1, 2, 3, 4, 5]) rfl ?_
      refine seq_one (op_val (v := .slice p ((ofL m a i).length) cap) hf15 rfl rfl rfl rfl rfl rfl (r_move rfl) fun ac14 hf16 => ?_)
      refine seq_one (op_val (v := .int .i64 (i : Int)) hf16 rfl rfl rfl rfl rfl rfl (r_move rfl) fun ac15 hf17 => ?_)
      refine seq_one (op_val (v := .int .u8 (i : Int)) hf17 rfl rfl rfl rfl rfl rfl (r_conv (c := (i : Int)) ui_3 ui_5 rfl (wrap_u8 (by omega) (by have := of_decide_eq_true c8_1; omega))) fun ac16 hf18 => ?_)
      refine seq_one (op_bslice (s := 5) (cells := #[.int .u8 (i : Int)]) hf18 rfl rfl rfl rfl rfl (fun _ => by kernel_rfl) hI4 fun ac17 b2 wd3 hb2 hI5 hf19 => ?_)
      have hI6 : Inv w ([(b1, arr .u8 m, 22), (b2, #[.int .u8 (i : Int)], 5)] ++ S) wd3 := Inv.tail (A := [(b1, arr .u8 m, 22)]) (T := S) (N := [(b2, #[.int .u8 (i : Int)], 5)]) hI5
      refine seq_one (op_append1 (A := [(b1, arr .u8 m, 22), (b2, #[.int .u8 (i : Int)], 5)]) (S := S) hf19 rfl rfl rfl us_27 if_5 rfl hs1 rfl hI6 hz1 (List.mem_of_getElem? (i := 1) rfl) rfl (Nat.le_trans (Nat.succ_le_succ ofL_len) (by have := hi1; simp only [maxLen]; omega)) (by have := @ofL_len m a i; have := hi1; omega) fun ac18 p3 capp3 Sp3 wd4 hsp3 hzp3 hI7 hf20 => ?_)
      rw [← ofL_true c15_2] at hsp3 hf20
      refine seq_one (op_val (v := .slice p3 ((ofL m a (i + 1)).length) capp3) hf20 rfl rfl rfl rfl rfl rfl (r_assign rfl) fun ac19 hf21 => ?_)
      refine seq_end ?_
      clear hf14 ac13 hf15 ac14 hf16 ac15 hf17 ac16 wd2 hI4 hf18 hI5 ac17 wd3 hI6 hf19 ac18 hf20
      refine block_normal ?_
      refine then_normal ?_
      refine seq_start (l := [0, 1, 2]) rfl ?_
      refine seq_one (op_val (v := .int .i64 (i : Int)) hf21 rfl rfl rfl rfl rfl rfl (r_move rfl) fun ac20 hf22 => ?_)
      refine seq_one (op_val (v := .int .i64 ((i + 1 : Nat) : Int)) hf22 rfl rfl rfl rfl rfl rfl (r_add (c := ((i + 1 : Nat) : Int)) rfl rfl (wrap_i64 (by omega) (by omega))) fun ac21 hf23 => ?_)
      refine seq_one (op_val (v := .int .i64 ((i + 1 : Nat) : Int)) hf23 rfl rfl rfl rfl rfl rfl (r_assign rfl) fun ac22 hf24 => ?_)
      refine seq_end ?_
      clear ac19 hf21 ac20 hf22 ac21 hf23
      refine then_normal ?_
      exact ⟨(i + 1, p3, capp3, Sp3), (hf24.cons 0 rfl (hf24.cons 1 rfl (hf24.cons 2 rfl (hf24.cons 4 rfl (hf24.cons 5 rfl (hf24.cons 6 rfl hf24.nil)))))), ⟨(Inv.keep (A := [(b1, arr .u8 m, 22)]) (N := [(b2, #[.int .u8 (i : Int)], 5)]) (T := Sp3) hI7 (fresh_keys (ks := [b2]) rfl (fk_cons hb2 fk_nil))), ⟨hsp3, hzp3, by have := of_decide_eq_true c8_1; omega⟩⟩, (by have := of_decide_eq_true c8_1; show 16 - (i + 1) < 16 - i; omega)⟩
    · have hf25 := hf14.know 15 (u := .bool false) rfl (congrArg Value.bool c15_2)
      refine wp_skip ?_
      refine block_normal ?_
      refine then_normal ?_
      refine seq_start (l := [0, 1, 2]) rfl ?_
      refine seq_one (op_val (v := .int .i64 (i : Int)) hf25 rfl rfl rfl rfl rfl rfl (r_move rfl) fun ac23 hf26 => ?_)
      refine seq_one (op_val (v := .int .i64 ((i + 1 : Nat) : Int)) hf26 rfl rfl rfl rfl rfl rfl (r_add (c := ((i + 1 : Nat) : Int)) rfl rfl (wrap_i64 (by omega) (by omega))) fun ac24 hf27 => ?_)
      refine seq_one (op_val (v := .int .i64 ((i + 1 : Nat) : Int)) hf27 rfl rfl rfl rfl rfl rfl (r_assign rfl) fun ac25 hf28 => ?_)
      refine seq_end ?_
      clear hf14 ac13 hf25 ac23 hf26 ac24 hf27
      refine then_normal ?_
      rw [← ofL_false c15_2] at hs1 hf28
      exact ⟨(i + 1, p, cap, S), (hf28.cons 0 rfl (hf28.cons 1 rfl (hf28.cons 2 rfl (hf28.cons 4 rfl (hf28.cons 5 rfl (hf28.cons 6 rfl hf28.nil)))))), ⟨hI4, ⟨hs1, hz1, by have := of_decide_eq_true c8_1; omega⟩⟩, (by have := of_decide_eq_true c8_1; show 16 - (i + 1) < 16 - i; omega)⟩
  · have hf29 := hf8.know 8 (u := .bool false) rfl (congrArg Value.bool c8_1)
    refine wp_exit ?_
    refine then_exit ?_
    refine then_exit ?_
    refine block_here ?_
    refine then_normal ?_
    refine code_seq ?_
    refine seq_start (l := [0, 1]) rfl ?_
    refine seq_one (op_val (v := .slice p ((ofL m a i).length) cap) hf29 rfl rfl rfl rfl rfl rfl (r_move rfl) fun ac26 hf30 => ?_)
    refine seq_one (op_val (v := .slice p ((ofL m a i).length) cap) hf30 rfl rfl rfl rfl rfl rfl (r_assign rfl) fun ac27 hf31 => ?_)
    refine seq_end ?_
    clear hf8 ac8 hf29 ac26 hf30
    refine then_normal ?_
    refine wp_ret ?_
    have e16 : i = 16 := by have := of_decide_eq_false c8_1; omega
    subst e16
    exact post1 rfl hf31 rfl ⟨S, p, cap, rfl, hs1, Inv.drop (A := []) (B := S) (hI4.forget (List.sublist_append_right _ _) (fun x hx => (List.mem_append.1 hx).elim (fun h => .inr ((fresh_keys (ks := [b1]) rfl (fk_cons hb1 fk_nil)) x h)) .inl)) hz1, hI4.forget (List.sublist_append_right _ _) (fun x hx => (List.mem_append.1 hx).elim (fun h => .inr ((fresh_keys (ks := [b1]) rfl (fk_cons hb1 fk_nil)) x h)) .inl), hz1⟩

theorem rightF_true {m : List Int} (hm : m.length = 16) (h : ∀ j : Nat, j < 16 → m.getD j 0 ≤ 3) : rightF m = true := by
  unfold rightF
  rw [List.all_eq_true]
  intro x hx
  obtain ⟨j, hj, rfl⟩ := List.mem_iff_getElem.1 hx
  have := h j (by omega)
  simp [List.getD, List.getElem?_eq_getElem hj] at this
  simpa using this
theorem rightF_false {m : List Int} (hm : m.length = 16) {j : Nat} (hj : j < 16) (h : m.getD j 0 > 3) : rightF m = false := by
  unfold rightF
  rw [List.all_eq_false]
  have hj' : j < m.length := by omega
  refine ⟨m[j], List.getElem_mem hj', ?_⟩
  simp [List.getD, List.getElem?_eq_getElem hj'] at h
  simp; omega
def cntR (m : List Int) (i : Nat) : Nat := ((List.range i).filter fun j => decide (m.getD j 0 ≤ 3)).length
theorem cntR_true {m : List Int} {i : Nat} (h : decide (m.getD i 0 ≤ 3) = true) : cntR m (i + 1) = cntR m i + 1 := by
  simp only [cntR, List.range_succ, List.filter_append, List.length_append]
  rw [List.filter_cons, if_pos h]; rfl
theorem cntR_false {m : List Int} {i : Nat} (h : decide (m.getD i 0 ≤ 3) = false) : cntR m (i + 1) = cntR m i := by
  simp only [cntR, List.range_succ, List.filter_append, List.length_append]
  rw [List.filter_cons, if_neg (by rw [h]; simp)]; rfl
theorem cntR_le {m : List Int} {i : Nat} : cntR m i ≤ i := by
  unfold cntR; exact Nat.le_trans (List.length_filter_le _ _) (by simp)
theorem cntR_eq {m : List Int} (hm : m.length = 16) : (((cntR m 16 : Nat) : Int) == 16) = rightF m := by
  rw [Bool.eq_iff_iff, beq_iff_eq]
  constructor
  · intro h
    refine rightF_true hm fun j hj => ?_
    have h' : ((List.range 16).filter fun j => decide (m.getD j 0 ≤ 3)).length = (List.range 16).length := by
      have : cntR m 16 = 16 := by omega
      simpa [cntR] using this
    have := List.length_filter_eq_length_iff.1 h' j (List.mem_range.2 hj)
    simpa using this
  · intro h
    have : ((List.range 16).filter fun j => decide (m.getD j 0 ≤ 3)).length = (List.range 16).length := by
      rw [List.length_filter_eq_length_iff]
      intro j hj
      have hj' : j < m.length := by rw [hm]; exact List.mem_range.1 hj
      have := List.all_eq_true.1 h m[j] (List.getElem_mem hj')
      simpa [List.getD, List.getElem?_eq_getElem hj'] using this
    have h16 : cntR m 16 = 16 := by unfold cntR; rw [this]; rfl
    rw [h16]; rfl
theorem bandF_none {m : List Int} {p : Int} (h : p > 15 ∨ m.getD p.toNat 0 ≥ 3) : bandF m p = (0, false) := if_pos h
theorem bandF_some {m : List Int} {p : Int} (h : ¬ p > 15) (g : ¬ m.getD p.toNat 0 ≥ 3) : bandF m p = (m.getD p.toNat 0, true) := if_neg (by omega)
def sw (a b x : Int) : Int := if x = a then b else if x = b then a else x
def turnL (m : List Int) (a b : Int) (i : Nat) : List Int := (List.range 16).map fun j => if j < i then sw a b (m.getD j 0) else m.getD j 0
def outL (m : List Int) (a b : Int) (i : Nat) : List Int := (List.range 16).map fun j => if j < i then sw a b (m.getD j 0) else 0
def turnF (m : List Int) (a b : Int) : List Int := turnL m a b 16
theorem turnL_len {m : List Int} {a b : Int} {i : Nat} : (turnL m a b i).length = 16 := by simp [turnL]
theorem outL_len {m : List Int} {a b : Int} {i : Nat} : (outL m a b i).length = 16 := by simp [outL]
theorem turnL_zero {m : List Int} {a b : Int} (hm : m.length = 16) : turnL m a b 0 = m := by
  apply List.ext_getElem?
  intro j
  simp only [turnL, List.getElem?_map, Nat.not_lt_zero, if_false]
  by_cases h : j < 16
  · rw [List.getElem?_range h]; simp [List.getD, List.getElem?_eq_getElem (show j < m.length by omega)]
  · rw [List.getElem?_eq_none (by simp; omega), List.getElem?_eq_none (by omega)]; rfl
theorem turnL_get {m : List Int} {a b : Int} {i j : Nat} (h : j < 16) : (turnL m a b i)[j]? = some (if j < i then sw a b (m.getD j 0) else m.getD j 0) := by
  simp only [turnL, List.getElem?_map]; rw [List.getElem?_range h]; rfl
theorem outL_get {m : List Int} {a b : Int} {i j : Nat} (h : j < 16) : (outL m a b i)[j]? = some (if j < i then sw a b (m.getD j 0) else 0) := by
  simp only [outL, List.getElem?_map]; rw [List.getElem?_range h]; rfl
theorem turnL_set {m : List Int} {a b v : Int} {i : Nat} (hi : i < 16) (hv : v = sw a b (m.getD i 0)) : (turnL m a b i).set i v = turnL m a b (i + 1) := by
  apply List.ext_getElem?
  intro j
  rw [List.getElem?_set]
  by_cases h : j < 16
  · rw [turnL_get h, turnL_get h]
    by_cases e : i = j
    · subst e; simp [turnL_len, h, hv]
    · rw [if_neg e]; simp only [show (j < i + 1) = (j < i) by simp; omega]
  · rw [List.getElem?_eq_none (by rw [turnL_len]; omega), List.getElem?_eq_none (by rw [turnL_len]; omega)]
    split
    · rw [if_neg (by rw [turnL_len]; omega)]
    · rfl
theorem turnL_same {m : List Int} {a b : Int} {i : Nat} (hi : i < 16) (hv : m.getD i 0 = sw a b (m.getD i 0)) : turnL m a b i = turnL m a b (i + 1) := by
  apply List.ext_getElem?
  intro j
  by_cases h : j < 16
  · rw [turnL_get h, turnL_get h]
    by_cases e : i = j
    · subst e; rw [if_neg (Nat.lt_irrefl _), if_pos (Nat.lt_succ_self _), ← hv]
    · simp only [show (j < i + 1) = (j < i) by simp; omega]
  · rw [List.getElem?_eq_none (by rw [turnL_len]; omega), List.getElem?_eq_none (by rw [turnL_len]; omega)]
theorem outL_set {m : List Int} {a b v : Int} {i : Nat} (hi : i < 16) (hv : v = sw a b (m.getD i 0)) : (outL m a b i).set i v = outL m a b (i + 1) := by
  apply List.ext_getElem?
  intro j
  rw [List.getElem?_set]
  by_cases h : j < 16
  · rw [outL_get h, outL_get h]
    by_cases e : i = j
    · subst e; simp [outL_len, h, hv]
    · rw [if_neg e]; simp only [show (j < i + 1) = (j < i) by simp; omega]
  · rw [List.getElem?_eq_none (by rw [outL_len]; omega), List.getElem?_eq_none (by rw [outL_len]; omega)]
    split
    · rw [if_neg (by rw [outL_len]; omega)]
    · rfl
theorem outL_end {m : List Int} {a b : Int} : outL m a b 16 = turnF m a b := by
  apply List.ext_getElem?
  intro j
  by_cases h : j < 16
  · rw [turnF, outL_get h, turnL_get h, if_pos h, if_pos h]
  · rw [turnF, List.getElem?_eq_none (by rw [outL_len]; omega), List.getElem?_eq_none (by rw [turnL_len]; omega)]
theorem set_set_same {l : List Int} {i : Nat} {x y : Int} : (l.set i x).set i y = l.set i y := List.set_set ..
def usualL : List Int := [1, 2, 2, 2, 1, 2, 0, 3, 1, 1, 1, 1, 1, 1, 1, 1]

set_option maxHeartbeats 8000000 in
theorem right_pur (m : List Int) (hm : m.length = 16) (hk : InK .u8 m) : Pur Tryd.prog 14 [.agg (arr .u8 m)] (.bool (rightF m)) := by
  intro w
  have hI1 := Inv.start w
  refine enter (n := 12) Tryd.func14 rfl rfl rfl ?_
  intro ac1 hf1
  refine code_seq ?_
  refine seq_start (l := [0, 1]) rfl ?_
  refine seq_one (op_box hf1 rfl rfl rfl rfl hI1 fun ac2 b1 wd1 hb1 hI2 hf2 => ?_)
  have hI3 : Inv w [(b1, arr .u8 m, 22)] wd1 := hI2
  refine seq_one (op_val (v := .bool false) hf2 rfl rfl rfl rfl rfl rfl (r_assign rfl) fun ac3 hf3 => ?_)
  refine seq_end ?_
  clear ac1 hI1 hf1 hI2 ac2 hf2
  refine then_normal ?_
  refine code_seq ?_
  refine code_seq ?_
  refine seq_start (l := [0, 1]) rfl ?_
  refine seq_one (op_val (v := .agg (arr .u8 m)) hf3 rfl rfl rfl rfl rfl rfl (r_loadW ag_22 sz_22 rfl (hI3.at 0 rfl) (arr_size hm)) fun ac4 hf4 => ?_)
  refine seq_one (op_val (v := .int .i64 0) hf4 rfl rfl rfl rfl rfl rfl (r_move rfl) fun ac5 hf5 => ?_)
  refine seq_end ?_
  clear ac3 hf3 ac4 hf4
  refine then_normal ?_
  refine wp_block ?_
  refine code_loop (α := Nat) (fun (i : Nat) => [(0, .agg (arr .u8 m)), (1, .pointer (some ⟨b1, 0, none⟩)), (5, .agg (arr .u8 m)), (6, .int .i64 (i : Int))]) (fun (i : Nat) => fun wL => Inv w [(b1, arr .u8 m, 22)] wL ∧ ((∀ j : Nat, j < i → m.getD j 0 ≤ 3) ∧ i ≤ 16)) (fun (i : Nat) => 16 - i) 0 (hf5.cons 0 rfl (hf5.cons 1 rfl (hf5.cons 5 rfl (hf5.cons 6 rfl hf5.nil)))) ⟨hI3, ⟨(fun j h => absurd h (Nat.not_lt_zero j)), Nat.zero_le _⟩⟩ ?_
  intro i ac6 wd2 hf6 hL1
  obtain ⟨hI4, hx1⟩ := hL1
  clear ac5 wd1 hf5 hI3
  refine code_seq ?_
  refine seq_start (l := [0]) rfl ?_
  refine seq_one (op_val (v := .bool (decide ((i : Int) < 16))) hf6 rfl rfl rfl rfl rfl rfl (r_lss rfl rfl) fun ac7 hf7 => ?_)
  refine seq_end ?_
  clear ac6 hf6
  refine then_normal ?_
  refine code_seq ?_
  refine code_if hf7 rfl (fun c7_1 => ?_) (fun c7_1 => ?_)
  · have hf8 := hf7.know 7 (u := .bool true) rfl (congrArg Value.bool c7_1)
    refine wp_skip ?_
    refine then_normal ?_
    refine code_seq ?_
    refine wp_block ?_
    refine code_seq ?_
    refine seq_start (l := [0, 1]) rfl ?_
    refine seq_one (op_val (v := .int .u8 (m.getD i 0)) hf8 rfl rfl rfl rfl rfl rfl (r_index (i := i) ar_22 ag_5 rfl rfl rfl (by have := of_decide_eq_true c7_1; omega) (arr_get1 (by rw [hm]; exact (by have := of_decide_eq_true c7_1; omega)))) fun ac8 hf9 => ?_)
    refine seq_one (op_val (v := .int .u8 (m.getD i 0)) hf9 rfl rfl rfl rfl rfl rfl (r_assign rfl) fun ac9 hf10 => ?_)
    refine seq_end ?_
    clear hf7 ac7 hf8 ac8 hf9
    refine then_normal ?_
    refine code_seq ?_
    refine seq_start (l := [0, 1]) rfl ?_
    refine seq_one (op_val (v := .int .u8 (m.getD i 0)) hf10 rfl rfl rfl rfl rfl rfl (r_move rfl) fun ac10 hf11 => ?_)
    refine seq_one (op_val (v := .bool (decide ((m.getD i 0) > 3))) hf11 rfl rfl rfl rfl rfl rfl (r_gtr rfl rfl) fun ac11 hf12 => ?_)
    refine seq_end ?_
    clear ac9 hf10 ac10 hf11
    refine then_normal ?_
    refine code_if hf12 rfl (fun c10_2 => ?_) (fun c10_2 => ?_)
    · have hf13 := hf12.know 10 (u := .bool true) rfl (congrArg Value.bool c10_2)
      refine code_seq ?_
      refine seq_start (l := [0]) rfl ?_
      refine seq_one (op_val (v := .bool false) hf13 rfl rfl rfl rfl rfl rfl (r_assign rfl) fun ac12 hf14 => ?_)
      refine seq_end ?_
      clear hf12 ac11 hf13
      refine then_normal ?_
      refine wp_ret ?_
      refine block_ret ?_
      refine then_ret ?_
      refine then_ret ?_
      refine block_ret ?_
      refine then_ret ?_
      refine post1 rfl hf14 rfl ⟨?_, hI4.done (fresh_keys (ks := [b1]) rfl (fk_cons hb1 fk_nil))⟩
      exact congrArg (fun z => Ending.returned (.bool z)) (rightF_false hm (by have := of_decide_eq_true c7_1; omega) (of_decide_eq_true c10_2)).symm
    · have hf15 := hf12.know 10 (u := .bool false) rfl (congrArg Value.bool c10_2)
      refine wp_skip ?_
      refine block_normal ?_
      refine then_normal ?_
      refine seq_start (l := [0, 1]) rfl ?_
      refine seq_one (op_val (v := .int .i64 ((i + 1 : Nat) : Int)) hf15 rfl rfl rfl rfl rfl rfl (r_add (c := ((i + 1 : Nat) : Int)) rfl rfl (wrap_i64 (by omega) (by omega))) fun ac13 hf16 => ?_)
      refine seq_one (op_val (v := .int .i64 ((i + 1 : Nat) : Int)) hf16 rfl rfl rfl rfl rfl rfl (r_move rfl) fun ac14 hf17 => ?_)
      refine seq_end ?_
      clear hf12 ac11 hf15 ac13 hf16
      refine then_normal ?_
      exact ⟨i + 1, (hf17.cons 0 rfl (hf17.cons 1 rfl (hf17.cons 5 rfl (hf17.cons 6 rfl hf17.nil)))), ⟨hI4, ⟨fun j hj => by rcases Nat.lt_succ_iff_lt_or_eq.1 hj with h | rfl; exact hx1.1 j h; exact Int.not_lt.1 (of_decide_eq_false c10_2), by have := of_decide_eq_true c7_1; omega⟩⟩, (by have := of_decide_eq_true c7_1; omega)⟩
  · have hf18 := hf7.know 7 (u := .bool false) rfl (congrArg Value.bool c7_1)
    refine wp_exit ?_
    refine then_exit ?_
    refine then_exit ?_
    refine block_here ?_
    refine then_normal ?_
    refine code_seq ?_
    refine seq_start (l := [0]) rfl ?_
    refine seq_one (op_val (v := .bool true) hf18 rfl rfl rfl rfl rfl rfl (r_assign rfl) fun ac15 hf19 => ?_)
    refine seq_end ?_
    clear hf7 ac7 hf18
    refine then_normal ?_
    refine wp_ret ?_
    refine post1 rfl hf19 rfl ⟨?_, hI4.done (fresh_keys (ks := [b1]) rfl (fk_cons hb1 fk_nil))⟩
    exact congrArg (fun z => Ending.returned (.bool z)) (rightF_true hm fun j hj => hx1.1 j (by have := of_decide_eq_false c7_1; omega)).symm
set_option maxHeartbeats 8000000 in
theorem rightR_pur (m : List Int) (hm : m.length = 16) (hk : InK .u8 m) : Pur Tryd.prog 15 [.agg (arr .u8 m)] (.bool (rightF m)) := by
  intro w
  have hI1 := Inv.start w
  refine enter (n := 17) Tryd.func15 rfl rfl rfl ?_
  intro ac1 hf1
  refine code_seq ?_
  refine seq_start (l := [0, 1]) rfl ?_
  refine seq_one (op_box hf1 rfl rfl rfl rfl hI1 fun ac2 b1 wd1 hb1 hI2 hf2 => ?_)
  have hI3 : Inv w [(b1, arr .u8 m, 22)] wd1 := hI2
  refine seq_one (op_val (v := .bool false) hf2 rfl rfl rfl rfl rfl rfl (r_assign rfl) fun ac3 hf3 => ?_)
  refine seq_end ?_
  clear ac1 hI1 hf1 hI2 ac2 hf2
  refine then_normal ?_
  refine code_seq ?_
  refine seq_start (l := [0]) rfl ?_
  refine seq_one (op_val (v := .int .i64 0) hf3 rfl rfl rfl rfl rfl rfl (r_assign rfl) fun ac4 hf4 => ?_)
  refine seq_end ?_
  clear ac3 hf3
  refine then_normal ?_
  refine code_seq ?_
  refine code_seq ?_
  refine seq_start (l := [0]) rfl ?_
  refine seq_one (op_val (v := .int .i64 0) hf4 rfl rfl rfl rfl rfl rfl (r_assign rfl) fun ac5 hf5 => ?_)
  refine seq_end ?_
  clear ac4 hf4
  refine then_normal ?_
  refine wp_block ?_
  refine code_loop (α := Nat) (fun (i : Nat) => [(0, .agg (arr .u8 m)), (1, .pointer (some ⟨b1, 0, none⟩)), (2, .bool false), (3, .int .i64 (cntR m i : Int)), (4, .int .i64 (i : Int))]) (fun (i : Nat) => fun wL => Inv w [(b1, arr .u8 m, 22)] wL ∧ (i ≤ 16)) (fun (i : Nat) => 16 - i) 0 (hf5.cons 0 rfl (hf5.cons 1 rfl (hf5.cons 2 rfl (hf5.cons 3 rfl (hf5.cons 4 rfl hf5.nil))))) ⟨hI3, Nat.zero_le _⟩ ?_
  intro i ac6 wd2 hf6 hL1
  obtain ⟨hI4, hx1⟩ := hL1
  clear ac5 wd1 hf5 hI3
  refine code_seq ?_
  refine code_seq ?_
  refine seq_start (l := [0, 1]) rfl ?_
  refine seq_one (op_val (v := .int .i64 (i : Int)) hf6 rfl rfl rfl rfl rfl rfl (r_move rfl) fun ac7 hf7 => ?_)
  refine seq_one (op_val (v := .bool (decide ((i : Int) < 16))) hf7 rfl rfl rfl rfl rfl rfl (r_lss rfl rfl) fun ac8 hf8 => ?_)
  refine seq_end ?_
  clear ac6 hf6 ac7 hf7
  refine then_normal ?_
  refine code_if hf8 rfl (fun c6_1 => ?_) (fun c6_1 => ?_)
  · have hf9 := hf8.know 6 (u := .bool true) rfl (congrArg Value.bool c6_1)
    refine wp_skip ?_
    refine then_normal ?_
    refine code_seq ?_
    refine wp_block ?_
    refine code_seq ?_
    refine seq_start (l := [0, 1, 2, 3]) rfl ?_
    refine seq_one (op_val (v := .int .i64 (i : Int)) hf9 rfl rfl rfl rfl rfl rfl (r_move rfl) fun ac9 hf10 => ?_)
    refine seq_one (op_val (v := .pointer (some ⟨b1, i, none⟩)) hf10 rfl rfl rfl rfl rfl rfl (r_indexAddr (i := i) ar_22 rfl rfl rfl (by have := of_decide_eq_true c6_1; omega) (by rw [Nat.mul_one, Nat.zero_add])) fun ac10 hf11 => ?_)
    refine seq_one (op_val (v := .int .u8 (m.getD i 0)) hf11 rfl rfl rfl rfl rfl rfl (r_load ag_5 rfl (hI4.at 0 rfl) (arr_get (by rw [hm]; exact (by have := of_decide_eq_true c6_1; omega)))) fun ac11 hf12 => ?_)
    refine seq_one (op_val (v := .bool (decide ((m.getD i 0) ≤ 3))) hf12 rfl rfl rfl rfl rfl rfl (r_leq rfl rfl) fun ac12 hf13 => ?_)
    refine seq_end ?_
    clear hf8 ac8 hf9 ac9 hf10 ac10 hf11 ac11 hf12
    refine then_normal ?_
    refine code_if hf13 rfl (fun c12_2 => ?_) (fun c12_2 => ?_)
    · have hf14 := hf13.know 12 (u := .bool true) rfl (congrArg Value.bool c12_2)
      refine seq_start (l := [0, 1, 2]) rfl ?_
      refine seq_one (op_val (v := .int .i64 (cntR m i : Int)) hf14 rfl rfl rfl rfl rfl rfl (r_move rfl) fun ac13 hf15 => ?_)
      refine seq_one (op_val (v := .int .i64 ((cntR m i + 1 : Nat) : Int)) hf15 rfl rfl rfl rfl rfl rfl (r_add (c := ((cntR m i + 1 : Nat) : Int)) rfl rfl (wrap_i64 (by omega) (by have := @cntR_le m i; omega))) fun ac14 hf16 => ?_)
      refine seq_one (op_val (v := .int .i64 ((cntR m i + 1 : Nat) : Int)) hf16 rfl rfl rfl rfl rfl rfl (r_assign rfl) fun ac15 hf17 => ?_)
      refine seq_end ?_
      clear hf13 ac12 hf14 ac13 hf15 ac14 hf16
      refine block_normal ?_
      refine then_normal ?_
      refine seq_start (l := [0, 1, 2]) rfl ?_
      refine seq_one (op_val (v := .int .i64 (i : Int)) hf17 rfl rfl rfl rfl rfl rfl (r_move rfl) fun ac16 hf18 => ?_)
      refine seq_one (op_val (v := .int .i64 ((i + 1 : Nat) : Int)) hf18 rfl rfl rfl rfl rfl rfl (r_add (c := ((i + 1 : Nat) : Int)) rfl rfl (wrap_i64 (by omega) (by omega))) fun ac17 hf19 => ?_)
      refine seq_one (op_val (v := .int .i64 ((i + 1 : Nat) : Int)) hf19 rfl rfl rfl rfl rfl rfl (r_assign rfl) fun ac18 hf20 => ?_)
      refine seq_end ?_
      clear ac15 hf17 ac16 hf18 ac17 hf19
      refine then_normal ?_
      rw [show ((cntR m i + 1 : Nat) : Int) = ((cntR m (i + 1) : Nat) : Int) by rw [cntR_true c12_2]] at hf20
      exact ⟨i + 1, (hf20.cons 0 rfl (hf20.cons 1 rfl (hf20.cons 2 rfl (hf20.cons 3 rfl (hf20.cons 4 rfl hf20.nil))))), ⟨hI4, (by have := of_decide_eq_true c6_1; omega)⟩, (by have := of_decide_eq_true c6_1; omega)⟩
    · have hf21 := hf13.know 12 (u := .bool false) rfl (congrArg Value.bool c12_2)
      refine wp_skip ?_
      refine block_normal ?_
      refine then_normal ?_
      refine seq_start (l := [0, 1, 2]) rfl ?_
      refine seq_one (op_val (v := .int .i64 (i : Int)) hf21 rfl rfl rfl rfl rfl rfl (r_move rfl) fun ac19 hf22 => ?_)
      refine seq_one (op_val (v := .int .i64 ((i + 1 : Nat) : Int)) hf22 rfl rfl rfl rfl rfl rfl (r_add (c := ((i + 1 : Nat) : Int)) rfl rfl (wrap_i64 (by omega) (by omega))) fun ac20 hf23 => ?_)
      refine seq_one (op_val (v := .int .i64 ((i + 1 : Nat) : Int)) hf23 rfl rfl rfl rfl rfl rfl (r_assign rfl) fun ac21 hf24 => ?_)
      refine seq_end ?_
      clear hf13 ac12 hf21 ac19 hf22 ac20 hf23
      refine then_normal ?_
      rw [← cntR_false c12_2] at hf24
      exact ⟨i + 1, (hf24.cons 0 rfl (hf24.cons 1 rfl (hf24.cons 2 rfl (hf24.cons 3 rfl (hf24.cons 4 rfl hf24.nil))))), ⟨hI4, (by have := of_decide_eq_true c6_1; omega)⟩, (by have := of_decide_eq_true c6_1; omega)⟩
  · have hf25 := hf8.know 6 (u := .bool false) rfl (congrArg Value.bool c6_1)
    refine wp_exit ?_
    refine then_exit ?_
    refine then_exit ?_
    refine block_here ?_
    refine then_normal ?_
    refine code_seq ?_
    refine seq_start (l := [0, 1, 2]) rfl ?_
    refine seq_one (op_val (v := .int .i64 (cntR m i : Int)) hf25 rfl rfl rfl rfl rfl rfl (r_move rfl) fun ac22 hf26 => ?_)
    refine seq_one (op_val (v := .bool ((cntR m i : Int) == 16)) hf26 rfl rfl rfl rfl rfl rfl (r_eql rfl rfl) fun ac23 hf27 => ?_)
    refine seq_one (op_val (v := .bool ((cntR m i : Int) == 16)) hf27 rfl rfl rfl rfl rfl rfl (r_assign rfl) fun ac24 hf28 => ?_)
    refine seq_end ?_
    clear hf8 ac8 hf25 ac22 hf26 ac23 hf27
    refine then_normal ?_
    refine wp_ret ?_
    refine post1 rfl hf28 rfl ⟨?_, hI4.done (fresh_keys (ks := [b1]) rfl (fk_cons hb1 fk_nil))⟩
    have e16 : i = 16 := by have := of_decide_eq_false c6_1; omega
    subst e16
    exact congrArg (fun z => Ending.returned (.bool z)) (cntR_eq hm)
set_option maxHeartbeats 8000000 in
theorem band_pur (m : List Int) (hm : m.length = 16) (hk : InK .u8 m) (p : Int) (pl : 0 ≤ p) (pr : p ≤ 255) : Pur Tryd.prog 12 [.agg (arr .u8 m), .int .u8 p] (.tuple #[.int .i64 ((bandF m p).1), .bool ((bandF m p).2)]) := by
  intro w
  have hI1 := Inv.start w
  refine enter (n := 18) Tryd.func12 rfl rfl rfl ?_
  intro ac1 hf1
  refine code_seq ?_
  refine seq_start (l := [0, 1, 2]) rfl ?_
  refine seq_one (op_box hf1 rfl rfl rfl rfl hI1 fun ac2 b1 wd1 hb1 hI2 hf2 => ?_)
  have hI3 : Inv w [(b1, arr .u8 m, 22)] wd1 := hI2
  refine seq_one (op_val (v := .int .i64 0) hf2 rfl rfl rfl rfl rfl rfl (r_assign rfl) fun ac3 hf3 => ?_)
  refine seq_one (op_val (v := .bool false) hf3 rfl rfl rfl rfl rfl rfl (r_assign rfl) fun ac4 hf4 => ?_)
  refine seq_end ?_
  clear ac1 hI1 hf1 hI2 ac2 hf2 ac3 hf3
  refine then_normal ?_
  refine code_seq ?_
  refine code_seq ?_
  refine seq_start (l := [0, 1, 2, 3, 4, 5, 6, 7]) rfl ?_
  refine seq_one (op_val (v := .int .u8 p) hf4 rfl rfl rfl rfl rfl rfl (r_move rfl) fun ac5 hf5 => ?_)
  refine seq_one (op_val (v := .bool (decide (p > 15))) hf5 rfl rfl rfl rfl rfl rfl (r_gtr rfl rfl) fun ac6 hf6 => ?_)
  refine seq_one (op_val (v := .bool (decide (p > 15))) hf6 rfl rfl rfl rfl rfl rfl (r_move rfl) fun ac7 hf7 => ?_)
  rcases Bool.eq_false_or_eq_true (decide (p > 15) : Bool) with g8_1 | g8_1
  · have hf8 := hf7.know 8 (u := .bool true) rfl (congrArg Value.bool g8_1)
    refine seq_one (op_skip hf8 rfl rfl rfl rfl fun ac8 hf9 => ?_)
    refine seq_one (op_skip hf9 rfl rfl rfl rfl fun ac9 hf10 => ?_)
    refine seq_one (op_skip hf10 rfl rfl rfl rfl fun ac10 hf11 => ?_)
    refine seq_one (op_skip hf11 rfl rfl rfl rfl fun ac11 hf12 => ?_)
    refine seq_one (op_val (v := .bool true) hf12 rfl rfl rfl rfl rfl rfl (r_pickT rfl rfl) fun ac12 hf13 => ?_)
    refine seq_end ?_
    clear ac4 hf4 ac5 hf5 ac6 hf6 hf7 ac7 hf8 ac8 hf9 ac9 hf10 ac10 hf11 ac11 hf12
    refine then_normal ?_
    refine code_if_true hf13 rfl ?_
    refine code_seq ?_
    refine seq_start (l := [0, 1]) rfl ?_
    refine seq_one (op_val (v := .int .i64 0) hf13 rfl rfl rfl rfl rfl rfl (r_assign rfl) fun ac13 hf14 => ?_)
    refine seq_one (op_val (v := .bool false) hf14 rfl rfl rfl rfl rfl rfl (r_assign rfl) fun ac14 hf15 => ?_)
    refine seq_end ?_
    clear ac12 hf13 ac13 hf14
    refine then_normal ?_
    refine wp_ret ?_
    refine then_ret ?_
    refine post2 rfl hf15 rfl rfl ⟨?_, hI3.done (fresh_keys (ks := [b1]) rfl (fk_cons hb1 fk_nil))⟩
    rw [bandF_none (.inl (of_decide_eq_true g8_1))]
  · have hf16 := hf7.know 8 (u := .bool false) rfl (congrArg Value.bool g8_1)
    refine seq_one (op_val (v := .int .u8 p) hf16 rfl rfl rfl rfl rfl rfl (r_move rfl) fun ac15 hf17 => ?_)
    refine seq_one (op_val (v := .pointer (some ⟨b1, p.toNat, none⟩)) hf17 rfl rfl rfl rfl rfl rfl (r_indexAddr (i := p.toNat) ar_22 rfl rfl (Int.toNat_of_nonneg pl).symm (by have := of_decide_eq_false g8_1; omega) (by rw [Nat.mul_one, Nat.zero_add])) fun ac16 hf18 => ?_)
    refine seq_one (op_val (v := .int .u8 (m.getD p.toNat 0)) hf18 rfl rfl rfl rfl rfl rfl (r_load ag_5 rfl (hI3.at 0 rfl) (arr_get (by rw [hm]; exact (by have := of_decide_eq_false g8_1; omega)))) fun ac17 hf19 => ?_)
    refine seq_one (op_val (v := .bool (decide ((m.getD p.toNat 0) ≥ 3))) hf19 rfl rfl rfl rfl rfl rfl (r_geq rfl rfl) fun ac18 hf20 => ?_)
    refine seq_one (op_val (v := .bool (decide ((m.getD p.toNat 0) ≥ 3))) hf20 rfl rfl rfl rfl rfl rfl (r_pickF rfl rfl) fun ac19 hf21 => ?_)
    refine seq_end ?_
    clear ac4 hf4 ac5 hf5 ac6 hf6 hf7 ac7 hf16 ac15 hf17 ac16 hf18 ac17 hf19 ac18 hf20
    refine then_normal ?_
    refine code_if hf21 rfl (fun c13_2 => ?_) (fun c13_2 => ?_)
    · have hf22 := hf21.know 13 (u := .bool true) rfl (congrArg Value.bool c13_2)
      refine code_seq ?_
      refine seq_start (l := [0, 1]) rfl ?_
      refine seq_one (op_val (v := .int .i64 0) hf22 rfl rfl rfl rfl rfl rfl (r_assign rfl) fun ac20 hf23 => ?_)
      refine seq_one (op_val (v := .bool false) hf23 rfl rfl rfl rfl rfl rfl (r_assign rfl) fun ac21 hf24 => ?_)
      refine seq_end ?_
      clear hf21 ac19 hf22 ac20 hf23
      refine then_normal ?_
      refine wp_ret ?_
      refine then_ret ?_
      refine post2 rfl hf24 rfl rfl ⟨?_, hI3.done (fresh_keys (ks := [b1]) rfl (fk_cons hb1 fk_nil))⟩
      rw [bandF_none (.inr (of_decide_eq_true c13_2))]
    · have hf25 := hf21.know 13 (u := .bool false) rfl (congrArg Value.bool c13_2)
      refine wp_skip ?_
      refine then_normal ?_
      refine code_seq ?_
      refine seq_start (l := [0, 1, 2, 3, 4, 5]) rfl ?_
      refine seq_one (op_val (v := .int .u8 p) hf25 rfl rfl rfl rfl rfl rfl (r_move rfl) fun ac22 hf26 => ?_)
      refine seq_one (op_val (v := .pointer (some ⟨b1, p.toNat, none⟩)) hf26 rfl rfl rfl rfl rfl rfl (r_indexAddr (i := p.toNat) ar_22 rfl rfl (Int.toNat_of_nonneg pl).symm (by have := of_decide_eq_false g8_1; omega) (by rw [Nat.mul_one, Nat.zero_add])) fun ac23 hf27 => ?_)
      refine seq_one (op_val (v := .int .u8 (m.getD p.toNat 0)) hf27 rfl rfl rfl rfl rfl rfl (r_load ag_5 rfl (hI3.at 0 rfl) (arr_get (by rw [hm]; exact (by have := of_decide_eq_false g8_1; omega)))) fun ac24 hf28 => ?_)
      refine seq_one (op_val (v := .int .i64 (m.getD p.toNat 0)) hf28 rfl rfl rfl rfl rfl rfl (r_conv (c := m.getD p.toNat 0) ui_5 ui_3 rfl (by have h := bounds_u8 (hk.getD (i := p.toNat) (by have := of_decide_eq_false g8_1; omega)); exact wrap_i64 (by omega) (by omega))) fun ac25 hf29 => ?_)
      refine seq_one (op_val (v := .int .i64 (m.getD p.toNat 0)) hf29 rfl rfl rfl rfl rfl rfl (r_assign rfl) fun ac26 hf30 => ?_)
      refine seq_one (op_val (v := .bool true) hf30 rfl rfl rfl rfl rfl rfl (r_assign rfl) fun ac27 hf31 => ?_)
      refine seq_end ?_
      clear hf21 ac19 hf25 ac22 hf26 ac23 hf27 ac24 hf28 ac25 hf29 ac26 hf30
      refine then_normal ?_
      refine wp_ret ?_
      refine post2 rfl hf31 rfl rfl ⟨?_, hI3.done (fresh_keys (ks := [b1]) rfl (fk_cons hb1 fk_nil))⟩
      rw [bandF_some (of_decide_eq_false g8_1) (of_decide_eq_false c13_2)]
set_option maxHeartbeats 8000000 in
theorem bandR_pur (m : List Int) (hm : m.length = 16) (hk : InK .u8 m) (p : Int) (pl : 0 ≤ p) (pr : p ≤ 255) : Pur Tryd.prog 13 [.agg (arr .u8 m), .int .u8 p] (.tuple #[.int .i64 ((bandF m p).1), .bool ((bandF m p).2)]) := by
  intro w
  have hI1 := Inv.start w
  refine enter (n := 25) Tryd.func13 rfl rfl rfl ?_
  intro ac1 hf1
  refine code_seq ?_
  refine seq_start (l := [0, 1, 2]) rfl ?_
  refine seq_one (op_box hf1 rfl rfl rfl rfl hI1 fun ac2 b1 wd1 hb1 hI2 hf2 => ?_)
  have hI3 : Inv w [(b1, arr .u8 m, 22)] wd1 := hI2
  refine seq_one (op_val (v := .int .i64 0) hf2 rfl rfl rfl rfl rfl rfl (r_assign rfl) fun ac3 hf3 => ?_)
  refine seq_one (op_val (v := .bool false) hf3 rfl rfl rfl rfl rfl rfl (r_assign rfl) fun ac4 hf4 => ?_)
  refine seq_end ?_
  clear ac1 hI1 hf1 hI2 ac2 hf2 ac3 hf3
  refine then_normal ?_
  refine code_seq ?_
  refine code_seq ?_
  refine seq_start (l := [0]) rfl ?_
  refine seq_one (op_val (v := .int .i64 0) hf4 rfl rfl rfl rfl rfl rfl (r_assign rfl) fun ac5 hf5 => ?_)
  refine seq_end ?_
  clear ac4 hf4
  refine then_normal ?_
  refine wp_block ?_
  refine code_loop (α := Nat) (fun (i : Nat) => [(0, .agg (arr .u8 m)), (1, .int .u8 p), (2, .pointer (some ⟨b1, 0, none⟩)), (6, .int .i64 (i : Int))]) (fun (i : Nat) => fun wL => Inv w [(b1, arr .u8 m, 22)] wL ∧ ((∀ j : Nat, j < i → p = (j : Int) → ¬ m.getD j 0 < 3) ∧ i ≤ 16)) (fun (i : Nat) => 16 - i) 0 (hf5.cons 0 rfl (hf5.cons 1 rfl (hf5.cons 2 rfl (hf5.cons 6 rfl hf5.nil)))) ⟨hI3, ⟨(fun j h => absurd h (Nat.not_lt_zero j)), Nat.zero_le _⟩⟩ ?_
  intro i ac6 wd2 hf6 hL1
  obtain ⟨hI4, hx1⟩ := hL1
  clear ac5 wd1 hf5 hI3
  refine code_seq ?_
  refine code_seq ?_
  refine seq_start (l := [0, 1]) rfl ?_
  refine seq_one (op_val (v := .int .i64 (i : Int)) hf6 rfl rfl rfl rfl rfl rfl (r_move rfl) fun ac7 hf7 => ?_)
  refine seq_one (op_val (v := .bool (decide ((i : Int) < 16))) hf7 rfl rfl rfl rfl rfl rfl (r_lss rfl rfl) fun ac8 hf8 => ?_)
  refine seq_end ?_
  clear ac6 hf6 ac7 hf7
  refine then_normal ?_
  refine code_if hf8 rfl (fun c8_1 => ?_) (fun c8_1 => ?_)
  · have hf9 := hf8.know 8 (u := .bool true) rfl (congrArg Value.bool c8_1)
    refine wp_skip ?_
    refine then_normal ?_
    refine code_seq ?_
    refine wp_block ?_
    refine code_seq ?_
    refine seq_start (l := [0, 1, 2, 3, 4, 5, 6, 7, 8, 9]) rfl ?_
    refine seq_one (op_val (v := .int .u8 p) hf9 rfl rfl rfl rfl rfl rfl (r_move rfl) fun ac9 hf10 => ?_)
    refine seq_one (op_val (v := .int .i64 p) hf10 rfl rfl rfl rfl rfl rfl (r_conv (c := p) ui_5 ui_3 rfl (wrap_i64 (by omega) (by omega))) fun ac10 hf11 => ?_)
    refine seq_one (op_val (v := .int .i64 (i : Int)) hf11 rfl rfl rfl rfl rfl rfl (r_move rfl) fun ac11 hf12 => ?_)
    refine seq_one (op_val (v := .bool (p == (i : Int))) hf12 rfl rfl rfl rfl rfl rfl (r_eql rfl rfl) fun ac12 hf13 => ?_)
    refine seq_one (op_val (v := .bool (p == (i : Int))) hf13 rfl rfl rfl rfl rfl rfl (r_move rfl) fun ac13 hf14 => ?_)
    rcases Bool.eq_false_or_eq_true (p == (i : Int) : Bool) with g15_2 | g15_2
    · have hf15 := hf14.know 15 (u := .bool true) rfl (congrArg Value.bool g15_2)
      refine seq_one (op_val (v := .int .i64 (i : Int)) hf15 rfl rfl rfl rfl rfl rfl (r_move rfl) fun ac14 hf16 => ?_)
      refine seq_one (op_val (v := .pointer (some ⟨b1, i, none⟩)) hf16 rfl rfl rfl rfl rfl rfl (r_indexAddr (i := i) ar_22 rfl rfl rfl (by have := of_decide_eq_true c8_1; omega) (by rw [Nat.mul_one, Nat.zero_add])) fun ac15 hf17 => ?_)
      refine seq_one (op_val (v := .int .u8 (m.getD i 0)) hf17 rfl rfl rfl rfl rfl rfl (r_load ag_5 rfl (hI4.at 0 rfl) (arr_get (by rw [hm]; exact (by have := of_decide_eq_true c8_1; omega)))) fun ac16 hf18 => ?_)
      refine seq_one (op_val (v := .bool (decide ((m.getD i 0) < 3))) hf18 rfl rfl rfl rfl rfl rfl (r_lss rfl rfl) fun ac17 hf19 => ?_)
      refine seq_one (op_val (v := .bool (decide ((m.getD i 0) < 3))) hf19 rfl rfl rfl rfl rfl rfl (r_pickT rfl rfl) fun ac18 hf20 => ?_)
      refine seq_end ?_
      clear hf8 ac8 hf9 ac9 hf10 ac10 hf11 ac11 hf12 ac12 hf13 hf14 ac13 hf15 ac14 hf16 ac15 hf17 ac16 hf18 ac17 hf19
      refine then_normal ?_
      refine code_if hf20 rfl (fun c20_3 => ?_) (fun c20_3 => ?_)
      · have hf21 := hf20.know 20 (u := .bool true) rfl (congrArg Value.bool c20_3)
        refine code_seq ?_
        refine seq_start (l := [0, 1, 2, 3, 4, 5]) rfl ?_
        refine seq_one (op_val (v := .int .i64 (i : Int)) hf21 rfl rfl rfl rfl rfl rfl (r_move rfl) fun ac19 hf22 => ?_)
        refine seq_one (op_val (v := .pointer (some ⟨b1, i, none⟩)) hf22 rfl rfl rfl rfl rfl rfl (r_indexAddr (i := i) ar_22 rfl rfl rfl (by have := of_decide_eq_true c8_1; omega) (by rw [Nat.mul_one, Nat.zero_add])) fun ac20 hf23 => ?_)
        refine seq_one (op_val (v := .int .u8 (m.getD i 0)) hf23 rfl rfl rfl rfl rfl rfl (r_load ag_5 rfl (hI4.at 0 rfl) (arr_get (by rw [hm]; exact (by have := of_decide_eq_true c8_1; omega)))) fun ac21 hf24 => ?_)
        refine seq_one (op_val (v := .int .i64 (m.getD i 0)) hf24 rfl rfl rfl rfl rfl rfl (r_conv (c := m.getD i 0) ui_5 ui_3 rfl (by have h := bounds_u8 (hk.getD (i := i) (by have := of_decide_eq_true c8_1; omega)); exact wrap_i64 (by omega) (by omega))) fun ac22 hf25 => ?_)
        refine seq_one (op_val (v := .int .i64 (m.getD i 0)) hf25 rfl rfl rfl rfl rfl rfl (r_assign rfl) fun ac23 hf26 => ?_)
        refine seq_one (op_val (v := .bool true) hf26 rfl rfl rfl rfl rfl rfl (r_assign rfl) fun ac24 hf27 => ?_)
        refine seq_end ?_
        clear hf20 ac18 hf21 ac19 hf22 ac20 hf23 ac21 hf24 ac22 hf25 ac23 hf26
        refine then_normal ?_
        refine wp_ret ?_
        refine block_ret ?_
        refine then_ret ?_
        refine then_ret ?_
        refine block_ret ?_
        refine then_ret ?_
        refine post2 rfl hf27 rfl rfl ⟨?_, hI4.done (fresh_keys (ks := [b1]) rfl (fk_cons hb1 fk_nil))⟩
        have hp : p = (i : Int) := beq_iff_eq.1 g15_2; rw [bandF_some (by have := of_decide_eq_true c8_1; omega) (by have := of_decide_eq_true c20_3; rw [hp, Int.toNat_natCast]; omega), hp, Int.toNat_natCast]
      · have hf28 := hf20.know 20 (u := .bool false) rfl (congrArg Value.bool c20_3)
        refine wp_skip ?_
        refine block_normal ?_
        refine then_normal ?_
        refine seq_start (l := [0, 1, 2]) rfl ?_
        refine seq_one (op_val (v := .int .i64 (i : Int)) hf28 rfl rfl rfl rfl rfl rfl (r_move rfl) fun ac25 hf29 => ?_)
        refine seq_one (op_val (v := .int .i64 ((i + 1 : Nat) : Int)) hf29 rfl rfl rfl rfl rfl rfl (r_add (c := ((i + 1 : Nat) : Int)) rfl rfl (wrap_i64 (by omega) (by omega))) fun ac26 hf30 => ?_)
        refine seq_one (op_val (v := .int .i64 ((i + 1 : Nat) : Int)) hf30 rfl rfl rfl rfl rfl rfl (r_assign rfl) fun ac27 hf31 => ?_)
        refine seq_end ?_
        clear hf20 ac18 hf28 ac25 hf29 ac26 hf30
        refine then_normal ?_
        exact ⟨i + 1, (hf31.cons 0 rfl (hf31.cons 1 rfl (hf31.cons 2 rfl (hf31.cons 6 rfl hf31.nil)))), ⟨hI4, ⟨fun j hj hq => by rcases Nat.lt_succ_iff_lt_or_eq.1 hj with h | rfl; exact hx1.1 j h hq; exact of_decide_eq_false c20_3, by have := of_decide_eq_true c8_1; omega⟩⟩, (by have := of_decide_eq_true c8_1; omega)⟩
    · have hf32 := hf14.know 15 (u := .bool false) rfl (congrArg Value.bool g15_2)
      refine seq_one (op_skip hf32 rfl rfl rfl rfl fun ac28 hf33 => ?_)
      refine seq_one (op_skip hf33 rfl rfl rfl rfl fun ac29 hf34 => ?_)
      refine seq_one (op_skip hf34 rfl rfl rfl rfl fun ac30 hf35 => ?_)
      refine seq_one (op_skip hf35 rfl rfl rfl rfl fun ac31 hf36 => ?_)
      refine seq_one (op_val (v := .bool false) hf36 rfl rfl rfl rfl rfl rfl (r_pickF rfl rfl) fun ac32 hf37 => ?_)
      refine seq_end ?_
      clear hf8 ac8 hf9 ac9 hf10 ac10 hf11 ac11 hf12 ac12 hf13 hf14 ac13 hf32 ac28 hf33 ac29 hf34 ac30 hf35 ac31 hf36
      refine then_normal ?_
      refine code_if_false hf37 rfl ?_
      refine wp_skip ?_
      refine block_normal ?_
      refine then_normal ?_
      refine seq_start (l := [0, 1, 2]) rfl ?_
      refine seq_one (op_val (v := .int .i64 (i : Int)) hf37 rfl rfl rfl rfl rfl rfl (r_move rfl) fun ac33 hf38 => ?_)
      refine seq_one (op_val (v := .int .i64 ((i + 1 : Nat) : Int)) hf38 rfl rfl rfl rfl rfl rfl (r_add (c := ((i + 1 : Nat) : Int)) rfl rfl (wrap_i64 (by omega) (by omega))) fun ac34 hf39 => ?_)
      refine seq_one (op_val (v := .int .i64 ((i + 1 : Nat) : Int)) hf39 rfl rfl rfl rfl rfl rfl (r_assign rfl) fun ac35 hf40 => ?_)
      refine seq_end ?_
      clear ac32 hf37 ac33 hf38 ac34 hf39
      refine then_normal ?_
      exact ⟨i + 1, (hf40.cons 0 rfl (hf40.cons 1 rfl (hf40.cons 2 rfl (hf40.cons 6 rfl hf40.nil)))), ⟨hI4, ⟨fun j hj hq => by rcases Nat.lt_succ_iff_lt_or_eq.1 hj with h | rfl; exact hx1.1 j h hq; exact absurd hq (beq_eq_false_iff_ne.1 g15_2), by have := of_decide_eq_true c8_1; omega⟩⟩, (by have := of_decide_eq_true c8_1; omega)⟩
  · have hf41 := hf8.know 8 (u := .bool false) rfl (congrArg Value.bool c8_1)
    refine wp_exit ?_
    refine then_exit ?_
    refine then_exit ?_
    refine block_here ?_
    refine then_normal ?_
    refine code_seq ?_
    refine seq_start (l := [0, 1]) rfl ?_
    refine seq_one (op_val (v := .int .i64 0) hf41 rfl rfl rfl rfl rfl rfl (r_assign rfl) fun ac36 hf42 => ?_)
    refine seq_one (op_val (v := .bool false) hf42 rfl rfl rfl rfl rfl rfl (r_assign rfl) fun ac37 hf43 => ?_)
    refine seq_end ?_
    clear hf8 ac8 hf41 ac36 hf42
    refine then_normal ?_
    refine wp_ret ?_
    refine post2 rfl hf43 rfl rfl ⟨?_, hI4.done (fresh_keys (ks := [b1]) rfl (fk_cons hb1 fk_nil))⟩
    rw [bandF_none (by by_cases hp : p > 15; exact .inl hp; exact .inr (Int.not_lt.1 (hx1.1 p.toNat (by have := of_decide_eq_false c8_1; omega) (by omega))))]
set_option maxHeartbeats 8000000 in
theorem turn_pur (m : List Int) (hm : m.length = 16) (hk : InK .u8 m) (a b : Int) : Pur Tryd.prog 21 [.agg (arr .u8 m), .int .u8 a, .int .u8 b] (.agg (arr .u8 (turnF m a b))) := by
  intro w
  have hI1 := Inv.start w
  refine enter (n := 29) Tryd.func21 rfl rfl rfl ?_
  intro ac1 hf1
  refine code_seq ?_
  refine seq_start (l := [0, 1]) rfl ?_
  refine seq_one (op_box hf1 rfl rfl rfl rfl hI1 fun ac2 b1 wd1 hb1 hI2 hf2 => ?_)
  have hI3 : Inv w [(b1, arr .u8 m, 22)] wd1 := hI2
  refine seq_one (op_alloc hf2 rfl rfl rfl ze_22 hI3 fun ac3 b2 wd2 hb2 hI4 hf3 => ?_)
  have hI5 : Inv w [(b1, arr .u8 m, 22), (b2, #[.int .u8 0, .int .u8 0, .int .u8 0, .int .u8 0, .int .u8 0, .int .u8 0, .int .u8 0, .int .u8 0, .int .u8 0, .int .u8 0, .int .u8 0, .int .u8 0, .int .u8 0, .int .u8 0, .int .u8 0, .int .u8 0], 22)] wd2 := hI4
  refine seq_end ?_
  clear ac1 hI1 hf1 hI2 ac2 wd1 hI3 hf2 hI4
  refine then_normal ?_
  refine code_seq ?_
  refine code_seq ?_
  refine seq_start (l := [0, 1]) rfl ?_
  refine seq_one (op_val (v := .agg (arr .u8 m)) hf3 rfl rfl rfl rfl rfl rfl (r_loadW ag_22 sz_22 rfl (hI5.at 0 rfl) (arr_size hm)) fun ac4 hf4 => ?_)
  refine seq_one (op_val (v := .int .i64 0) hf4 rfl rfl rfl rfl rfl rfl (r_move rfl) fun ac5 hf5 => ?_)
  refine seq_end ?_
  clear ac3 hf3 ac4 hf4
  refine then_normal ?_
  refine wp_block ?_
  have hI6 : Inv w [(b1, arr .u8 (turnL m a b 0), 22), (b2, #[.int .u8 0, .int .u8 0, .int .u8 0, .int .u8 0, .int .u8 0, .int .u8 0, .int .u8 0, .int .u8 0, .int .u8 0, .int .u8 0, .int .u8 0, .int .u8 0, .int .u8 0, .int .u8 0, .int .u8 0, .int .u8 0], 22)] wd2 := by rw [turnL_zero hm]; exact hI5
  refine code_loop (α := Nat) (fun (i : Nat) => [(0, .agg (arr .u8 m)), (1, .int .u8 a), (2, .int .u8 b), (3, .pointer (some ⟨b1, 0, none⟩)), (6, .pointer (some ⟨b2, 0, none⟩)), (9, .agg (arr .u8 m)), (10, .int .i64 (i : Int))]) (fun (i : Nat) => fun wL => Inv w [(b1, arr .u8 (turnL m a b i), 22), (b2, #[.int .u8 0, .int .u8 0, .int .u8 0, .int .u8 0, .int .u8 0, .int .u8 0, .int .u8 0, .int .u8 0, .int .u8 0, .int .u8 0, .int .u8 0, .int .u8 0, .int .u8 0, .int .u8 0, .int .u8 0, .int .u8 0], 22)] wL ∧ (i ≤ 16)) (fun (i : Nat) => 16 - i) 0 (hf5.cons 0 rfl (hf5.cons 1 rfl (hf5.cons 2 rfl (hf5.cons 3 rfl (hf5.cons 6 rfl (hf5.cons 9 rfl (hf5.cons 10 rfl hf5.nil))))))) ⟨hI6, Nat.zero_le _⟩ ?_
  intro i ac6 wd3 hf6 hL1
  obtain ⟨hI7, hx1⟩ := hL1
  clear hI5 ac5 wd2 hf5 hI6
  refine code_seq ?_
  refine seq_start (l := [0]) rfl ?_
  refine seq_one (op_val (v := .bool (decide ((i : Int) < 16))) hf6 rfl rfl rfl rfl rfl rfl (r_lss rfl rfl) fun ac7 hf7 => ?_)
  refine seq_end ?_
  clear ac6 hf6
  refine then_normal ?_
  refine code_seq ?_
  refine code_if hf7 rfl (fun c11_1 => ?_) (fun c11_1 => ?_)
  · have hf8 := hf7.know 11 (u := .bool true) rfl (congrArg Value.bool c11_1)
    refine wp_skip ?_
    refine then_normal ?_
    refine code_seq ?_
    refine wp_block ?_
    refine code_seq ?_
    refine seq_start (l := [0, 1, 2, 3]) rfl ?_
    refine seq_one (op_val (v := .int .i64 (i : Int)) hf8 rfl rfl rfl rfl rfl rfl (r_move rfl) fun ac8 hf9 => ?_)
    refine seq_one (op_val (v := .int .u8 (m.getD i 0)) hf9 rfl rfl rfl rfl rfl rfl (r_index (i := i) ar_22 ag_5 rfl rfl rfl (by have := of_decide_eq_true c11_1; omega) (arr_get1 (by rw [hm]; exact (by have := of_decide_eq_true c11_1; omega)))) fun ac9 hf10 => ?_)
    refine seq_one (op_val (v := .int .i64 (i : Int)) hf10 rfl rfl rfl rfl rfl rfl (r_assign rfl) fun ac10 hf11 => ?_)
    refine seq_one (op_val (v := .int .u8 (m.getD i 0)) hf11 rfl rfl rfl rfl rfl rfl (r_assign rfl) fun ac11 hf12 => ?_)
    refine seq_end ?_
    clear hf7 ac7 hf8 ac8 hf9 ac9 hf10 ac10 hf11
    refine then_normal ?_
    refine code_seq ?_
    refine seq_start (l := [0]) rfl ?_
    refine seq_one (op_val (v := .int .u8 (m.getD i 0)) hf12 rfl rfl rfl rfl rfl rfl (r_move rfl) fun ac12 hf13 => ?_)
    refine seq_end ?_
    clear ac11 hf12
    refine then_normal ?_
    refine wp_block ?_
    refine code_seq ?_
    refine seq_start (l := [0, 1, 2]) rfl ?_
    refine seq_one (op_val (v := .int .u8 a) hf13 rfl rfl rfl rfl rfl rfl (r_move rfl) fun ac13 hf14 => ?_)
    refine seq_one (op_val (v := .bool ((m.getD i 0) == a)) hf14 rfl rfl rfl rfl rfl rfl (r_eql rfl rfl) fun ac14 hf15 => ?_)
    refine seq_one (op_val (v := .bool ((m.getD i 0) == a)) hf15 rfl rfl rfl rfl rfl rfl (r_assign rfl) fun ac15 hf16 => ?_)
    refine seq_end ?_
    clear ac12 hf13 ac13 hf14 ac14 hf15
    refine then_normal ?_
    refine code_if hf16 rfl (fun c15_2 => ?_) (fun c15_2 => ?_)
    · have hf17 := hf16.know 15 (u := .bool true) rfl (congrArg Value.bool c15_2)
      refine seq_start (l := [0, 1, 2, 3]) rfl ?_
      refine seq_one (op_val (v := .int .i64 (i : Int)) hf17 rfl rfl rfl rfl rfl rfl (r_move rfl) fun ac16 hf18 => ?_)
      refine seq_one (op_val (v := .int .u8 b) hf18 rfl rfl rfl rfl rfl rfl (r_move rfl) fun ac17 hf19 => ?_)
      refine seq_one (op_val (v := .pointer (some ⟨b1, i, none⟩)) hf19 rfl rfl rfl rfl rfl rfl (r_indexAddr (i := i) ar_22 rfl rfl rfl (by have := of_decide_eq_true c11_1; omega) (by rw [Nat.mul_one, Nat.zero_add])) fun ac18 hf20 => ?_)
      refine seq_one (op_store (cs' := arr .u8 ((turnL m a b i).set i b)) 0 hf20 rfl rfl rfl rfl rfl sz_5 hI7 rfl (by rw [arr_size turnL_len]; exact (by have := of_decide_eq_true c11_1; omega)) arr_set fun wd4 hI8 => ?_)
      rw [turnL_set (by have := of_decide_eq_true c11_1; omega) (by rw [beq_iff_eq] at c15_2; unfold sw; rw [if_pos c15_2])] at hI8
      refine seq_end ?_
      clear hf16 ac15 hf17 ac16 hf18 ac17 hf19 wd3 hI7
      refine block_normal ?_
      refine block_normal ?_
      refine then_normal ?_
      refine seq_start (l := [0, 1]) rfl ?_
      refine seq_one (op_val (v := .int .i64 ((i + 1 : Nat) : Int)) hf20 rfl rfl rfl rfl rfl rfl (r_add (c := ((i + 1 : Nat) : Int)) rfl rfl (wrap_i64 (by omega) (by omega))) fun ac19 hf21 => ?_)
      refine seq_one (op_val (v := .int .i64 ((i + 1 : Nat) : Int)) hf21 rfl rfl rfl rfl rfl rfl (r_move rfl) fun ac20 hf22 => ?_)
      refine seq_end ?_
      clear ac18 hf20 ac19 hf21
      refine then_normal ?_
      exact ⟨i + 1, (hf22.cons 0 rfl (hf22.cons 1 rfl (hf22.cons 2 rfl (hf22.cons 3 rfl (hf22.cons 6 rfl (hf22.cons 9 rfl (hf22.cons 10 rfl hf22.nil))))))), ⟨hI8, (by have := of_decide_eq_true c11_1; omega)⟩, (by have := of_decide_eq_true c11_1; omega)⟩
    · have hf23 := hf16.know 15 (u := .bool false) rfl (congrArg Value.bool c15_2)
      refine code_seq ?_
      refine seq_start (l := [0, 1, 2]) rfl ?_
      refine seq_one (op_val (v := .int .u8 b) hf23 rfl rfl rfl rfl rfl rfl (r_move rfl) fun ac21 hf24 => ?_)
      refine seq_one (op_val (v := .bool ((m.getD i 0) == b)) hf24 rfl rfl rfl rfl rfl rfl (r_eql rfl rfl) fun ac22 hf25 => ?_)
      refine seq_one (op_val (v := .bool ((m.getD i 0) == b)) hf25 rfl rfl rfl rfl rfl rfl (r_assign rfl) fun ac23 hf26 => ?_)
      refine seq_end ?_
      clear hf16 ac15 hf23 ac21 hf24 ac22 hf25
      refine then_normal ?_
      refine code_if hf26 rfl (fun c21_3 => ?_) (fun c21_3 => ?_)
      · have hf27 := hf26.know 21 (u := .bool true) rfl (congrArg Value.bool c21_3)
        refine seq_start (l := [0, 1, 2, 3]) rfl ?_
        refine seq_one (op_val (v := .int .i64 (i : Int)) hf27 rfl rfl rfl rfl rfl rfl (r_move rfl) fun ac24 hf28 => ?_)
        refine seq_one (op_val (v := .int .u8 a) hf28 rfl rfl rfl rfl rfl rfl (r_move rfl) fun ac25 hf29 => ?_)
        refine seq_one (op_val (v := .pointer (some ⟨b1, i, none⟩)) hf29 rfl rfl rfl rfl rfl rfl (r_indexAddr (i := i) ar_22 rfl rfl rfl (by have := of_decide_eq_true c11_1; omega) (by rw [Nat.mul_one, Nat.zero_add])) fun ac26 hf30 => ?_)
        refine seq_one (op_store (cs' := arr .u8 ((turnL m a b i).set i a)) 0 hf30 rfl rfl rfl rfl rfl sz_5 hI7 rfl (by rw [arr_size turnL_len]; exact (by have := of_decide_eq_true c11_1; omega)) arr_set fun wd5 hI9 => ?_)
        rw [turnL_set (by have := of_decide_eq_true c11_1; omega) (by have h1 := beq_eq_false_iff_ne.1 c15_2; have h2 := beq_iff_eq.1 c21_3; unfold sw; rw [if_neg h1, if_pos h2])] at hI9
        refine seq_end ?_
        clear hf26 ac23 hf27 ac24 hf28 ac25 hf29 wd3 hI7
        refine block_normal ?_
        refine block_normal ?_
        refine then_normal ?_
        refine seq_start (l := [0, 1]) rfl ?_
        refine seq_one (op_val (v := .int .i64 ((i + 1 : Nat) : Int)) hf30 rfl rfl rfl rfl rfl rfl (r_add (c := ((i + 1 : Nat) : Int)) rfl rfl (wrap_i64 (by omega) (by omega))) fun ac27 hf31 => ?_)
        refine seq_one (op_val (v := .int .i64 ((i + 1 : Nat) : Int)) hf31 rfl rfl rfl rfl rfl rfl (r_move rfl) fun ac28 hf32 => ?_)
        refine seq_end ?_
        clear ac26 hf30 ac27 hf31
        refine then_normal ?_
        exact ⟨i + 1, (hf32.cons 0 rfl (hf32.cons 1 rfl (hf32.cons 2 rfl (hf32.cons 3 rfl (hf32.cons 6 rfl (hf32.cons 9 rfl (hf32.cons 10 rfl hf32.nil))))))), ⟨hI9, (by have := of_decide_eq_true c11_1; omega)⟩, (by have := of_decide_eq_true c11_1; omega)⟩
      · have hf33 := hf26.know 21 (u := .bool false) rfl (congrArg Value.bool c21_3)
        refine wp_skip ?_
        refine block_normal ?_
        refine block_normal ?_
        refine then_normal ?_
        refine seq_start (l := [0, 1]) rfl ?_
        refine seq_one (op_val (v := .int .i64 ((i + 1 : Nat) : Int)) hf33 rfl rfl rfl rfl rfl rfl (r_add (c := ((i + 1 : Nat) : Int)) rfl rfl (wrap_i64 (by omega) (by omega))) fun ac29 hf34 => ?_)
        refine seq_one (op_val (v := .int .i64 ((i + 1 : Nat) : Int)) hf34 rfl rfl rfl rfl rfl rfl (r_move rfl) fun ac30 hf35 => ?_)
        refine seq_end ?_
        clear hf26 ac23 hf33 ac29 hf34
        refine then_normal ?_
        have hI10 : Inv w [(b1, arr .u8 (turnL m a b (i + 1)), 22), (b2, #[.int .u8 0, .int .u8 0, .int .u8 0, .int .u8 0, .int .u8 0, .int .u8 0, .int .u8 0, .int .u8 0, .int .u8 0, .int .u8 0, .int .u8 0, .int .u8 0, .int .u8 0, .int .u8 0, .int .u8 0, .int .u8 0], 22)] wd3 := by rw [← turnL_same (by have := of_decide_eq_true c11_1; omega) (by unfold sw; rw [if_neg (beq_eq_false_iff_ne.1 c15_2), if_neg (beq_eq_false_iff_ne.1 c21_3)])]; exact hI7
        exact ⟨i + 1, (hf35.cons 0 rfl (hf35.cons 1 rfl (hf35.cons 2 rfl (hf35.cons 3 rfl (hf35.cons 6 rfl (hf35.cons 9 rfl (hf35.cons 10 rfl hf35.nil))))))), ⟨hI10, (by have := of_decide_eq_true c11_1; omega)⟩, (by have := of_decide_eq_true c11_1; omega)⟩
  · have hf36 := hf7.know 11 (u := .bool false) rfl (congrArg Value.bool c11_1)
    refine wp_exit ?_
    refine then_exit ?_
    refine then_exit ?_
    refine block_here ?_
    refine then_normal ?_
    refine code_seq ?_
    refine seq_start (l := [0, 1]) rfl ?_
    refine seq_one (op_val (v := .agg (arr .u8 (turnL m a b i))) hf36 rfl rfl rfl rfl rfl rfl (r_loadW ag_22 sz_22 rfl (hI7.at 0 rfl) (arr_size turnL_len)) fun ac31 hf37 => ?_)
    refine seq_one (op_storeW (cells := arr .u8 (turnL m a b i)) 1 hf37 rfl rfl rfl rfl rfl sz_22 (arr_size turnL_len) arr_one hI7 rfl rfl fun wd6 hI11 => ?_)
    have hI12 : Inv w [(b1, arr .u8 (turnL m a b i), 22), (b2, arr .u8 (turnL m a b i), 22)] wd6 := hI11
    refine seq_end ?_
    clear hf7 ac7 hf36 wd3 hI7 hI11
    refine then_normal ?_
    refine wp_ret ?_
    have e16 : i = 16 := by have := of_decide_eq_false c11_1; omega
    subst e16
    refine postC rfl hf37 rfl ag_22 sz_22 (hI12.at 1 rfl) (arr_size turnL_len) ⟨?_, hI12.done (fresh_keys (ks := [b1, b2]) rfl (fk_cons hb1 (fk_cons hb2 fk_nil)))⟩
    rfl
set_option maxHeartbeats 8000000 in
theorem turnR_pur (m : List Int) (hm : m.length = 16) (hk : InK .u8 m) (a b : Int) : Pur Tryd.prog 22 [.agg (arr .u8 m), .int .u8 a, .int .u8 b] (.agg (arr .u8 (turnF m a b))) := by
  intro w
  have hI1 := Inv.start w
  refine enter (n := 35) Tryd.func22 rfl rfl rfl ?_
  intro ac1 hf1
  refine code_seq ?_
  refine seq_start (l := [0, 1]) rfl ?_
  refine seq_one (op_box hf1 rfl rfl rfl rfl hI1 fun ac2 b1 wd1 hb1 hI2 hf2 => ?_)
  have hI3 : Inv w [(b1, arr .u8 m, 22)] wd1 := hI2
  refine seq_one (op_alloc hf2 rfl rfl rfl ze_22 hI3 fun ac3 b2 wd2 hb2 hI4 hf3 => ?_)
  have hI5 : Inv w [(b1, arr .u8 m, 22), (b2, #[.int .u8 0, .int .u8 0, .int .u8 0, .int .u8 0, .int .u8 0, .int .u8 0, .int .u8 0, .int .u8 0, .int .u8 0, .int .u8 0, .int .u8 0, .int .u8 0, .int .u8 0, .int .u8 0, .int .u8 0, .int .u8 0], 22)] wd2 := hI4
  refine seq_end ?_
  clear ac1 hI1 hf1 hI2 ac2 wd1 hI3 hf2 hI4
  refine then_normal ?_
  refine code_seq ?_
  refine seq_start (l := [0]) rfl ?_
  refine seq_one (op_alloc hf3 rfl rfl rfl ze_22 hI5 fun ac4 b3 wd3 hb3 hI6 hf4 => ?_)
  have hI7 : Inv w [(b1, arr .u8 m, 22), (b2, #[.int .u8 0, .int .u8 0, .int .u8 0, .int .u8 0, .int .u8 0, .int .u8 0, .int .u8 0, .int .u8 0, .int .u8 0, .int .u8 0, .int .u8 0, .int .u8 0, .int .u8 0, .int .u8 0, .int .u8 0, .int .u8 0], 22), (b3, #[.int .u8 0, .int .u8 0, .int .u8 0, .int .u8 0, .int .u8 0, .int .u8 0, .int .u8 0, .int .u8 0, .int .u8 0, .int .u8 0, .int .u8 0, .int .u8 0, .int .u8 0, .int .u8 0, .int .u8 0, .int .u8 0], 22)] wd3 := hI6
  refine seq_end ?_
  clear ac3 wd2 hI5 hf3 hI6
  refine then_normal ?_
  refine code_seq ?_
  refine code_seq ?_
  refine seq_start (l := [0]) rfl ?_
  refine seq_one (op_val (v := .int .i64 0) hf4 rfl rfl rfl rfl rfl rfl (r_assign rfl) fun ac5 hf5 => ?_)
  refine seq_end ?_
  clear ac4 hf4
  refine then_normal ?_
  refine wp_block ?_
  have hI8 : Inv w [(b1, arr .u8 m, 22), (b2, #[.int .u8 0, .int .u8 0, .int .u8 0, .int .u8 0, .int .u8 0, .int .u8 0, .int .u8 0, .int .u8 0, .int .u8 0, .int .u8 0, .int .u8 0, .int .u8 0, .int .u8 0, .int .u8 0, .int .u8 0, .int .u8 0], 22), (b3, arr .u8 (outL m a b 0), 22)] wd3 := hI7
  refine code_loop (α := Nat) (fun (i : Nat) => [(0, .agg (arr .u8 m)), (1, .int .u8 a), (2, .int .u8 b), (3, .pointer (some ⟨b1, 0, none⟩)), (6, .pointer (some ⟨b2, 0, none⟩)), (7, .pointer (some ⟨b3, 0, none⟩)), (8, .int .i64 (i : Int))]) (fun (i : Nat) => fun wL => Inv w [(b1, arr .u8 m, 22), (b2, #[.int .u8 0, .int .u8 0, .int .u8 0, .int .u8 0, .int .u8 0, .int .u8 0, .int .u8 0, .int .u8 0, .int .u8 0, .int .u8 0, .int .u8 0, .int .u8 0, .int .u8 0, .int .u8 0, .int .u8 0, .int .u8 0], 22), (b3, arr .u8 (outL m a b i), 22)] wL ∧ (i ≤ 16)) (fun (i : Nat) => 16 - i) 0 (hf5.cons 0 rfl (hf5.cons 1 rfl (hf5.cons 2 rfl (hf5.cons 3 rfl (hf5.cons 6 rfl (hf5.cons 7 rfl (hf5.cons 8 rfl hf5.nil))))))) ⟨hI8, Nat.zero_le _⟩ ?_
  intro i ac6 wd4 hf6 hL1
  obtain ⟨hI9, hx1⟩ := hL1
  clear hI7 ac5 wd3 hf5 hI8
  refine code_seq ?_
  refine code_seq ?_
  refine seq_start (l := [0, 1]) rfl ?_
  refine seq_one (op_val (v := .int .i64 (i : Int)) hf6 rfl rfl rfl rfl rfl rfl (r_move rfl) fun ac7 hf7 => ?_)
  refine seq_one (op_val (v := .bool (decide ((i : Int) < 16))) hf7 rfl rfl rfl rfl rfl rfl (r_lss rfl rfl) fun ac8 hf8 => ?_)
  refine seq_end ?_
  clear ac6 hf6 ac7 hf7
  refine then_normal ?_
  refine code_if hf8 rfl (fun c10_1 => ?_) (fun c10_1 => ?_)
  · have hf9 := hf8.know 10 (u := .bool true) rfl (congrArg Value.bool c10_1)
    refine wp_skip ?_
    refine then_normal ?_
    refine code_seq ?_
    refine wp_block ?_
    refine code_seq ?_
    refine seq_start (l := [0, 1, 2, 3, 4, 5]) rfl ?_
    refine seq_one (op_val (v := .int .i64 (i : Int)) hf9 rfl rfl rfl rfl rfl rfl (r_move rfl) fun ac9 hf10 => ?_)
    refine seq_one (op_val (v := .int .i64 (i : Int)) hf10 rfl rfl rfl rfl rfl rfl (r_move rfl) fun ac10 hf11 => ?_)
    refine seq_one (op_val (v := .pointer (some ⟨b1, i, none⟩)) hf11 rfl rfl rfl rfl rfl rfl (r_indexAddr (i := i) ar_22 rfl rfl rfl (by have := of_decide_eq_true c10_1; omega) (by rw [Nat.mul_one, Nat.zero_add])) fun ac11 hf12 => ?_)
    refine seq_one (op_val (v := .int .u8 (m.getD i 0)) hf12 rfl rfl rfl rfl rfl rfl (r_load ag_5 rfl (hI9.at 0 rfl) (arr_get (by rw [hm]; exact (by have := of_decide_eq_true c10_1; omega)))) fun ac12 hf13 => ?_)
    refine seq_one (op_val (v := .pointer (some ⟨b3, i, none⟩)) hf13 rfl rfl rfl rfl rfl rfl (r_indexAddr (i := i) ar_22 rfl rfl rfl (by have := of_decide_eq_true c10_1; omega) (by rw [Nat.mul_one, Nat.zero_add])) fun ac13 hf14 => ?_)
    refine seq_one (op_store (cs' := arr .u8 ((outL m a b i).set i (m.getD i 0))) 2 hf14 rfl rfl rfl rfl rfl sz_5 hI9 rfl (by rw [arr_size outL_len]; exact (by have := of_decide_eq_true c10_1; omega)) arr_set fun wd5 hI10 => ?_)
    have hI11 : Inv w [(b1, arr .u8 m, 22), (b2, #[.int .u8 0, .int .u8 0, .int .u8 0, .int .u8 0, .int .u8 0, .int .u8 0, .int .u8 0, .int .u8 0, .int .u8 0, .int .u8 0, .int .u8 0, .int .u8 0, .int .u8 0, .int .u8 0, .int .u8 0, .int .u8 0], 22), (b3, arr .u8 ((outL m a b i).set i (m.getD i 0)), 22)] wd5 := hI10
    refine seq_end ?_
    clear hf8 ac8 hf9 ac9 hf10 ac10 hf11 ac11 hf12 ac12 hf13 wd4 hI9 hI10
    refine then_normal ?_
    refine code_seq ?_
    refine seq_start (l := [0, 1, 2, 3, 4]) rfl ?_
    refine seq_one (op_val (v := .int .i64 (i : Int)) hf14 rfl rfl rfl rfl rfl rfl (r_move rfl) fun ac14 hf15 => ?_)
    refine seq_one (op_val (v := .pointer (some ⟨b1, i, none⟩)) hf15 rfl rfl rfl rfl rfl rfl (r_indexAddr (i := i) ar_22 rfl rfl rfl (by have := of_decide_eq_true c10_1; omega) (by rw [Nat.mul_one, Nat.zero_add])) fun ac15 hf16 => ?_)
    refine seq_one (op_val (v := .int .u8 (m.getD i 0)) hf16 rfl rfl rfl rfl rfl rfl (r_load ag_5 rfl (hI11.at 0 rfl) (arr_get (by rw [hm]; exact (by have := of_decide_eq_true c10_1; omega)))) fun ac16 hf17 => ?_)
    refine seq_one (op_val (v := .int .u8 a) hf17 rfl rfl rfl rfl rfl rfl (r_move rfl) fun ac17 hf18 => ?_)
    refine seq_one (op_val (v := .bool ((m.getD i 0) == a)) hf18 rfl rfl rfl rfl rfl rfl (r_eql rfl rfl) fun ac18 hf19 => ?_)
    refine seq_end ?_
    clear ac13 hf14 ac14 hf15 ac15 hf16 ac16 hf17 ac17 hf18
    refine then_normal ?_
    refine code_if hf19 rfl (fun c22_2 => ?_) (fun c22_2 => ?_)
    · have hf20 := hf19.know 22 (u := .bool true) rfl (congrArg Value.bool c22_2)
      refine seq_start (l := [0, 1, 2, 3]) rfl ?_
      refine seq_one (op_val (v := .int .i64 (i : Int)) hf20 rfl rfl rfl rfl rfl rfl (r_move rfl) fun ac19 hf21 => ?_)
      refine seq_one (op_val (v := .int .u8 b) hf21 rfl rfl rfl rfl rfl rfl (r_move rfl) fun ac20 hf22 => ?_)
      refine seq_one (op_val (v := .pointer (some ⟨b3, i, none⟩)) hf22 rfl rfl rfl rfl rfl rfl (r_indexAddr (i := i) ar_22 rfl rfl rfl (by have := of_decide_eq_true c10_1; omega) (by rw [Nat.mul_one, Nat.zero_add])) fun ac21 hf23 => ?_)
      refine seq_one (op_store (cs' := arr .u8 (((outL m a b i).set i (m.getD i 0)).set i b)) 2 hf23 rfl rfl rfl rfl rfl sz_5 hI11 rfl (by rw [arr_size (List.length_set.trans outL_len)]; exact (by have := of_decide_eq_true c10_1; omega)) arr_set fun wd6 hI12 => ?_)
      have hI13 : Inv w [(b1, arr .u8 m, 22), (b2, #[.int .u8 0, .int .u8 0, .int .u8 0, .int .u8 0, .int .u8 0, .int .u8 0, .int .u8 0, .int .u8 0, .int .u8 0, .int .u8 0, .int .u8 0, .int .u8 0, .int .u8 0, .int .u8 0, .int .u8 0, .int .u8 0], 22), (b3, arr .u8 (((outL m a b i).set i (m.getD i 0)).set i b), 22)] wd6 := hI12
      refine seq_end ?_
      clear hf19 ac18 hf20 ac19 hf21 ac20 hf22 wd5 hI11 hI12
      refine block_normal ?_
      refine then_normal ?_
      refine seq_start (l := [0, 1, 2]) rfl ?_
      refine seq_one (op_val (v := .int .i64 (i : Int)) hf23 rfl rfl rfl rfl rfl rfl (r_move rfl) fun ac22 hf24 => ?_)
      refine seq_one (op_val (v := .int .i64 ((i + 1 : Nat) : Int)) hf24 rfl rfl rfl rfl rfl rfl (r_add (c := ((i + 1 : Nat) : Int)) rfl rfl (wrap_i64 (by omega) (by omega))) fun ac23 hf25 => ?_)
      refine seq_one (op_val (v := .int .i64 ((i + 1 : Nat) : Int)) hf25 rfl rfl rfl rfl rfl rfl (r_assign rfl) fun ac24 hf26 => ?_)
      refine seq_end ?_
      clear ac21 hf23 ac22 hf24 ac23 hf25
      refine then_normal ?_
      rw [set_set_same, outL_set (by have := of_decide_eq_true c10_1; omega) (by have h1 := beq_iff_eq.1 c22_2; unfold sw; rw [if_pos h1])] at hI13
      exact ⟨i + 1, (hf26.cons 0 rfl (hf26.cons 1 rfl (hf26.cons 2 rfl (hf26.cons 3 rfl (hf26.cons 6 rfl (hf26.cons 7 rfl (hf26.cons 8 rfl hf26.nil))))))), ⟨hI13, (by have := of_decide_eq_true c10_1; omega)⟩, (by have := of_decide_eq_true c10_1; omega)⟩
    · have hf27 := hf19.know 22 (u := .bool false) rfl (congrArg Value.bool c22_2)
      refine code_seq ?_
      refine seq_start (l := [0, 1, 2, 3, 4]) rfl ?_
      refine seq_one (op_val (v := .int .i64 (i : Int)) hf27 rfl rfl rfl rfl rfl rfl (r_move rfl) fun ac25 hf28 => ?_)
      refine seq_one (op_val (v := .pointer (some ⟨b1, i, none⟩)) hf28 rfl rfl rfl rfl rfl rfl (r_indexAddr (i := i) ar_22 rfl rfl rfl (by have := of_decide_eq_true c10_1; omega) (by rw [Nat.mul_one, Nat.zero_add])) fun ac26 hf29 => ?_)
      refine seq_one (op_val (v := .int .u8 (m.getD i 0)) hf29 rfl rfl rfl rfl rfl rfl (r_load ag_5 rfl (hI11.at 0 rfl) (arr_get (by rw [hm]; exact (by have := of_decide_eq_true c10_1; omega)))) fun ac27 hf30 => ?_)
      refine seq_one (op_val (v := .int .u8 b) hf30 rfl rfl rfl rfl rfl rfl (r_move rfl) fun ac28 hf31 => ?_)
      refine seq_one (op_val (v := .bool ((m.getD i 0) == b)) hf31 rfl rfl rfl rfl rfl rfl (r_eql rfl rfl) fun ac29 hf32 => ?_)
      refine seq_end ?_
      clear hf19 ac18 hf27 ac25 hf28 ac26 hf29 ac27 hf30 ac28 hf31
      refine then_normal ?_
      refine code_if hf32 rfl (fun c30_3 => ?_) (fun c30_3 => ?_)
      · have hf33 := hf32.know 30 (u := .bool true) rfl (congrArg Value.bool c30_3)
        refine seq_start (l := [0, 1, 2, 3]) rfl ?_
        refine seq_one (op_val (v := .int .i64 (i : Int)) hf33 rfl rfl rfl rfl rfl rfl (r_move rfl) fun ac30 hf34 => ?_)
        refine seq_one (op_val (v := .int .u8 a) hf34 rfl rfl rfl rfl rfl rfl (r_move rfl) fun ac31 hf35 => ?_)
        refine seq_one (op_val (v := .pointer (some ⟨b3, i, none⟩)) hf35 rfl rfl rfl rfl rfl rfl (r_indexAddr (i := i) ar_22 rfl rfl rfl (by have := of_decide_eq_true c10_1; omega) (by rw [Nat.mul_one, Nat.zero_add])) fun ac32 hf36 => ?_)
        refine seq_one (op_store (cs' := arr .u8 (((outL m a b i).set i (m.getD i 0)).set i a)) 2 hf36 rfl rfl rfl rfl rfl sz_5 hI11 rfl (by rw [arr_size (List.length_set.trans outL_len)]; exact (by have := of_decide_eq_true c10_1; omega)) arr_set fun wd7 hI14 => ?_)
        have hI15 : Inv w [(b1, arr .u8 m, 22), (b2, #[.int .u8 0, .int .u8 0, .int .u8 0, .int .u8 0, .int .u8 0, .int .u8 0, .int .u8 0, .int .u8 0, .int .u8 0, .int .u8 0, .int .u8 0, .int .u8 0, .int .u8 0, .int .u8 0, .int .u8 0, .int .u8 0], 22), (b3, arr .u8 (((outL m a b i).set i (m.getD i 0)).set i a), 22)] wd7 := hI14
        refine seq_end ?_
        clear hf32 ac29 hf33 ac30 hf34 ac31 hf35 wd5 hI11 hI14
        refine block_normal ?_
        refine then_normal ?_
        refine seq_start (l := [0, 1, 2]) rfl ?_
        refine seq_one (op_val (v := .int .i64 (i : Int)) hf36 rfl rfl rfl rfl rfl rfl (r_move rfl) fun ac33 hf37 => ?_)
        refine seq_one (op_val (v := .int .i64 ((i + 1 : Nat) : Int)) hf37 rfl rfl rfl rfl rfl rfl (r_add (c := ((i + 1 : Nat) : Int)) rfl rfl (wrap_i64 (by omega) (by omega))) fun ac34 hf38 => ?_)
        refine seq_one (op_val (v := .int .i64 ((i + 1 : Nat) : Int)) hf38 rfl rfl rfl rfl rfl rfl (r_assign rfl) fun ac35 hf39 => ?_)
        refine seq_end ?_
        clear ac32 hf36 ac33 hf37 ac34 hf38
        refine then_normal ?_
        rw [set_set_same, outL_set (by have := of_decide_eq_true c10_1; omega) (by have h1 := beq_eq_false_iff_ne.1 c22_2; have h2 := beq_iff_eq.1 c30_3; unfold sw; rw [if_neg h1, if_pos h2])] at hI15
        exact ⟨i + 1, (hf39.cons 0 rfl (hf39.cons 1 rfl (hf39.cons 2 rfl (hf39.cons 3 rfl (hf39.cons 6 rfl (hf39.cons 7 rfl (hf39.cons 8 rfl hf39.nil))))))), ⟨hI15, (by have := of_decide_eq_true c10_1; omega)⟩, (by have := of_decide_eq_true c10_1; omega)⟩
      · have hf40 := hf32.know 30 (u := .bool false) rfl (congrArg Value.bool c30_3)
        refine wp_skip ?_
        refine block_normal ?_
        refine then_normal ?_
        refine seq_start (l := [0, 1, 2]) rfl ?_
        refine seq_one (op_val (v := .int .i64 (i : Int)) hf40 rfl rfl rfl rfl rfl rfl (r_move rfl) fun ac36 hf41 => ?_)
        refine seq_one (op_val (v := .int .i64 ((i + 1 : Nat) : Int)) hf41 rfl rfl rfl rfl rfl rfl (r_add (c := ((i + 1 : Nat) : Int)) rfl rfl (wrap_i64 (by omega) (by omega))) fun ac37 hf42 => ?_)
        refine seq_one (op_val (v := .int .i64 ((i + 1 : Nat) : Int)) hf42 rfl rfl rfl rfl rfl rfl (r_assign rfl) fun ac38 hf43 => ?_)
        refine seq_end ?_
        clear hf32 ac29 hf40 ac36 hf41 ac37 hf42
        refine then_normal ?_
        rw [outL_set (by have := of_decide_eq_true c10_1; omega) (by unfold sw; rw [if_neg (beq_eq_false_iff_ne.1 c22_2), if_neg (beq_eq_false_iff_ne.1 c30_3)])] at hI11
        exact ⟨i + 1, (hf43.cons 0 rfl (hf43.cons 1 rfl (hf43.cons 2 rfl (hf43.cons 3 rfl (hf43.cons 6 rfl (hf43.cons 7 rfl (hf43.cons 8 rfl hf43.nil))))))), ⟨hI11, (by have := of_decide_eq_true c10_1; omega)⟩, (by have := of_decide_eq_true c10_1; omega)⟩
  · have hf44 := hf8.know 10 (u := .bool false) rfl (congrArg Value.bool c10_1)
    refine wp_exit ?_
    refine then_exit ?_
    refine then_exit ?_
    refine block_here ?_
    refine then_normal ?_
    refine code_seq ?_
    refine seq_start (l := [0, 1]) rfl ?_
    refine seq_one (op_val (v := .agg (arr .u8 (outL m a b i))) hf44 rfl rfl rfl rfl rfl rfl (r_loadW ag_22 sz_22 rfl (hI9.at 2 rfl) (arr_size outL_len)) fun ac39 hf45 => ?_)
    refine seq_one (op_storeW (cells := arr .u8 (outL m a b i)) 1 hf45 rfl rfl rfl rfl rfl sz_22 (arr_size outL_len) arr_one hI9 rfl rfl fun wd8 hI16 => ?_)
    have hI17 : Inv w [(b1, arr .u8 m, 22), (b2, arr .u8 (outL m a b i), 22), (b3, arr .u8 (outL m a b i), 22)] wd8 := hI16
    refine seq_end ?_
    clear hf8 ac8 hf44 wd4 hI9 hI16
    refine then_normal ?_
    refine wp_ret ?_
    have e16 : i = 16 := by have := of_decide_eq_false c10_1; omega
    subst e16
    refine postC rfl hf45 rfl ag_22 sz_22 (hI17.at 1 rfl) (arr_size outL_len) ⟨?_, hI17.done (fresh_keys (ks := [b1, b2, b3]) rfl (fk_cons hb1 (fk_cons hb2 (fk_cons hb3 fk_nil))))⟩
    rw [outL_end]
set_option maxHeartbeats 8000000 in
theorem usual_walk (tt : TypeId) (w : World) : Has [(0, arr .u8 usualL, tt)] w → Calls Tryd.prog 19 [].toArray w fun e w' => e = .returned (.agg (arr .u8 usualL)) ∧ Inv w [] w' := by
  intro h0
  have hI1 := Inv.startS h0 (List.pairwise_singleton _ _)
  refine enter (n := 2) Tryd.func19 rfl rfl rfl ?_
  intro ac1 hf1
  refine code_seq ?_
  refine seq_start (l := [0]) rfl ?_
  refine seq_one (op_alloc hf1 rfl rfl rfl ze_22 hI1 fun ac2 b1 wd1 hb1 hI2 hf2 => ?_)
  have hI3 : Inv w [(0, arr .u8 usualL, tt), (b1, #[.int .u8 0, .int .u8 0, .int .u8 0, .int .u8 0, .int .u8 0, .int .u8 0, .int .u8 0, .int .u8 0, .int .u8 0, .int .u8 0, .int .u8 0, .int .u8 0, .int .u8 0, .int .u8 0, .int .u8 0, .int .u8 0], 22)] wd1 := hI2
  refine seq_end ?_
  clear ac1 hI1 hf1 hI2
  refine then_normal ?_
  refine code_seq ?_
  refine seq_start (l := [0, 1]) rfl ?_
  refine seq_one (op_val (v := .agg (arr .u8 usualL)) hf2 rfl rfl rfl rfl rfl rfl (r_loadW ag_22 sz_22 rfl (hI3.at 0 rfl) (arr_size rfl)) fun ac3 hf3 => ?_)
  refine seq_one (op_storeW (cells := arr .u8 usualL) 1 hf3 rfl rfl rfl rfl rfl sz_22 (arr_size rfl) arr_one hI3 rfl rfl fun wd2 hI4 => ?_)
  have hI5 : Inv w [(0, arr .u8 usualL, tt), (b1, arr .u8 usualL, 22)] wd2 := hI4
  refine seq_end ?_
  clear ac2 hf2 wd1 hI3 hI4
  refine then_normal ?_
  refine wp_ret ?_
  refine postC rfl hf3 rfl ag_22 sz_22 (hI5.at 1 rfl) (arr_size rfl) ⟨rfl, Inv.unread (A := [(0, arr .u8 usualL, tt)]) (Inv.drop (A := [(0, arr .u8 usualL, tt)]) (B := [(b1, arr .u8 usualL, 22)]) hI5 (fresh_keys (ks := [b1]) rfl (fk_cons hb1 fk_nil))) h0⟩
set_option maxHeartbeats 8000000 in
theorem usualR_pur : Pur Tryd.prog 20 [] (.agg (arr .u8 usualL)) := by
  intro w
  have hI1 := Inv.start w
  refine enter (n := 28) Tryd.func20 rfl rfl rfl ?_
  intro ac1 hf1
  refine code_seq ?_
  refine seq_start (l := [0]) rfl ?_
  refine seq_one (op_alloc hf1 rfl rfl rfl ze_22 hI1 fun ac2 b1 wd1 hb1 hI2 hf2 => ?_)
  have hI3 : Inv w [(b1, #[.int .u8 0, .int .u8 0, .int .u8 0, .int .u8 0, .int .u8 0, .int .u8 0, .int .u8 0, .int .u8 0, .int .u8 0, .int .u8 0, .int .u8 0, .int .u8 0, .int .u8 0, .int .u8 0, .int .u8 0, .int .u8 0], 22)] wd1 := hI2
  refine seq_end ?_
  clear ac1 hI1 hf1 hI2
  refine then_normal ?_
  refine code_seq ?_
  refine seq_start (l := [0]) rfl ?_
  refine seq_one (op_alloc hf2 rfl rfl rfl ze_22 hI3 fun ac3 b2 wd2 hb2 hI4 hf3 => ?_)
  have hI5 : Inv w [(b1, #[.int .u8 0, .int .u8 0, .int .u8 0, .int .u8 0, .int .u8 0, .int .u8 0, .int .u8 0, .int .u8 0, .int .u8 0, .int .u8 0, .int .u8 0, .int .u8 0, .int .u8 0, .int .u8 0, .int .u8 0, .int .u8 0], 22), (b2, #[.int .u8 0, .int .u8 0, .int .u8 0, .int .u8 0, .int .u8 0, .int .u8 0, .int .u8 0, .int .u8 0, .int .u8 0, .int .u8 0, .int .u8 0, .int .u8 0, .int .u8 0, .int .u8 0, .int .u8 0, .int .u8 0], 22)] wd2 := hI4
  refine seq_end ?_
  clear ac2 wd1 hI3 hf2 hI4
  refine then_normal ?_
  refine code_seq ?_
  refine code_seq ?_
  refine seq_start (l := [0]) rfl ?_
  refine seq_one (op_val (v := .int .i64 0) hf3 rfl rfl rfl rfl rfl rfl (r_assign rfl) fun ac4 hf4 => ?_)
  refine seq_end ?_
  clear ac3 hf3
  refine then_normal ?_
  refine wp_block ?_
  refine wp_loop_rounds 17 ?_
  refine rounds_go ?_
  refine code_seq ?_
  refine code_seq ?_
  refine seq_start (l := [0, 1]) rfl ?_
  refine seq_one (op_val (v := .int .i64 0) hf4 rfl rfl rfl rfl rfl rfl (r_move rfl) fun ac5 hf5 => ?_)
  refine seq_one (op_val (v := .bool true) hf5 rfl rfl rfl rfl rfl rfl (r_lssC rfl rfl (by decide)) fun ac6 hf6 => ?_)
  refine seq_end ?_
  clear ac4 hf4 ac5 hf5
  refine then_normal ?_
  refine code_if_true hf6 rfl ?_
  refine wp_skip ?_
  refine then_normal ?_
  refine code_seq ?_
  refine wp_block ?_
  refine code_seq ?_
  refine seq_start (l := [0, 1, 2]) rfl ?_
  refine seq_one (op_val (v := .int .i64 0) hf6 rfl rfl rfl rfl rfl rfl (r_move rfl) fun ac7 hf7 => ?_)
  refine seq_one (op_val (v := .pointer (some ⟨b2, 0, none⟩)) hf7 rfl rfl rfl rfl rfl rfl (r_indexAddr (i := 0) ar_22 rfl rfl rfl (by decide) rfl) fun ac8 hf8 => ?_)
  refine seq_one (op_store (cs' := #[.int .u8 1, .int .u8 0, .int .u8 0, .int .u8 0, .int .u8 0, .int .u8 0, .int .u8 0, .int .u8 0, .int .u8 0, .int .u8 0, .int .u8 0, .int .u8 0, .int .u8 0, .int .u8 0, .int .u8 0, .int .u8 0]) 1 hf8 rfl rfl rfl rfl rfl sz_5 hI5 rfl (by decide) (by kernel_rfl) fun wd3 hI6 => ?_)
  have hI7 : Inv w [(b1, #[.int .u8 0, .int .u8 0, .int .u8 0, .int .u8 0, .int .u8 0, .int .u8 0, .int .u8 0, .int .u8 0, .int .u8 0, .int .u8 0, .int .u8 0, .int .u8 0, .int .u8 0, .int .u8 0, .int .u8 0, .int .u8 0], 22), (b2, #[.int .u8 1, .int .u8 0, .int .u8 0, .int .u8 0, .int .u8 0, .int .u8 0, .int .u8 0, .int .u8 0, .int .u8 0, .int .u8 0, .int .u8 0, .int .u8 0, .int .u8 0, .int .u8 0, .int .u8 0, .int .u8 0], 22)] wd3 := hI6
  refine seq_end ?_
  clear ac6 hf6 ac7 hf7 wd2 hI5 hI6
  refine then_normal ?_
  refine code_seq ?_
  refine seq_start (l := [0, 1, 2, 3, 4, 5, 6, 7, 8, 9, 10, 11, 12, 13]) rfl ?_
  refine seq_one (op_val (v := .int .i64 0) hf8 rfl rfl rfl rfl rfl rfl (r_move rfl) fun ac9 hf9 => ?_)
  refine seq_one (op_val (v := .bool false) hf9 rfl rfl rfl rfl rfl rfl (r_eqlC rfl rfl (by decide)) fun ac10 hf10 => ?_)
  refine seq_one (op_val (v := .bool false) hf10 rfl rfl rfl rfl rfl rfl (r_move rfl) fun ac11 hf11 => ?_)
  refine seq_one (op_val (v := .int .i64 0) hf11 rfl rfl rfl rfl rfl rfl (r_move rfl) fun ac12 hf12 => ?_)
  refine seq_one (op_val (v := .bool false) hf12 rfl rfl rfl rfl rfl rfl (r_eqlC rfl rfl (by decide)) fun ac13 hf13 => ?_)
  refine seq_one (op_val (v := .bool false) hf13 rfl rfl rfl rfl rfl rfl (r_pickF rfl rfl) fun ac14 hf14 => ?_)
  refine seq_one (op_val (v := .bool false) hf14 rfl rfl rfl rfl rfl rfl (r_move rfl) fun ac15 hf15 => ?_)
  refine seq_one (op_val (v := .int .i64 0) hf15 rfl rfl rfl rfl rfl rfl (r_move rfl) fun ac16 hf16 => ?_)
  refine seq_one (op_val (v := .bool false) hf16 rfl rfl rfl rfl rfl rfl (r_eqlC rfl rfl (by decide)) fun ac17 hf17 => ?_)
  refine seq_one (op_val (v := .bool false) hf17 rfl rfl rfl rfl rfl rfl (r_pickF rfl rfl) fun ac18 hf18 => ?_)
  refine seq_one (op_val (v := .bool false) hf18 rfl rfl rfl rfl rfl rfl (r_move rfl) fun ac19 hf19 => ?_)
  refine seq_one (op_val (v := .int .i64 0) hf19 rfl rfl rfl rfl rfl rfl (r_move rfl) fun ac20 hf20 => ?_)
  refine seq_one (op_val (v := .bool false) hf20 rfl rfl rfl rfl rfl rfl (r_eqlC rfl rfl (by decide)) fun ac21 hf21 => ?_)
  refine seq_one (op_val (v := .bool false) hf21 rfl rfl rfl rfl rfl rfl (r_pickF rfl rfl) fun ac22 hf22 => ?_)
  refine seq_end ?_
  clear ac8 hf8 ac9 hf9 ac10 hf10 ac11 hf11 ac12 hf12 ac13 hf13 ac14 hf14 ac15 hf15 ac16 hf16 ac17 hf17 ac18 hf18 ac19 hf19 ac20 hf20 ac21 hf21
  refine then_normal ?_
  refine code_if_false hf22 rfl ?_
  refine wp_skip ?_
  refine block_normal ?_
  refine then_normal ?_
  refine seq_start (l := [0, 1, 2]) rfl ?_
  refine seq_one (op_val (v := .int .i64 0) hf22 rfl rfl rfl rfl rfl rfl (r_move rfl) fun ac23 hf23 => ?_)
  refine seq_one (op_val (v := .int .i64 1) hf23 rfl rfl rfl rfl rfl rfl (r_add (c := 1) rfl rfl (by rfl)) fun ac24 hf24 => ?_)
  refine seq_one (op_val (v := .int .i64 1) hf24 rfl rfl rfl rfl rfl rfl (r_assign rfl) fun ac25 hf25 => ?_)
  refine seq_end ?_
  clear ac22 hf22 ac23 hf23 ac24 hf24
  refine then_normal ?_
  refine rounds_go ?_
  refine code_seq ?_
  refine code_seq ?_
  refine seq_start (l := [0, 1]) rfl ?_
  refine seq_one (op_val (v := .int .i64 1) hf25 rfl rfl rfl rfl rfl rfl (r_move rfl) fun ac26 hf26 => ?_)
  refine seq_one (op_val (v := .bool true) hf26 rfl rfl rfl rfl rfl rfl (r_lssC rfl rfl (by decide)) fun ac27 hf27 => ?_)
  refine seq_end ?_
  clear ac25 hf25 ac26 hf26
  refine then_normal ?_
  refine code_if_true hf27 rfl ?_
  refine wp_skip ?_
  refine then_normal ?_
  refine code_seq ?_
  refine wp_block ?_
  refine code_seq ?_
  refine seq_start (l := [0, 1, 2]) rfl ?_
  refine seq_one (op_val (v := .int .i64 1) hf27 rfl rfl rfl rfl rfl rfl (r_move rfl) fun ac28 hf28 => ?_)
  refine seq_one (op_val (v := .pointer (some ⟨b2, 1, none⟩)) hf28 rfl rfl rfl rfl rfl rfl (r_indexAddr (i := 1) ar_22 rfl rfl rfl (by decide) rfl) fun ac29 hf29 => ?_)
  refine seq_one (op_store (cs' := #[.int .u8 1, .int .u8 1, .int .u8 0, .int .u8 0, .int .u8 0, .int .u8 0, .int .u8 0, .int .u8 0, .int .u8 0, .int .u8 0, .int .u8 0, .int .u8 0, .int .u8 0, .int .u8 0, .int .u8 0, .int .u8 0]) 1 hf29 rfl rfl rfl rfl rfl sz_5 hI7 rfl (by decide) (by kernel_rfl) fun wd4 hI8 => ?_)
  have hI9 : Inv w [(b1, #[.int .u8 0, .int .u8 0, .int .u8 0, .int .u8 0, .int .u8 0, .int .u8 0, .int .u8 0, .int .u8 0, .int .u8 0, .int .u8 0, .int .u8 0, .int .u8 0, .int .u8 0, .int .u8 0, .int .u8 0, .int .u8 0], 22), (b2, #[.int .u8 1, .int .u8 1, .int .u8 0, .int .u8 0, .int .u8 0, .int .u8 0, .int .u8 0, .int .u8 0, .int .u8 0, .int .u8 0, .int .u8 0, .int .u8 0, .int .u8 0, .int .u8 0, .int .u8 0, .int .u8 0], 22)] wd4 := hI8
  refine seq_end ?_
  clear ac27 hf27 ac28 hf28 wd3 hI7 hI8
  refine then_normal ?_
  refine code_seq ?_
  refine seq_start (l := [0, 1, 2, 3, 4, 5, 6, 7, 8, 9, 10, 11, 12, 13]) rfl ?_
  refine seq_one (op_val (v := .int .i64 1) hf29 rfl rfl rfl rfl rfl rfl (r_move rfl) fun ac30 hf30 => ?_)
  refine seq_one (op_val (v := .bool true) hf30 rfl rfl rfl rfl rfl rfl (r_eqlC rfl rfl (by decide)) fun ac31 hf31 => ?_)
  refine seq_one (op_val (v := .bool true) hf31 rfl rfl rfl rfl rfl rfl (r_move rfl) fun ac32 hf32 => ?_)
  refine seq_one (op_skip hf32 rfl rfl rfl rfl fun ac33 hf33 => ?_)
  refine seq_one (op_skip hf33 rfl rfl rfl rfl fun ac34 hf34 => ?_)
  refine seq_one (op_val (v := .bool true) hf34 rfl rfl rfl rfl rfl rfl (r_pickT rfl rfl) fun ac35 hf35 => ?_)
  refine seq_one (op_val (v := .bool true) hf35 rfl rfl rfl rfl rfl rfl (r_move rfl) fun ac36 hf36 => ?_)
  refine seq_one (op_skip hf36 rfl rfl rfl rfl fun ac37 hf37 => ?_)
  refine seq_one (op_skip hf37 rfl rfl rfl rfl fun ac38 hf38 => ?_)
  refine seq_one (op_val (v := .bool true) hf38 rfl rfl rfl rfl rfl rfl (r_pickT rfl rfl) fun ac39 hf39 => ?_)
  refine seq_one (op_val (v := .bool true) hf39 rfl rfl rfl rfl rfl rfl (r_move rfl) fun ac40 hf40 => ?_)
  refine seq_one (op_skip hf40 rfl rfl rfl rfl fun ac41 hf41 => ?_)
  refine seq_one (op_skip hf41 rfl rfl rfl rfl fun ac42 hf42 => ?_)
  refine seq_one (op_val (v := .bool true) hf42 rfl rfl rfl rfl rfl rfl (r_pickT rfl rfl) fun ac43 hf43 => ?_)
  refine seq_end ?_
  clear ac29 hf29 ac30 hf30 ac31 hf31 ac32 hf32 ac33 hf33 ac34 hf34 ac35 hf35 ac36 hf36 ac37 hf37 ac38 hf38 ac39 hf39 ac40 hf40 ac41 hf41 ac42 hf42
  refine then_normal ?_
  refine code_if_true hf43 rfl ?_
  refine seq_start (l := [0, 1, 2]) rfl ?_
  refine seq_one (op_val (v := .int .i64 1) hf43 rfl rfl rfl rfl rfl rfl (r_move rfl) fun ac44 hf44 => ?_)
  refine seq_one (op_val (v := .pointer (some ⟨b2, 1, none⟩)) hf44 rfl rfl rfl rfl rfl rfl (r_indexAddr (i := 1) ar_22 rfl rfl rfl (by decide) rfl) fun ac45 hf45 => ?_)
  refine seq_one (op_store (cs' := #[.int .u8 1, .int .u8 2, .int .u8 0, .int .u8 0, .int .u8 0, .int .u8 0, .int .u8 0, .int .u8 0, .int .u8 0, .int .u8 0, .int .u8 0, .int .u8 0, .int .u8 0, .int .u8 0, .int .u8 0, .int .u8 0]) 1 hf45 rfl rfl rfl rfl rfl sz_5 hI9 rfl (by decide) (by kernel_rfl) fun wd5 hI10 => ?_)
  have hI11 : Inv w [(b1, #[.int .u8 0, .int .u8 0, .int .u8 0, .int .u8 0, .int .u8 0, .int .u8 0, .int .u8 0, .int .u8 0, .int .u8 0, .int .u8 0, .int .u8 0, .int .u8 0, .int .u8 0, .int .u8 0, .int .u8 0, .int .u8 0], 22), (b2, #[.int .u8 1, .int .u8 2, .int .u8 0, .int .u8 0, .int .u8 0, .int .u8 0, .int .u8 0, .int .u8 0, .int .u8 0, .int .u8 0, .int .u8 0, .int .u8 0, .int .u8 0, .int .u8 0, .int .u8 0, .int .u8 0], 22)] wd5 := hI10
  refine seq_end ?_
  clear ac43 hf43 ac44 hf44 wd4 hI9 hI10
  refine block_normal ?_
  refine then_normal ?_
  refine seq_start (l := [0, 1, 2]) rfl ?_
  refine seq_one (op_val (v := .int .i64 1) hf45 rfl rfl rfl rfl rfl rfl (r_move rfl) fun ac46 hf46 => ?_)
  refine seq_one (op_val (v := .int .i64 2) hf46 rfl rfl rfl rfl rfl rfl (r_add (c := 2) rfl rfl (by rfl)) fun ac47 hf47 => ?_)
  refine seq_one (op_val (v := .int .i64 2) hf47 rfl rfl rfl rfl rfl rfl (r_assign rfl) fun ac48 hf48 => ?_)
  refine seq_end ?_
  clear ac45 hf45 ac46 hf46 ac47 hf47
  refine then_normal ?_
  refine rounds_go ?_
  refine code_seq ?_
  refine code_seq ?_
  refine seq_start (l := [0, 1]) rfl ?_
  refine seq_one (op_val (v := .int .i64 2) hf48 rfl rfl rfl rfl rfl rfl (r_move rfl) fun ac49 hf49 => ?_)
  refine seq_one (op_val (v := .bool true) hf49 rfl rfl rfl rfl rfl rfl (r_lssC rfl rfl (by decide)) fun ac50 hf50 => ?_)
  refine seq_end ?_
  clear ac48 hf48 ac49 hf49
  refine then_normal ?_
  refine code_if_true hf50 rfl ?_
  refine wp_skip ?_
  refine then_normal ?_
  refine code_seq ?_
  refine wp_block ?_
  refine code_seq ?_
  refine seq_start (l := [0, 1, 2]) rfl ?_
  refine seq_one (op_val (v := .int .i64 2) hf50 rfl rfl rfl rfl rfl rfl (r_move rfl) fun ac51 hf51 => ?_)
  refine seq_one (op_val (v := .pointer (some ⟨b2, 2, none⟩)) hf51 rfl rfl rfl rfl rfl rfl (r_indexAddr (i := 2) ar_22 rfl rfl rfl (by decide) rfl) fun ac52 hf52 => ?_)
  refine seq_one (op_store (cs' := #[.int .u8 1, .int .u8 2, .int .u8 1, .int .u8 0, .int .u8 0, .int .u8 0, .int .u8 0, .int .u8 0, .int .u8 0, .int .u8 0, .int .u8 0, .int .u8 0, .int .u8 0, .int .u8 0, .int .u8 0, .int .u8 0]) 1 hf52 rfl rfl rfl rfl rfl sz_5 hI11 rfl (by decide) (by kernel_rfl) fun wd6 hI12 => ?_)
  have hI13 : Inv w [(b1, #[.int .u8 0, .int .u8 0, .int .u8 0, .int .u8 0, .int .u8 0, .int .u8 0, .int .u8 0, .int .u8 0, .int .u8 0, .int .u8 0, .int .u8 0, .int .u8 0, .int .u8 0, .int .u8 0, .int .u8 0, .int .u8 0], 22), (b2, #[.int .u8 1, .int .u8 2, .int .u8 1, .int .u8 0, .int .u8 0, .int .u8 0, .int .u8 0, .int .u8 0, .int .u8 0, .int .u8 0, .int .u8 0, .int .u8 0, .int .u8 0, .int .u8 0, .int .u8 0, .int .u8 0], 22)] wd6 := hI12
  refine seq_end ?_
  clear ac50 hf50 ac51 hf51 wd5 hI11 hI12
  refine then_normal ?_
  refine code_seq ?_
  refine seq_start (l := [0, 1, 2, 3, 4, 5, 6, 7, 8, 9, 10, 11, 12, 13]) rfl ?_
  refine seq_one (op_val (v := .int .i64 2) hf52 rfl rfl rfl rfl rfl rfl (r_move rfl) fun ac53 hf53 => ?_)
  refine seq_one (op_val (v := .bool false) hf53 rfl rfl rfl rfl rfl rfl (r_eqlC rfl rfl (by decide)) fun ac54 hf54 => ?_)
  refine seq_one (op_val (v := .bool false) hf54 rfl rfl rfl rfl rfl rfl (r_move rfl) fun ac55 hf55 => ?_)
  refine seq_one (op_val (v := .int .i64 2) hf55 rfl rfl rfl rfl rfl rfl (r_move rfl) fun ac56 hf56 => ?_)
  refine seq_one (op_val (v := .bool true) hf56 rfl rfl rfl rfl rfl rfl (r_eqlC rfl rfl (by decide)) fun ac57 hf57 => ?_)
  refine seq_one (op_val (v := .bool true) hf57 rfl rfl rfl rfl rfl rfl (r_pickF rfl rfl) fun ac58 hf58 => ?_)
  refine seq_one (op_val (v := .bool true) hf58 rfl rfl rfl rfl rfl rfl (r_move rfl) fun ac59 hf59 => ?_)
  refine seq_one (op_skip hf59 rfl rfl rfl rfl fun ac60 hf60 => ?_)
  refine seq_one (op_skip hf60 rfl rfl rfl rfl fun ac61 hf61 => ?_)
  refine seq_one (op_val (v := .bool true) hf61 rfl rfl rfl rfl rfl rfl (r_pickT rfl rfl) fun ac62 hf62 => ?_)
  refine seq_one (op_val (v := .bool true) hf62 rfl rfl rfl rfl rfl rfl (r_move rfl) fun ac63 hf63 => ?_)
  refine seq_one (op_skip hf63 rfl rfl rfl rfl fun ac64 hf64 => ?_)
  refine seq_one (op_skip hf64 rfl rfl rfl rfl fun ac65 hf65 => ?_)
  refine seq_one (op_val (v := .bool true) hf65 rfl rfl rfl rfl rfl rfl (r_pickT rfl rfl) fun ac66 hf66 => ?_)
  refine seq_end ?_
  clear ac52 hf52 ac53 hf53 ac54 hf54 ac55 hf55 ac56 hf56 ac57 hf57 ac58 hf58 ac59 hf59 ac60 hf60 ac61 hf61 ac62 hf62 ac63 hf63 ac64 hf64 ac65 hf65
  refine then_normal ?_
  refine code_if_true hf66 rfl ?_
  refine seq_start (l := [0, 1, 2]) rfl ?_
  refine seq_one (op_val (v := .int .i64 2) hf66 rfl rfl rfl rfl rfl rfl (r_move rfl) fun ac67 hf67 => ?_)
  refine seq_one (op_val (v := .pointer (some ⟨b2, 2, none⟩)) hf67 rfl rfl rfl rfl rfl rfl (r_indexAddr (i := 2) ar_22 rfl rfl rfl (by decide) rfl) fun ac68 hf68 => ?_)
  refine seq_one (op_store (cs' := #[.int .u8 1, .int .u8 2, .int .u8 2, .int .u8 0, .int .u8 0, .int .u8 0, .int .u8 0, .int .u8 0, .int .u8 0, .int .u8 0, .int .u8 0, .int .u8 0, .int .u8 0, .int .u8 0, .int .u8 0, .int .u8 0]) 1 hf68 rfl rfl rfl rfl rfl sz_5 hI13 rfl (by decide) (by kernel_rfl) fun wd7 hI14 => ?_)
  have hI15 : Inv w [(b1, #[.int .u8 0, .int .u8 0, .int .u8 0, .int .u8 0, .int .u8 0, .int .u8 0, .int .u8 0, .int .u8 0, .int .u8 0, .int .u8 0, .int .u8 0, .int .u8 0, .int .u8 0, .int .u8 0, .int .u8 0, .int .u8 0], 22), (b2, #[.int .u8 1, .int .u8 2, .int .u8 2, .int .u8 0, .int .u8 0, .int .u8 0, .int .u8 0, .int .u8 0, .int .u8 0, .int .u8 0, .int .u8 0, .int .u8 0, .int .u8 0, .int .u8 0, .int .u8 0, .int .u8 0], 22)] wd7 := hI14
  refine seq_end ?_
  clear ac66 hf66 ac67 hf67 wd6 hI13 hI14
  refine block_normal ?_
  refine then_normal ?_
  refine seq_start (l := [0, 1, 2]) rfl ?_
  refine seq_one (op_val (v := .int .i64 2) hf68 rfl rfl rfl rfl rfl rfl (r_move rfl) fun ac69 hf69 => ?_)
  refine seq_one (op_val (v := .int .i64 3) hf69 rfl rfl rfl rfl rfl rfl (r_add (c := 3) rfl rfl (by rfl)) fun ac70 hf70 => ?_)
  refine seq_one (op_val (v := .int .i64 3) hf70 rfl rfl rfl rfl rfl rfl (r_assign rfl) fun ac71 hf71 => ?_)
  refine seq_end ?_
  clear ac68 hf68 ac69 hf69 ac70 hf70
  refine then_normal ?_
  refine rounds_go ?_
  refine code_seq ?_
  refine code_seq ?_
  refine seq_start (l := [0, 1]) rfl ?_
  refine seq_one (op_val (v := .int .i64 3) hf71 rfl rfl rfl rfl rfl rfl (r_move rfl) fun ac72 hf72 => ?_)
  refine seq_one (op_val (v := .bool true) hf72 rfl rfl rfl rfl rfl rfl (r_lssC rfl rfl (by decide)) fun ac73 hf73 => ?_)
  refine seq_end ?_
  clear ac71 hf71 ac72 hf72
  refine then_normal ?_
  refine code_if_true hf73 rfl ?_
  refine wp_skip ?_
  refine then_normal ?_
  refine code_seq ?_
  refine wp_block ?_
  refine code_seq ?_
  refine seq_start (l := [0, 1, 2]) rfl ?_
  refine seq_one (op_val (v := .int .i64 3) hf73 rfl rfl rfl rfl rfl rfl (r_move rfl) fun ac74 hf74 => ?_)
  refine seq_one (op_val (v := .pointer (some ⟨b2, 3, none⟩)) hf74 rfl rfl rfl rfl rfl rfl (r_indexAddr (i := 3) ar_22 rfl rfl rfl (by decide) rfl) fun ac75 hf75 => ?_)
  refine seq_one (op_store (cs' := #[.int .u8 1, .int .u8 2, .int .u8 2, .int .u8 1, .int .u8 0, .int .u8 0, .int .u8 0, .int .u8 0, .int .u8 0, .int .u8 0, .int .u8 0, .int .u8 0, .int .u8 0, .int .u8 0, .int .u8 0, .int .u8 0]) 1 hf75 rfl rfl rfl rfl rfl sz_5 hI15 rfl (by decide) (by kernel_rfl) fun wd8 hI16 => ?_)
  have hI17 : Inv w [(b1, #[.int .u8 0, .int .u8 0, .int .u8 0, .int .u8 0, .int .u8 0, .int .u8 0, .int .u8 0, .int .u8 0, .int .u8 0, .int .u8 0, .int .u8 0, .int .u8 0, .int .u8 0, .int .u8 0, .int .u8 0, .int .u8 0], 22), (b2, #[.int .u8 1, .int .u8 2, .int .u8 2, .int .u8 1, .int .u8 0, .int .u8 0, .int .u8 0, .int .u8 0, .int .u8 0, .int .u8 0, .int .u8 0, .int .u8 0, .int .u8 0, .int .u8 0, .int .u8 0, .int .u8 0], 22)] wd8 := hI16
  refine seq_end ?_
  clear ac73 hf73 ac74 hf74 wd7 hI15 hI16
  refine then_normal ?_
  refine code_seq ?_
  refine seq_start (l := [0, 1, 2, 3, 4, 5, 6, 7, 8, 9, 10, 11, 12, 13]) rfl ?_
  refine seq_one (op_val (v := .int .i64 3) hf75 rfl rfl rfl rfl rfl rfl (r_move rfl) fun ac76 hf76 => ?_)
  refine seq_one (op_val (v := .bool false) hf76 rfl rfl rfl rfl rfl rfl (r_eqlC rfl rfl (by decide)) fun ac77 hf77 => ?_)
  refine seq_one (op_val (v := .bool false) hf77 rfl rfl rfl rfl rfl rfl (r_move rfl) fun ac78 hf78 => ?_)
  refine seq_one (op_val (v := .int .i64 3) hf78 rfl rfl rfl rfl rfl rfl (r_move rfl) fun ac79 hf79 => ?_)
  refine seq_one (op_val (v := .bool false) hf79 rfl rfl rfl rfl rfl rfl (r_eqlC rfl rfl (by decide)) fun ac80 hf80 => ?_)
  refine seq_one (op_val (v := .bool false) hf80 rfl rfl rfl rfl rfl rfl (r_pickF rfl rfl) fun ac81 hf81 => ?_)
  refine seq_one (op_val (v := .bool false) hf81 rfl rfl rfl rfl rfl rfl (r_move rfl) fun ac82 hf82 => ?_)
  refine seq_one (op_val (v := .int .i64 3) hf82 rfl rfl rfl rfl rfl rfl (r_move rfl) fun ac83 hf83 => ?_)
  refine seq_one (op_val (v := .bool true) hf83 rfl rfl rfl rfl rfl rfl (r_eqlC rfl rfl (by decide)) fun ac84 hf84 => ?_)
  refine seq_one (op_val (v := .bool true) hf84 rfl rfl rfl rfl rfl rfl (r_pickF rfl rfl) fun ac85 hf85 => ?_)
  refine seq_one (op_val (v := .bool true) hf85 rfl rfl rfl rfl rfl rfl (r_move rfl) fun ac86 hf86 => ?_)
  refine seq_one (op_skip hf86 rfl rfl rfl rfl fun ac87 hf87 => ?_)
  refine seq_one (op_skip hf87 rfl rfl rfl rfl fun ac88 hf88 => ?_)
  refine seq_one (op_val (v := .bool true) hf88 rfl rfl rfl rfl rfl rfl (r_pickT rfl rfl) fun ac89 hf89 => ?_)
  refine seq_end ?_
  clear ac75 hf75 ac76 hf76 ac77 hf77 ac78 hf78 ac79 hf79 ac80 hf80 ac81 hf81 ac82 hf82 ac83 hf83 ac84 hf84 ac85 hf85 ac86 hf86 ac87 hf87 ac88 hf88
  refine then_normal ?_
  refine code_if_true hf89 rfl ?_
  refine seq_start (l := [0, 1, 2]) rfl ?_
  refine seq_one (op_val (v := .int .i64 3) hf89 rfl rfl rfl rfl rfl rfl (r_move rfl) fun ac90 hf90 => ?_)
  refine seq_one (op_val (v := .pointer (some ⟨b2, 3, none⟩)) hf90 rfl rfl rfl rfl rfl rfl (r_indexAddr (i := 3) ar_22 rfl rfl rfl (by decide) rfl) fun ac91 hf91 => ?_)
  refine seq_one (op_store (cs' := #[.int .u8 1, .int .u8 2, .int .u8 2, .int .u8 2, .int .u8 0, .int .u8 0, .int .u8 0, .int .u8 0, .int .u8 0, .int .u8 0, .int .u8 0, .int .u8 0, .int .u8 0, .int .u8 0, .int .u8 0, .int .u8 0]) 1 hf91 rfl rfl rfl rfl rfl sz_5 hI17 rfl (by decide) (by kernel_rfl) fun wd9 hI18 => ?_)
  have hI19 : Inv w [(b1, #[.int .u8 0, .int .u8 0, .int .u8 0, .int .u8 0, .int .u8 0, .int .u8 0, .int .u8 0, .int .u8 0, .int .u8 0, .int .u8 0, .int .u8 0, .int .u8 0, .int .u8 0, .int .u8 0, .int .u8 0, .int .u8 0], 22), (b2, #[.int .u8 1, .int .u8 2, .int .u8 2, .int .u8 2, .int .u8 0, .int .u8 0, .int .u8 0, .int .u8 0, .int .u8 0, .int .u8 0, .int .u8 0, .int .u8 0, .int .u8 0, .int .u8 0, .int .u8 0, .int .u8 0], 22)] wd9 := hI18
  refine seq_end ?_
  clear ac89 hf89 ac90 hf90 wd8 hI17 hI18
  refine block_normal ?_
  refine then_normal ?_
  refine seq_start (l := [0, 1, 2]) rfl ?_
  refine seq_one (op_val (v := .int .i64 3) hf91 rfl rfl rfl rfl rfl rfl (r_move rfl) fun ac92 hf92 => ?_)
  refine seq_one (op_val (v := .int .i64 4) hf92 rfl rfl rfl rfl rfl rfl (r_add (c := 4) rfl rfl (by rfl)) fun ac93 hf93 => ?_)
  refine seq_one (op_val (v := .int .i64 4) hf93 rfl rfl rfl rfl rfl rfl (r_assign rfl) fun ac94 hf94 => ?_)
  refine seq_end ?_
  clear ac91 hf91 ac92 hf92 ac93 hf93
  refine then_normal ?_
  refine rounds_go ?_
  refine code_seq ?_
  refine code_seq ?_
  refine seq_start (l := [0, 1]) rfl ?_
  refine seq_one (op_val (v := .int .i64 4) hf94 rfl rfl rfl rfl rfl rfl (r_move rfl) fun ac95 hf95 => ?_)
  refine seq_one (op_val (v := .bool true) hf95 rfl rfl rfl rfl rfl rfl (r_lssC rfl rfl (by decide)) fun ac96 hf96 => ?_)
  refine seq_end ?_
  clear ac94 hf94 ac95 hf95
  refine then_normal ?_
  refine code_if_true hf96 rfl ?_
  refine wp_skip ?_
  refine then_normal ?_
  refine code_seq ?_
  refine wp_block ?_
  refine code_seq ?_
  refine seq_start (l := [0, 1, 2]) rfl ?_
  refine seq_one (op_val (v := .int .i64 4) hf96 rfl rfl rfl rfl rfl rfl (r_move rfl) fun ac97 hf97 => ?_)
  refine seq_one (op_val (v := .pointer (some ⟨b2, 4, none⟩)) hf97 rfl rfl rfl rfl rfl rfl (r_indexAddr (i := 4) ar_22 rfl rfl rfl (by decide) rfl) fun ac98 hf98 => ?_)
  refine seq_one (op_store (cs' := #[.int .u8 1, .int .u8 2, .int .u8 2, .int .u8 2, .int .u8 1, .int .u8 0, .int .u8 0, .int .u8 0, .int .u8 0, .int .u8 0, .int .u8 0, .int .u8 0, .int .u8 0, .int .u8 0, .int .u8 0, .int .u8 0]) 1 hf98 rfl rfl rfl rfl rfl sz_5 hI19 rfl (by decide) (by kernel_rfl) fun wd10 hI20 => ?_)
  have hI21 : Inv w [(b1, #[.int .u8 0, .int .u8 0, .int .u8 0, .int .u8 0, .int .u8 0, .int .u8 0, .int .u8 0, .int .u8 0, .int .u8 0, .int .u8 0, .int .u8 0, .int .u8 0, .int .u8 0, .int .u8 0, .int .u8 0, .int .u8 0], 22), (b2, #[.int .u8 1, .int .u8 2, .int .u8 2, .int .u8 2, .int .u8 1, .int .u8 0, .int .u8 0, .int .u8 0, .int .u8 0, .int .u8 0, .int .u8 0, .int .u8 0, .int .u8 0, .int .u8 0, .int .u8 0, .int .u8 0], 22)] wd10 := hI20
  refine seq_end ?_
  clear ac96 hf96 ac97 hf97 wd9 hI19 hI20
  refine then_normal ?_
  refine code_seq ?_
  refine seq_start (l := [0, 1, 2, 3, 4, 5, 6, 7, 8, 9, 10, 11, 12, 13]) rfl ?_
  refine seq_one (op_val (v := .int .i64 4) hf98 rfl rfl rfl rfl rfl rfl (r_move rfl) fun ac99 hf99 => ?_)
  refine seq_one (op_val (v := .bool false) hf99 rfl rfl rfl rfl rfl rfl (r_eqlC rfl rfl (by decide)) fun ac100 hf100 => ?_)
  refine seq_one (op_val (v := .bool false) hf100 rfl rfl rfl rfl rfl rfl (r_move rfl) fun ac101 hf101 => ?_)
  refine seq_one (op_val (v := .int .i64 4) hf101 rfl rfl rfl rfl rfl rfl (r_move rfl) fun ac102 hf102 => ?_)
  refine seq_one (op_val (v := .bool false) hf102 rfl rfl rfl rfl rfl rfl (r_eqlC rfl rfl (by decide)) fun ac103 hf103 => ?_)
  refine seq_one (op_val (v := .bool false) hf103 rfl rfl rfl rfl rfl rfl (r_pickF rfl rfl) fun ac104 hf104 => ?_)
  refine seq_one (op_val (v := .bool false) hf104 rfl rfl rfl rfl rfl rfl (r_move rfl) fun ac105 hf105 => ?_)
  refine seq_one (op_val (v := .int .i64 4) hf105 rfl rfl rfl rfl rfl rfl (r_move rfl) fun ac106 hf106 => ?_)
  refine seq_one (op_val (v := .bool false) hf106 rfl rfl rfl rfl rfl rfl (r_eqlC rfl rfl (by decide)) fun ac107 hf107 => ?_)
  refine seq_one (op_val (v := .bool false) hf107 rfl rfl rfl rfl rfl rfl (r_pickF rfl rfl) fun ac108 hf108 => ?_)
  refine seq_one (op_val (v := .bool false) hf108 rfl rfl rfl rfl rfl rfl (r_move rfl) fun ac109 hf109 => ?_)
  refine seq_one (op_val (v := .int .i64 4) hf109 rfl rfl rfl rfl rfl rfl (r_move rfl) fun ac110 hf110 => ?_)
  refine seq_one (op_val (v := .bool false) hf110 rfl rfl rfl rfl rfl rfl (r_eqlC rfl rfl (by decide)) fun ac111 hf111 => ?_)
  refine seq_one (op_val (v := .bool false) hf111 rfl rfl rfl rfl rfl rfl (r_pickF rfl rfl) fun ac112 hf112 => ?_)
  refine seq_end ?_
  clear ac98 hf98 ac99 hf99 ac100 hf100 ac101 hf101 ac102 hf102 ac103 hf103 ac104 hf104 ac105 hf105 ac106 hf106 ac107 hf107 ac108 hf108 ac109 hf109 ac110 hf110 ac111 hf111
  refine then_normal ?_
  refine code_if_false hf112 rfl ?_
  refine wp_skip ?_
  refine block_normal ?_
  refine then_normal ?_
  refine seq_start (l := [0, 1, 2]) rfl ?_
  refine seq_one (op_val (v := .int .i64 4) hf112 rfl rfl rfl rfl rfl rfl (r_move rfl) fun ac113 hf113 => ?_)
  refine seq_one (op_val (v := .int .i64 5) hf113 rfl rfl rfl rfl rfl rfl (r_add (c := 5) rfl rfl (by rfl)) fun ac114 hf114 => ?_)
  refine seq_one (op_val (v := .int .i64 5) hf114 rfl rfl rfl rfl rfl rfl (r_assign rfl) fun ac115 hf115 => ?_)
  refine seq_end ?_
  clear ac112 hf112 ac113 hf113 ac114 hf114
  refine then_normal ?_
  refine rounds_go ?_
  refine code_seq ?_
  refine code_seq ?_
  refine seq_start (l := [0, 1]) rfl ?_
  refine seq_one (op_val (v := .int .i64 5) hf115 rfl rfl rfl rfl rfl rfl (r_move rfl) fun ac116 hf116 => ?_)
  refine seq_one (op_val (v := .bool true) hf116 rfl rfl rfl rfl rfl rfl (r_lssC rfl rfl (by decide)) fun ac117 hf117 => ?_)
  refine seq_end ?_
  clear ac115 hf115 ac116 hf116
  refine then_normal ?_
  refine code_if_true hf117 rfl ?_
  refine wp_skip ?_
  refine then_normal ?_
  refine code_seq ?_
  refine wp_block ?_
  refine code_seq ?_
  refine seq_start (l := [0, 1, 2]) rfl ?_
  refine seq_one (op_val (v := .int .i64 5) hf117 rfl rfl rfl rfl rfl rfl (r_move rfl) fun ac118 hf118 => ?_)
  refine seq_one (op_val (v := .pointer (some ⟨b2, 5, none⟩)) hf118 rfl rfl rfl rfl rfl rfl (r_indexAddr (i := 5) ar_22 rfl rfl rfl (by decide) rfl) fun ac119 hf119 => ?_)
  refine seq_one (op_store (cs' := #[.int .u8 1, .int .u8 2, .int .u8 2, .int .u8 2, .int .u8 1, .int .u8 1, .int .u8 0, .int .u8 0, .int .u8 0, .int .u8 0, .int .u8 0, .int .u8 0, .int .u8 0, .int .u8 0, .int .u8 0, .int .u8 0]) 1 hf119 rfl rfl rfl rfl rfl sz_5 hI21 rfl (by decide) (by kernel_rfl) fun wd11 hI22 => ?_)
  have hI23 : Inv w [(b1, #[.int .u8 0, .int .u8 0, .int .u8 0, .int .u8 0, .int .u8 0, .int .u8 0, .int .u8 0, .int .u8 0, .int .u8 0, .int .u8 0, .int .u8 0, .int .u8 0, .int .u8 0, .int .u8 0, .int .u8 0, .int .u8 0], 22), (b2, #[.int .u8 1, .int .u8 2, .int .u8 2, .int .u8 2, .int .u8 1, .int .u8 1, .int .u8 0, .int .u8 0, .int .u8 0, .int .u8 0, .int .u8 0, .int .u8 0, .int .u8 0, .int .u8 0, .int .u8 0, .int .u8 0], 22)] wd11 := hI22
  refine seq_end ?_
  clear ac117 hf117 ac118 hf118 wd10 hI21 hI22
  refine then_normal ?_
  refine code_seq ?_
  refine seq_start (l := [0, 1, 2, 3, 4, 5, 6, 7, 8, 9, 10, 11, 12, 13]) rfl ?_
  refine seq_one (op_val (v := .int .i64 5) hf119 rfl rfl rfl rfl rfl rfl (r_move rfl) fun ac120 hf120 => ?_)
  refine seq_one (op_val (v := .bool false) hf120 rfl rfl rfl rfl rfl rfl (r_eqlC rfl rfl (by decide)) fun ac121 hf121 => ?_)
  refine seq_one (op_val (v := .bool false) hf121 rfl rfl rfl rfl rfl rfl (r_move rfl) fun ac122 hf122 => ?_)
  refine seq_one (op_val (v := .int .i64 5) hf122 rfl rfl rfl rfl rfl rfl (r_move rfl) fun ac123 hf123 => ?_)
  refine seq_one (op_val (v := .bool false) hf123 rfl rfl rfl rfl rfl rfl (r_eqlC rfl rfl (by decide)) fun ac124 hf124 => ?_)
  refine seq_one (op_val (v := .bool false) hf124 rfl rfl rfl rfl rfl rfl (r_pickF rfl rfl) fun ac125 hf125 => ?_)
  refine seq_one (op_val (v := .bool false) hf125 rfl rfl rfl rfl rfl rfl (r_move rfl) fun ac126 hf126 => ?_)
  refine seq_one (op_val (v := .int .i64 5) hf126 rfl rfl rfl rfl rfl rfl (r_move rfl) fun ac127 hf127 => ?_)
  refine seq_one (op_val (v := .bool false) hf127 rfl rfl rfl rfl rfl rfl (r_eqlC rfl rfl (by decide)) fun ac128 hf128 => ?_)
  refine seq_one (op_val (v := .bool false) hf128 rfl rfl rfl rfl rfl rfl (r_pickF rfl rfl) fun ac129 hf129 => ?_)
  refine seq_one (op_val (v := .bool false) hf129 rfl rfl rfl rfl rfl rfl (r_move rfl) fun ac130 hf130 => ?_)
  refine seq_one (op_val (v := .int .i64 5) hf130 rfl rfl rfl rfl rfl rfl (r_move rfl) fun ac131 hf131 => ?_)
  refine seq_one (op_val (v := .bool true) hf131 rfl rfl rfl rfl rfl rfl (r_eqlC rfl rfl (by decide)) fun ac132 hf132 => ?_)
  refine seq_one (op_val (v := .bool true) hf132 rfl rfl rfl rfl rfl rfl (r_pickF rfl rfl) fun ac133 hf133 => ?_)
  refine seq_end ?_
  clear ac119 hf119 ac120 hf120 ac121 hf121 ac122 hf122 ac123 hf123 ac124 hf124 ac125 hf125 ac126 hf126 ac127 hf127 ac128 hf128 ac129 hf129 ac130 hf130 ac131 hf131 ac132 hf132
  refine then_normal ?_
  refine code_if_true hf133 rfl ?_
  refine seq_start (l := [0, 1, 2]) rfl ?_
  refine seq_one (op_val (v := .int .i64 5) hf133 rfl rfl rfl rfl rfl rfl (r_move rfl) fun ac134 hf134 => ?_)
  refine seq_one (op_val (v := .pointer (some ⟨b2, 5, none⟩)) hf134 rfl rfl rfl rfl rfl rfl (r_indexAddr (i := 5) ar_22 rfl rfl rfl (by decide) rfl) fun ac135 hf135 => ?_)
  refine seq_one (op_store (cs' := #[.int .u8 1, .int .u8 2, .int .u8 2, .int .u8 2, .int .u8 1, .int .u8 2, .int .u8 0, .int .u8 0, .int .u8 0, .int .u8 0, .int .u8 0, .int .u8 0, .int .u8 0, .int .u8 0, .int .u8 0, .int .u8 0]) 1 hf135 rfl rfl rfl rfl rfl sz_5 hI23 rfl (by decide) (by kernel_rfl) fun wd12 hI24 => ?_)
  have hI25 : Inv w [(b1, #[.int .u8 0, .int .u8 0, .int .u8 0, .int .u8 0, .int .u8 0, .int .u8 0, .int .u8 0, .int .u8 0, .int .u8 0, .int .u8 0, .int .u8 0, .int .u8 0, .int .u8 0, .int .u8 0, .int .u8 0, .int .u8 0], 22), (b2, #[.int .u8 1, .int .u8 2, .int .u8 2, .int .u8 2, .int .u8 1, .int .u8 2, .int .u8 0, .int .u8 0, .int .u8 0, .int .u8 0, .int .u8 0, .int .u8 0, .int .u8 0, .int .u8 0, .int .u8 0, .int .u8 0], 22)] wd12 := hI24
  refine seq_end ?_
  clear ac133 hf133 ac134 hf134 wd11 hI23 hI24
  refine block_normal ?_
  refine then_normal ?_
  refine seq_start (l := [0, 1, 2]) rfl ?_
  refine seq_one (op_val (v := .int .i64 5) hf135 rfl rfl rfl rfl rfl rfl (r_move rfl) fun ac136 hf136 => ?_)
  refine seq_one (op_val (v := .int .i64 6) hf136 rfl rfl rfl rfl rfl rfl (r_add (c := 6) rfl rfl (by rfl)) fun ac137 hf137 => ?_)
  refine seq_one (op_val (v := .int .i64 6) hf137 rfl rfl rfl rfl rfl rfl (r_assign rfl) fun ac138 hf138 => ?_)
  refine seq_end ?_
  clear ac135 hf135 ac136 hf136 ac137 hf137
  refine then_normal ?_
  refine rounds_go ?_
  refine code_seq ?_
  refine code_seq ?_
  refine seq_start (l := [0, 1]) rfl ?_
  refine seq_one (op_val (v := .int .i64 6) hf138 rfl rfl rfl rfl rfl rfl (r_move rfl) fun ac139 hf139 => ?_)
  refine seq_one (op_val (v := .bool true) hf139 rfl rfl rfl rfl rfl rfl (r_lssC rfl rfl (by decide)) fun ac140 hf140 => ?_)
  refine seq_end ?_
  clear ac138 hf138 ac139 hf139
  refine then_normal ?_
  refine code_if_true hf140 rfl ?_
  refine wp_skip ?_
  refine then_normal ?_
  refine code_seq ?_
  refine wp_block ?_
  refine code_seq ?_
  refine seq_start (l := [0, 1, 2]) rfl ?_
  refine seq_one (op_val (v := .int .i64 6) hf140 rfl rfl rfl rfl rfl rfl (r_move rfl) fun ac141 hf141 => ?_)
  refine seq_one (op_val (v := .pointer (some ⟨b2, 6, none⟩)) hf141 rfl rfl rfl rfl rfl rfl (r_indexAddr (i := 6) ar_22 rfl rfl rfl (by decide) rfl) fun ac142 hf142 => ?_)
  refine seq_one (op_store (cs' := #[.int .u8 1, .int .u8 2, .int .u8 2, .int .u8 2, .int .u8 1, .int .u8 2, .int .u8 1, .int .u8 0, .int .u8 0, .int .u8 0, .int .u8 0, .int .u8 0, .int .u8 0, .int .u8 0, .int .u8 0, .int .u8 0]) 1 hf142 rfl rfl rfl rfl rfl sz_5 hI25 rfl (by decide) (by kernel_rfl) fun wd13 hI26 => ?_)
  have hI27 : Inv w [(b1, #[.int .u8 0, .int .u8 0, .int .u8 0, .int .u8 0, .int .u8 0, .int .u8 0, .int .u8 0, .int .u8 0, .int .u8 0, .int .u8 0, .int .u8 0, .int .u8 0, .int .u8 0, .int .u8 0, .int .u8 0, .int .u8 0], 22), (b2, #[.int .u8 1, .int .u8 2, .int .u8 2, .int .u8 2, .int .u8 1, .int .u8 2, .int .u8 1, .int .u8 0, .int .u8 0, .int .u8 0, .int .u8 0, .int .u8 0, .int .u8 0, .int .u8 0, .int .u8 0, .int .u8 0], 22)] wd13 := hI26
  refine seq_end ?_
  clear ac140 hf140 ac141 hf141 wd12 hI25 hI26
  refine then_normal ?_
  refine code_seq ?_
  refine seq_start (l := [0, 1, 2, 3, 4, 5, 6, 7, 8, 9, 10, 11, 12, 13]) rfl ?_
  refine seq_one (op_val (v := .int .i64 6) hf142 rfl rfl rfl rfl rfl rfl (r_move rfl) fun ac143 hf143 => ?_)
  refine seq_one (op_val (v := .bool false) hf143 rfl rfl rfl rfl rfl rfl (r_eqlC rfl rfl (by decide)) fun ac144 hf144 => ?_)
  refine seq_one (op_val (v := .bool false) hf144 rfl rfl rfl rfl rfl rfl (r_move rfl) fun ac145 hf145 => ?_)
  refine seq_one (op_val (v := .int .i64 6) hf145 rfl rfl rfl rfl rfl rfl (r_move rfl) fun ac146 hf146 => ?_)
  refine seq_one (op_val (v := .bool false) hf146 rfl rfl rfl rfl rfl rfl (r_eqlC rfl rfl (by decide)) fun ac147 hf147 => ?_)
  refine seq_one (op_val (v := .bool false) hf147 rfl rfl rfl rfl rfl rfl (r_pickF rfl rfl) fun ac148 hf148 => ?_)
  refine seq_one (op_val (v := .bool false) hf148 rfl rfl rfl rfl rfl rfl (r_move rfl) fun ac149 hf149 => ?_)
  refine seq_one (op_val (v := .int .i64 6) hf149 rfl rfl rfl rfl rfl rfl (r_move rfl) fun ac150 hf150 => ?_)
  refine seq_one (op_val (v := .bool false) hf150 rfl rfl rfl rfl rfl rfl (r_eqlC rfl rfl (by decide)) fun ac151 hf151 => ?_)
  refine seq_one (op_val (v := .bool false) hf151 rfl rfl rfl rfl rfl rfl (r_pickF rfl rfl) fun ac152 hf152 => ?_)
  refine seq_one (op_val (v := .bool false) hf152 rfl rfl rfl rfl rfl rfl (r_move rfl) fun ac153 hf153 => ?_)
  refine seq_one (op_val (v := .int .i64 6) hf153 rfl rfl rfl rfl rfl rfl (r_move rfl) fun ac154 hf154 => ?_)
  refine seq_one (op_val (v := .bool false) hf154 rfl rfl rfl rfl rfl rfl (r_eqlC rfl rfl (by decide)) fun ac155 hf155 => ?_)
  refine seq_one (op_val (v := .bool false) hf155 rfl rfl rfl rfl rfl rfl (r_pickF rfl rfl) fun ac156 hf156 => ?_)
  refine seq_end ?_
  clear ac142 hf142 ac143 hf143 ac144 hf144 ac145 hf145 ac146 hf146 ac147 hf147 ac148 hf148 ac149 hf149 ac150 hf150 ac151 hf151 ac152 hf152 ac153 hf153 ac154 hf154 ac155 hf155
  refine then_normal ?_
  refine code_if_false hf156 rfl ?_
  refine wp_skip ?_
  refine block_normal ?_
  refine then_normal ?_
  refine seq_start (l := [0, 1, 2]) rfl ?_
  refine seq_one (op_val (v := .int .i64 6) hf156 rfl rfl rfl rfl rfl rfl (r_move rfl) fun ac157 hf157 => ?_)
  refine seq_one (op_val (v := .int .i64 7) hf157 rfl rfl rfl rfl rfl rfl (r_add (c := 7) rfl rfl (by rfl)) fun ac158 hf158 => ?_)
  refine seq_one (op_val (v := .int .i64 7) hf158 rfl rfl rfl rfl rfl rfl (r_assign rfl) fun ac159 hf159 => ?_)
  refine seq_end ?_
  clear ac156 hf156 ac157 hf157 ac158 hf158
  refine then_normal ?_
  refine rounds_go ?_
  refine code_seq ?_
  refine code_seq ?_
  refine seq_start (l := [0, 1]) rfl ?_
  refine seq_one (op_val (v := .int .i64 7) hf159 rfl rfl rfl rfl rfl rfl (r_move rfl) fun ac160 hf160 => ?_)
  refine seq_one (op_val (v := .bool true) hf160 rfl rfl rfl rfl rfl rfl (r_lssC rfl rfl (by decide)) fun ac161 hf161 => ?_)
  refine seq_end ?_
  clear ac159 hf159 ac160 hf160
  refine then_normal ?_
  refine code_if_true hf161 rfl ?_
  refine wp_skip ?_
  refine then_normal ?_
  refine code_seq ?_
  refine wp_block ?_
  refine code_seq ?_
  refine seq_start (l := [0, 1, 2]) rfl ?_
  refine seq_one (op_val (v := .int .i64 7) hf161 rfl rfl rfl rfl rfl rfl (r_move rfl) fun ac162 hf162 => ?_)
  refine seq_one (op_val (v := .pointer (some ⟨b2, 7, none⟩)) hf162 rfl rfl rfl rfl rfl rfl (r_indexAddr (i := 7) ar_22 rfl rfl rfl (by decide) rfl) fun ac163 hf163 => ?_)
  refine seq_one (op_store (cs' := #[.int .u8 1, .int .u8 2, .int .u8 2, .int .u8 2, .int .u8 1, .int .u8 2, .int .u8 1, .int .u8 1, .int .u8 0, .int .u8 0, .int .u8 0, .int .u8 0, .int .u8 0, .int .u8 0, .int .u8 0, .int .u8 0]) 1 hf163 rfl rfl rfl rfl rfl sz_5 hI27 rfl (by decide) (by kernel_rfl) fun wd14 hI28 => ?_)
  have hI29 : Inv w [(b1, #[.int .u8 0, .int .u8 0, .int .u8 0, .int .u8 0, .int .u8 0, .int .u8 0, .int .u8 0, .int .u8 0, .int .u8 0, .int .u8 0, .int .u8 0, .int .u8 0, .int .u8 0, .int .u8 0, .int .u8 0, .int .u8 0], 22), (b2, #[.int .u8 1, .int .u8 2, .int .u8 2, .int .u8 2, .int .u8 1, .int .u8 2, .int .u8 1, .int .u8 1, .int .u8 0, .int .u8 0, .int .u8 0, .int .u8 0, .int .u8 0, .int .u8 0, .int .u8 0, .int .u8 0], 22)] wd14 := hI28
  refine seq_end ?_
  clear ac161 hf161 ac162 hf162 wd13 hI27 hI28
  refine then_normal ?_
  refine code_seq ?_
  refine seq_start (l := [0, 1, 2, 3, 4, 5, 6, 7, 8, 9, 10, 11, 12, 13]) rfl ?_
  refine seq_one (op_val (v := .int .i64 7) hf163 rfl rfl rfl rfl rfl rfl (r_move rfl) fun ac164 hf164 => ?_)
  refine seq_one (op_val (v := .bool false) hf164 rfl rfl rfl rfl rfl rfl (r_eqlC rfl rfl (by decide)) fun ac165 hf165 => ?_)
  refine seq_one (op_val (v := .bool false) hf165 rfl rfl rfl rfl rfl rfl (r_move rfl) fun ac166 hf166 => ?_)
  refine seq_one (op_val (v := .int .i64 7) hf166 rfl rfl rfl rfl rfl rfl (r_move rfl) fun ac167 hf167 => ?_)
  refine seq_one (op_val (v := .bool false) hf167 rfl rfl rfl rfl rfl rfl (r_eqlC rfl rfl (by decide)) fun ac168 hf168 => ?_)
  refine seq_one (op_val (v := .bool false) hf168 rfl rfl rfl rfl rfl rfl (r_pickF rfl rfl) fun ac169 hf169 => ?_)
  refine seq_one (op_val (v := .bool false) hf169 rfl rfl rfl rfl rfl rfl (r_move rfl) fun ac170 hf170 => ?_)
  refine seq_one (op_val (v := .int .i64 7) hf170 rfl rfl rfl rfl rfl rfl (r_move rfl) fun ac171 hf171 => ?_)
  refine seq_one (op_val (v := .bool false) hf171 rfl rfl rfl rfl rfl rfl (r_eqlC rfl rfl (by decide)) fun ac172 hf172 => ?_)
  refine seq_one (op_val (v := .bool false) hf172 rfl rfl rfl rfl rfl rfl (r_pickF rfl rfl) fun ac173 hf173 => ?_)
  refine seq_one (op_val (v := .bool false) hf173 rfl rfl rfl rfl rfl rfl (r_move rfl) fun ac174 hf174 => ?_)
  refine seq_one (op_val (v := .int .i64 7) hf174 rfl rfl rfl rfl rfl rfl (r_move rfl) fun ac175 hf175 => ?_)
  refine seq_one (op_val (v := .bool false) hf175 rfl rfl rfl rfl rfl rfl (r_eqlC rfl rfl (by decide)) fun ac176 hf176 => ?_)
  refine seq_one (op_val (v := .bool false) hf176 rfl rfl rfl rfl rfl rfl (r_pickF rfl rfl) fun ac177 hf177 => ?_)
  refine seq_end ?_
  clear ac163 hf163 ac164 hf164 ac165 hf165 ac166 hf166 ac167 hf167 ac168 hf168 ac169 hf169 ac170 hf170 ac171 hf171 ac172 hf172 ac173 hf173 ac174 hf174 ac175 hf175 ac176 hf176
  refine then_normal ?_
  refine code_if_false hf177 rfl ?_
  refine wp_skip ?_
  refine block_normal ?_
  refine then_normal ?_
  refine seq_start (l := [0, 1, 2]) rfl ?_
  refine seq_one (op_val (v := .int .i64 7) hf177 rfl rfl rfl rfl rfl rfl (r_move rfl) fun ac178 hf178 => ?_)
  refine seq_one (op_val (v := .int .i64 8) hf178 rfl rfl rfl rfl rfl rfl (r_add (c := 8) rfl rfl (by rfl)) fun ac179 hf179 => ?_)
  refine seq_one (op_val (v := .int .i64 8) hf179 rfl rfl rfl rfl rfl rfl (r_assign rfl) fun ac180 hf180 => ?_)
  refine seq_end ?_
  clear ac177 hf177 ac178 hf178 ac179 hf179
  refine then_normal ?_
  refine rounds_go ?_
  refine code_seq ?_
  refine code_seq ?_
  refine seq_start (l := [0, 1]) rfl ?_
  refine seq_one (op_val (v := .int .i64 8) hf180 rfl rfl rfl rfl rfl rfl (r_move rfl) fun ac181 hf181 => ?_)
  refine seq_one (op_val (v := .bool true) hf181 rfl rfl rfl rfl rfl rfl (r_lssC rfl rfl (by decide)) fun ac182 hf182 => ?_)
  refine seq_end ?_
  clear ac180 hf180 ac181 hf181
  refine then_normal ?_
  refine code_if_true hf182 rfl ?_
  refine wp_skip ?_
  refine then_normal ?_
  refine code_seq ?_
  refine wp_block ?_
  refine code_seq ?_
  refine seq_start (l := [0, 1, 2]) rfl ?_
  refine seq_one (op_val (v := .int .i64 8) hf182 rfl rfl rfl rfl rfl rfl (r_move rfl) fun ac183 hf183 => ?_)
  refine seq_one (op_val (v := .pointer (some ⟨b2, 8, none⟩)) hf183 rfl rfl rfl rfl rfl rfl (r_indexAddr (i := 8) ar_22 rfl rfl rfl (by decide) rfl) fun ac184 hf184 => ?_)
  refine seq_one (op_store (cs' := #[.int .u8 1, .int .u8 2, .int .u8 2, .int .u8 2, .int .u8 1, .int .u8 2, .int .u8 1, .int .u8 1, .int .u8 1, .int .u8 0, .int .u8 0, .int .u8 0, .int .u8 0, .int .u8 0, .int .u8 0, .int .u8 0]) 1 hf184 rfl rfl rfl rfl rfl sz_5 hI29 rfl (by decide) (by kernel_rfl) fun wd15 hI30 => ?_)
  have hI31 : Inv w [(b1, #[.int .u8 0, .int .u8 0, .int .u8 0, .int .u8 0, .int .u8 0, .int .u8 0, .int .u8 0, .int .u8 0, .int .u8 0, .int .u8 0, .int .u8 0, .int .u8 0, .int .u8 0, .int .u8 0, .int .u8 0, .int .u8 0], 22), (b2, #[.int .u8 1, .int .u8 2, .int .u8 2, .int .u8 2, .int .u8 1, .int .u8 2, .int .u8 1, .int .u8 1, .int .u8 1, .int .u8 0, .int .u8 0, .int .u8 0, .int .u8 0, .int .u8 0, .int .u8 0, .int .u8 0], 22)] wd15 := hI30
  refine seq_end ?_
  clear ac182 hf182 ac183 hf183 wd14 hI29 hI30
  refine then_normal ?_
  refine code_seq ?_
  refine seq_start (l := [0, 1, 2, 3, 4, 5, 6, 7, 8, 9, 10, 11, 12, 13]) rfl ?_
  refine seq_one (op_val (v := .int .i64 8) hf184 rfl rfl rfl rfl rfl rfl (r_move rfl) fun ac185 hf185 => ?_)
  refine seq_one (op_val (v := .bool false) hf185 rfl rfl rfl rfl rfl rfl (r_eqlC rfl rfl (by decide)) fun ac186 hf186 => ?_)
  refine seq_one (op_val (v := .bool false) hf186 rfl rfl rfl rfl rfl rfl (r_move rfl) fun ac187 hf187 => ?_)
  refine seq_one (op_val (v := .int .i64 8) hf187 rfl rfl rfl rfl rfl rfl (r_move rfl) fun ac188 hf188 => ?_)
  refine seq_one (op_val (v := .bool false) hf188 rfl rfl rfl rfl rfl rfl (r_eqlC rfl rfl (by decide)) fun ac189 hf189 => ?_)
  refine seq_one (op_val (v := .bool false) hf189 rfl rfl rfl rfl rfl rfl (r_pickF rfl rfl) fun ac190 hf190 => ?_)
  refine seq_one (op_val (v := .bool false) hf190 rfl rfl rfl rfl rfl rfl (r_move rfl) fun ac191 hf191 => ?_)
  refine seq_one (op_val (v := .int .i64 8) hf191 rfl rfl rfl rfl rfl rfl (r_move rfl) fun ac192 hf192 => ?_)
  refine seq_one (op_val (v := .bool false) hf192 rfl rfl rfl rfl rfl rfl (r_eqlC rfl rfl (by decide)) fun ac193 hf193 => ?_)
  refine seq_one (op_val (v := .bool false) hf193 rfl rfl rfl rfl rfl rfl (r_pickF rfl rfl) fun ac194 hf194 => ?_)
  refine seq_one (op_val (v := .bool false) hf194 rfl rfl rfl rfl rfl rfl (r_move rfl) fun ac195 hf195 => ?_)
  refine seq_one (op_val (v := .int .i64 8) hf195 rfl rfl rfl rfl rfl rfl (r_move rfl) fun ac196 hf196 => ?_)
  refine seq_one (op_val (v := .bool false) hf196 rfl rfl rfl rfl rfl rfl (r_eqlC rfl rfl (by decide)) fun ac197 hf197 => ?_)
  refine seq_one (op_val (v := .bool false) hf197 rfl rfl rfl rfl rfl rfl (r_pickF rfl rfl) fun ac198 hf198 => ?_)
  refine seq_end ?_
  clear ac184 hf184 ac185 hf185 ac186 hf186 ac187 hf187 ac188 hf188 ac189 hf189 ac190 hf190 ac191 hf191 ac192 hf192 ac193 hf193 ac194 hf194 ac195 hf195 ac196 hf196 ac197 hf197
  refine then_normal ?_
  refine code_if_false hf198 rfl ?_
  refine wp_skip ?_
  refine block_normal ?_
  refine then_normal ?_
  refine seq_start (l := [0, 1, 2]) rfl ?_
  refine seq_one (op_val (v := .int .i64 8) hf198 rfl rfl rfl rfl rfl rfl (r_move rfl) fun ac199 hf199 => ?_)
  refine seq_one (op_val (v := .int .i64 9) hf199 rfl rfl rfl rfl rfl rfl (r_add (c := 9) rfl rfl (by rfl)) fun ac200 hf200 => ?_)
  refine seq_one (op_val (v := .int .i64 9) hf200 rfl rfl rfl rfl rfl rfl (r_assign rfl) fun ac201 hf201 => ?_)
  refine seq_end ?_
  clear ac198 hf198 ac199 hf199 ac200 hf200
  refine then_normal ?_
  refine rounds_go ?_
  refine code_seq ?_
  refine code_seq ?_
  refine seq_start (l := [0, 1]) rfl ?_
  refine seq_one (op_val (v := .int .i64 9) hf201 rfl rfl rfl rfl rfl rfl (r_move rfl) fun ac202 hf202 => ?_)
  refine seq_one (op_val (v := .bool true) hf202 rfl rfl rfl rfl rfl rfl (r_lssC rfl rfl (by decide)) fun ac203 hf203 => ?_)
  refine seq_end ?_
  clear ac201 hf201 ac202 hf202
  refine then_normal ?_
  refine code_if_true hf203 rfl ?_
  refine wp_skip ?_
  refine then_normal ?_
  refine code_seq ?_
  refine wp_block ?_
  refine code_seq ?_
  refine seq_start (l := [0, 1, 2]) rfl ?_
  refine seq_one (op_val (v := .int .i64 9) hf203 rfl rfl rfl rfl rfl rfl (r_move rfl) fun ac204 hf204 => ?_)
  refine seq_one (op_val (v := .pointer (some ⟨b2, 9, none⟩)) hf204 rfl rfl rfl rfl rfl rfl (r_indexAddr (i := 9) ar_22 rfl rfl rfl (by decide) rfl) fun ac205 hf205 => ?_)
  refine seq_one (op_store (cs' := #[.int .u8 1, .int .u8 2, .int .u8 2, .int .u8 2, .int .u8 1, .int .u8 2, .int .u8 1, .int .u8 1, .int .u8 1, .int .u8 1, .int .u8 0, .int .u8 0, .int .u8 0, .int .u8 0, .int .u8 0, .int .u8 0]) 1 hf205 rfl rfl rfl rfl rfl sz_5 hI31 rfl (by decide) (by kernel_rfl) fun wd16 hI32 => ?_)
  have hI33 : Inv w [(b1, #[.int .u8 0, .int .u8 0, .int .u8 0, .int .u8 0, .int .u8 0, .int .u8 0, .int .u8 0, .int .u8 0, .int .u8 0, .int .u8 0, .int .u8 0, .int .u8 0, .int .u8 0, .int .u8 0, .int .u8 0, .int .u8 0], 22), (b2, #[.int .u8 1, .int .u8 2, .int .u8 2, .int .u8 2, .int .u8 1, .int .u8 2, .int .u8 1, .int .u8 1, .int .u8 1, .int .u8 1, .int .u8 0, .int .u8 0, .int .u8 0, .int .u8 0, .int .u8 0, .int .u8 0], 22)] wd16 := hI32
  refine seq_end ?_
  clear ac203 hf203 ac204 hf204 wd15 hI31 hI32
  refine then_normal ?_
  refine code_seq ?_
  refine seq_start (l := [0, 1, 2, 3, 4, 5, 6, 7, 8, 9, 10, 11, 12, 13]) rfl ?_
  refine seq_one (op_val (v := .int .i64 9) hf205 rfl rfl rfl rfl rfl rfl (r_move rfl) fun ac206 hf206 => ?_)
  refine seq_one (op_val (v := .bool false) hf206 rfl rfl rfl rfl rfl rfl (r_eqlC rfl rfl (by decide)) fun ac207 hf207 => ?_)
  refine seq_one (op_val (v := .bool false) hf207 rfl rfl rfl rfl rfl rfl (r_move rfl) fun ac208 hf208 => ?_)
  refine seq_one (op_val (v := .int .i64 9) hf208 rfl rfl rfl rfl rfl rfl (r_move rfl) fun ac209 hf209 => ?_)
  refine seq_one (op_val (v := .bool false) hf209 rfl rfl rfl rfl rfl rfl (r_eqlC rfl rfl (by decide)) fun ac210 hf210 => ?_)
  refine seq_one (op_val (v := .bool false) hf210 rfl rfl rfl rfl rfl rfl (r_pickF rfl rfl) fun ac211 hf211 => ?_)
  refine seq_one (op_val (v := .bool false) hf211 rfl rfl rfl rfl rfl rfl (r_move rfl) fun ac212 hf212 => ?_)
  refine seq_one (op_val (v := .int .i64 9) hf212 rfl rfl rfl rfl rfl rfl (r_move rfl) fun ac213 hf213 => ?_)
  refine seq_one (op_val (v := .bool false) hf213 rfl rfl rfl rfl rfl rfl (r_eqlC rfl rfl (by decide)) fun ac214 hf214 => ?_)
  refine seq_one (op_val (v := .bool false) hf214 rfl rfl rfl rfl rfl rfl (r_pickF rfl rfl) fun ac215 hf215 => ?_)
  refine seq_one (op_val (v := .bool false) hf215 rfl rfl rfl rfl rfl rfl (r_move rfl) fun ac216 hf216 => ?_)
  refine seq_one (op_val (v := .int .i64 9) hf216 rfl rfl rfl rfl rfl rfl (r_move rfl) fun ac217 hf217 => ?_)
  refine seq_one (op_val (v := .bool false) hf217 rfl rfl rfl rfl rfl rfl (r_eqlC rfl rfl (by decide)) fun ac218 hf218 => ?_)
  refine seq_one (op_val (v := .bool false) hf218 rfl rfl rfl rfl rfl rfl (r_pickF rfl rfl) fun ac219 hf219 => ?_)
  refine seq_end ?_
  clear ac205 hf205 ac206 hf206 ac207 hf207 ac208 hf208 ac209 hf209 ac210 hf210 ac211 hf211 ac212 hf212 ac213 hf213 ac214 hf214 ac215 hf215 ac216 hf216 ac217 hf217 ac218 hf218
  refine then_normal ?_
  refine code_if_false hf219 rfl ?_
  refine wp_skip ?_
  refine block_normal ?_
  refine then_normal ?_
  refine seq_start (l := [0, 1, 2]) rfl ?_
  refine seq_one (op_val (v := .int .i64 9) hf219 rfl rfl rfl rfl rfl rfl (r_move rfl) fun ac220 hf220 => ?_)
  refine seq_one (op_val (v := .int .i64 10) hf220 rfl rfl rfl rfl rfl rfl (r_add (c := 10) rfl rfl (by rfl)) fun ac221 hf221 => ?_)
  refine seq_one (op_val (v := .int .i64 10) hf221 rfl rfl rfl rfl rfl rfl (r_assign rfl) fun ac222 hf222 => ?_)
  refine seq_end ?_
  clear ac219 hf219 ac220 hf220 ac221 hf221
  refine then_normal ?_
  refine rounds_go ?_
  refine code_seq ?_
  refine code_seq ?_
  refine seq_start (l := [0, 1]) rfl ?_
  refine seq_one (op_val (v := .int .i64 10) hf222 rfl rfl rfl rfl rfl rfl (r_move rfl) fun ac223 hf223 => ?_)
  refine seq_one (op_val (v := .bool true) hf223 rfl rfl rfl rfl rfl rfl (r_lssC rfl rfl (by decide)) fun ac224 hf224 => ?_)
  refine seq_end ?_
  clear ac222 hf222 ac223 hf223
  refine then_normal ?_
  refine code_if_true hf224 rfl ?_
  refine wp_skip ?_
  refine then_normal ?_
  refine code_seq ?_
  refine wp_block ?_
  refine code_seq ?_
  refine seq_start (l := [0, 1, 2]) rfl ?_
  refine seq_one (op_val (v := .int .i64 10) hf224 rfl rfl rfl rfl rfl rfl (r_move rfl) fun ac225 hf225 => ?_)
  refine seq_one (op_val (v := .pointer (some ⟨b2, 10, none⟩)) hf225 rfl rfl rfl rfl rfl rfl (r_indexAddr (i := 10) ar_22 rfl rfl rfl (by decide) rfl) fun ac226 hf226 => ?_)
  refine seq_one (op_store (cs' := #[.int .u8 1, .int .u8 2, .int .u8 2, .int .u8 2, .int .u8 1, .int .u8 2, .int .u8 1, .int .u8 1, .int .u8 1, .int .u8 1, .int .u8 1, .int .u8 0, .int .u8 0, .int .u8 0, .int .u8 0, .int .u8 0]) 1 hf226 rfl rfl rfl rfl rfl sz_5 hI33 rfl (by decide) (by kernel_rfl) fun wd17 hI34 => ?_)
  have hI35 : Inv w [(b1, #[.int .u8 0, .int .u8 0, .int .u8 0, .int .u8 0, .int .u8 0, .int .u8 0, .int .u8 0, .int .u8 0, .int .u8 0, .int .u8 0, .int .u8 0, .int .u8 0, .int .u8 0, .int .u8 0, .int .u8 0, .int .u8 0], 22), (b2, #[.int .u8 1, .int .u8 2, .int .u8 2, .int .u8 2, .int .u8 1, .int .u8 2, .int .u8 1, .int .u8 1, .int .u8 1, .int .u8 1, .int .u8 1, .int .u8 0, .int .u8 0, .int .u8 0, .int .u8 0, .int .u8 0], 22)] wd17 := hI34
  refine seq_end ?_
  clear ac224 hf224 ac225 hf225 wd16 hI33 hI34
  refine then_normal ?_
  refine code_seq ?_
  refine seq_start (l := [0, 1, 2, 3, 4, 5, 6, 7, 8, 9, 10, 11, 12, 13]) rfl ?_
  refine seq_one (op_val (v := .int .i64 10) hf226 rfl rfl rfl rfl rfl rfl (r_move rfl) fun ac227 hf227 => ?_)
  refine seq_one (op_val (v := .bool false) hf227 rfl rfl rfl rfl rfl rfl (r_eqlC rfl rfl (by decide)) fun ac228 hf228 => ?_)
  refine seq_one (op_val (v := .bool false) hf228 rfl rfl rfl rfl rfl rfl (r_move rfl) fun ac229 hf229 => ?_)
  refine seq_one (op_val (v := .int .i64 10) hf229 rfl rfl rfl rfl rfl rfl (r_move rfl) fun ac230 hf230 => ?_)
  refine seq_one (op_val (v := .bool false) hf230 rfl rfl rfl rfl rfl rfl (r_eqlC rfl rfl (by decide)) fun ac231 hf231 => ?_)
  refine seq_one (op_val (v := .bool false) hf231 rfl rfl rfl rfl rfl rfl (r_pickF rfl rfl) fun ac232 hf232 => ?_)
  refine seq_one (op_val (v := .bool false) hf232 rfl rfl rfl rfl rfl rfl (r_move rfl) fun ac233 hf233 => ?_)
  refine seq_one (op_val (v := .int .i64 10) hf233 rfl rfl rfl rfl rfl rfl (r_move rfl) fun ac234 hf234 => ?_)
  refine seq_one (op_val (v := .bool false) hf234 rfl rfl rfl rfl rfl rfl (r_eqlC rfl rfl (by decide)) fun ac235 hf235 => ?_)
  refine seq_one (op_val (v := .bool false) hf235 rfl rfl rfl rfl rfl rfl (r_pickF rfl rfl) fun ac236 hf236 => ?_)
  refine seq_one (op_val (v := .bool false) hf236 rfl rfl rfl rfl rfl rfl (r_move rfl) fun ac237 hf237 => ?_)
  refine seq_one (op_val (v := .int .i64 10) hf237 rfl rfl rfl rfl rfl rfl (r_move rfl) fun ac238 hf238 => ?_)
  refine seq_one (op_val (v := .bool false) hf238 rfl rfl rfl rfl rfl rfl (r_eqlC rfl rfl (by decide)) fun ac239 hf239 => ?_)
  refine seq_one (op_val (v := .bool false) hf239 rfl rfl rfl rfl rfl rfl (r_pickF rfl rfl) fun ac240 hf240 => ?_)
  refine seq_end ?_
  clear ac226 hf226 ac227 hf227 ac228 hf228 ac229 hf229 ac230 hf230 ac231 hf231 ac232 hf232 ac233 hf233 ac234 hf234 ac235 hf235 ac236 hf236 ac237 hf237 ac238 hf238 ac239 hf239
  refine then_normal ?_
  refine code_if_false hf240 rfl ?_
  refine wp_skip ?_
  refine block_normal ?_
  refine then_normal ?_
  refine seq_start (l := [0, 1, 2]) rfl ?_
  refine seq_one (op_val (v := .int .i64 10) hf240 rfl rfl rfl rfl rfl rfl (r_move rfl) fun ac241 hf241 => ?_)
  refine seq_one (op_val (v := .int .i64 11) hf241 rfl rfl rfl rfl rfl rfl (r_add (c := 11) rfl rfl (by rfl)) fun ac242 hf242 => ?_)
  refine seq_one (op_val (v := .int .i64 11) hf242 rfl rfl rfl rfl rfl rfl (r_assign rfl) fun ac243 hf243 => ?_)
  refine seq_end ?_
  clear ac240 hf240 ac241 hf241 ac242 hf242
  refine then_normal ?_
  refine rounds_go ?_
  refine code_seq ?_
  refine code_seq ?_
  refine seq_start (l := [0, 1]) rfl ?_
  refine seq_one (op_val (v := .int .i64 11) hf243 rfl rfl rfl rfl rfl rfl (r_move rfl) fun ac244 hf244 => ?_)
  refine seq_one (op_val (v := .bool true) hf244 rfl rfl rfl rfl rfl rfl (r_lssC rfl rfl (by decide)) fun ac245 hf245 => ?_)
  refine seq_end ?_
  clear ac243 hf243 ac244 hf244
  refine then_normal ?_
  refine code_if_true hf245 rfl ?_
  refine wp_skip ?_
  refine then_normal ?_
  refine code_seq ?_
  refine wp_block ?_
  refine code_seq ?_
  refine seq_start (l := [0, 1, 2]) rfl ?_
  refine seq_one (op_val (v := .int .i64 11) hf245 rfl rfl rfl rfl rfl rfl (r_move rfl) fun ac246 hf246 => ?_)
  refine seq_one (op_val (v := .pointer (some ⟨b2, 11, none⟩)) hf246 rfl rfl rfl rfl rfl rfl (r_indexAddr (i := 11) ar_22 rfl rfl rfl (by decide) rfl) fun ac247 hf247 => ?_)
  refine seq_one (op_store (cs' := #[.int .u8 1, .int .u8 2, .int .u8 2, .int .u8 2, .int .u8 1, .int .u8 2, .int .u8 1, .int .u8 1, .int .u8 1, .int .u8 1, .int .u8 1, .int .u8 1, .int .u8 0, .int .u8 0, .int .u8 0, .int .u8 0]) 1 hf247 rfl rfl rfl rfl rfl sz_5 hI35 rfl (by decide) (by kernel_rfl) fun wd18 hI36 => ?_)
  have hI37 : Inv w [(b1, #[.int .u8 0, .int .u8 0, .int .u8 0, .int .u8 0, .int .u8 0, .int .u8 0, .int .u8 0, .int .u8 0, .int .u8 0, .int .u8 0, .int .u8 0, .int .u8 0, .int .u8 0, .int .u8 0, .int .u8 0, .int .u8 0], 22), (b2, #[.int .u8 1, .int .u8 2, .int .u8 2, .int .u8 2, .int .u8 1, .int .u8 2, .int .u8 1, .int .u8 1, .int .u8 1, .int .u8 1, .int .u8 1, .int .u8 1, .int .u8 0, .int .u8 0, .int .u8 0, .int .u8 0], 22)] wd18 := hI36
  refine seq_end ?_
  clear ac245 hf245 ac246 hf246 wd17 hI35 hI36
  refine then_normal ?_
  refine code_seq ?_
  refine seq_start (l := [0, 1, 2, 3, 4, 5, 6, 7, 8, 9, 10, 11, 12, 13]) rfl ?_
  refine seq_one (op_val (v := .int .i64 11) hf247 rfl rfl rfl rfl rfl rfl (r_move rfl) fun ac248 hf248 => ?_)
  refine seq_one (op_val (v := .bool false) hf248 rfl rfl rfl rfl rfl rfl (r_eqlC rfl rfl (by decide)) fun ac249 hf249 => ?_)
  refine seq_one (op_val (v := .bool false) hf249 rfl rfl rfl rfl rfl rfl (r_move rfl) fun ac250 hf250 => ?_)
  refine seq_one (op_val (v := .int .i64 11) hf250 rfl rfl rfl rfl rfl rfl (r_move rfl) fun ac251 hf251 => ?_)
  refine seq_one (op_val (v := .bool false) hf251 rfl rfl rfl rfl rfl rfl (r_eqlC rfl rfl (by decide)) fun ac252 hf252 => ?_)
  refine seq_one (op_val (v := .bool false) hf252 rfl rfl rfl rfl rfl rfl (r_pickF rfl rfl) fun ac253 hf253 => ?_)
  refine seq_one (op_val (v := .bool false) hf253 rfl rfl rfl rfl rfl rfl (r_move rfl) fun ac254 hf254 => ?_)
  refine seq_one (op_val (v := .int .i64 11) hf254 rfl rfl rfl rfl rfl rfl (r_move rfl) fun ac255 hf255 => ?_)
  refine seq_one (op_val (v := .bool false) hf255 rfl rfl rfl rfl rfl rfl (r_eqlC rfl rfl (by decide)) fun ac256 hf256 => ?_)
  refine seq_one (op_val (v := .bool false) hf256 rfl rfl rfl rfl rfl rfl (r_pickF rfl rfl) fun ac257 hf257 => ?_)
  refine seq_one (op_val (v := .bool false) hf257 rfl rfl rfl rfl rfl rfl (r_move rfl) fun ac258 hf258 => ?_)
  refine seq_one (op_val (v := .int .i64 11) hf258 rfl rfl rfl rfl rfl rfl (r_move rfl) fun ac259 hf259 => ?_)
  refine seq_one (op_val (v := .bool false) hf259 rfl rfl rfl rfl rfl rfl (r_eqlC rfl rfl (by decide)) fun ac260 hf260 => ?_)
  refine seq_one (op_val (v := .bool false) hf260 rfl rfl rfl rfl rfl rfl (r_pickF rfl rfl) fun ac261 hf261 => ?_)
  refine seq_end ?_
  clear ac247 hf247 ac248 hf248 ac249 hf249 ac250 hf250 ac251 hf251 ac252 hf252 ac253 hf253 ac254 hf254 ac255 hf255 ac256 hf256 ac257 hf257 ac258 hf258 ac259 hf259 ac260 hf260
  refine then_normal ?_
  refine code_if_false hf261 rfl ?_
  refine wp_skip ?_
  refine block_normal ?_
  refine then_normal ?_
  refine seq_start (l := [0, 1, 2]) rfl ?_
  refine seq_one (op_val (v := .int .i64 11) hf261 rfl rfl rfl rfl rfl rfl (r_move rfl) fun ac262 hf262 => ?_)
  refine seq_one (op_val (v := .int .i64 12) hf262 rfl rfl rfl rfl rfl rfl (r_add (c := 12) rfl rfl (by rfl)) fun ac263 hf263 => ?_)
  refine seq_one (op_val (v := .int .i64 12) hf263 rfl rfl rfl rfl rfl rfl (r_assign rfl) fun ac264 hf264 => ?_)
  refine seq_end ?_
  clear ac261 hf261 ac262 hf262 ac263 hf263
  refine then_normal ?_
  refine rounds_go ?_
  refine code_seq ?_
  refine code_seq ?_
  refine seq_start (l := [0, 1]) rfl ?_
  refine seq_one (op_val (v := .int .i64 12) hf264 rfl rfl rfl rfl rfl rfl (r_move rfl) fun ac265 hf265 => ?_)
  refine seq_one (op_val (v := .bool true) hf265 rfl rfl rfl rfl rfl rfl (r_lssC rfl rfl (by decide)) fun ac266 hf266 => ?_)
  refine seq_end ?_
  clear ac264 hf264 ac265 hf265
  refine then_normal ?_
  refine code_if_true hf266 rfl ?_
  refine wp_skip ?_
  refine then_normal ?_
  refine code_seq ?_
  refine wp_block ?_
  refine code_seq ?_
  refine seq_start (l := [0, 1, 2]) rfl ?_
  refine seq_one (op_val (v := .int .i64 12) hf266 rfl rfl rfl rfl rfl rfl (r_move rfl) fun ac267 hf267 => ?_)
  refine seq_one (op_val (v := .pointer (some ⟨b2, 12, none⟩)) hf267 rfl rfl rfl rfl rfl rfl (r_indexAddr (i := 12) ar_22 rfl rfl rfl (by decide) rfl) fun ac268 hf268 => ?_)
  refine seq_one (op_store (cs' := #[.int .u8 1, .int .u8 2, .int .u8 2, .int .u8 2, .int .u8 1, .int .u8 2, .int .u8 1, .int .u8 1, .int .u8 1, .int .u8 1, .int .u8 1, .int .u8 1, .int .u8 1, .int .u8 0, .int .u8 0, .int .u8 0]) 1 hf268 rfl rfl rfl rfl rfl sz_5 hI37 rfl (by decide) (by kernel_rfl) fun wd19 hI38 => ?_)
  have hI39 : Inv w [(b1, #[.int .u8 0, .int .u8 0, .int .u8 0, .int .u8 0, .int .u8 0, .int .u8 0, .int .u8 0, .int .u8 0, .int .u8 0, .int .u8 0, .int .u8 0, .int .u8 0, .int .u8 0, .int .u8 0, .int .u8 0, .int .u8 0], 22), (b2, #[.int .u8 1, .int .u8 2, .int .u8 2, .int .u8 2, .int .u8 1, .int .u8 2, .int .u8 1, .int .u8 1, .int .u8 1, .int .u8 1, .int .u8 1, .int .u8 1, .int .u8 1, .int .u8 0, .int .u8 0, .int .u8 0], 22)] wd19 := hI38
  refine seq_end ?_
  clear ac266 hf266 ac267 hf267 wd18 hI37 hI38
  refine then_normal ?_
  refine code_seq ?_
  refine seq_start (l := [0, 1, 2, 3, 4, 5, 6, 7, 8, 9, 10, 11, 12, 13]) rfl ?_
  refine seq_one (op_val (v := .int .i64 12) hf268 rfl rfl rfl rfl rfl rfl (r_move rfl) fun ac269 hf269 => ?_)
  refine seq_one (op_val (v := .bool false) hf269 rfl rfl rfl rfl rfl rfl (r_eqlC rfl rfl (by decide)) fun ac270 hf270 => ?_)
  refine seq_one (op_val (v := .bool false) hf270 rfl rfl rfl rfl rfl rfl (r_move rfl) fun ac271 hf271 => ?_)
  refine seq_one (op_val (v := .int .i64 12) hf271 rfl rfl rfl rfl rfl rfl (r_move rfl) fun ac272 hf272 => ?_)
  refine seq_one (op_val (v := .bool false) hf272 rfl rfl rfl rfl rfl rfl (r_eqlC rfl rfl (by decide)) fun ac273 hf273 => ?_)
  refine seq_one (op_val (v := .bool false) hf273 rfl rfl rfl rfl rfl rfl (r_pickF rfl rfl) fun ac274 hf274 => ?_)
  refine seq_one (op_val (v := .bool false) hf274 rfl rfl rfl rfl rfl rfl (r_move rfl) fun ac275 hf275 => ?_)
  refine seq_one (op_val (v := .int .i64 12) hf275 rfl rfl rfl rfl rfl rfl (r_move rfl) fun ac276 hf276 => ?_)
  refine seq_one (op_val (v := .bool false) hf276 rfl rfl rfl rfl rfl rfl (r_eqlC rfl rfl (by decide)) fun ac277 hf277 => ?_)
  refine seq_one (op_val (v := .bool false) hf277 rfl rfl rfl rfl rfl rfl (r_pickF rfl rfl) fun ac278 hf278 => ?_)
  refine seq_one (op_val (v := .bool false) hf278 rfl rfl rfl rfl rfl rfl (r_move rfl) fun ac279 hf279 => ?_)
  refine seq_one (op_val (v := .int .i64 12) hf279 rfl rfl rfl rfl rfl rfl (r_move rfl) fun ac280 hf280 => ?_)
  refine seq_one (op_val (v := .bool false) hf280 rfl rfl rfl rfl rfl rfl (r_eqlC rfl rfl (by decide)) fun ac281 hf281 => ?_)
  refine seq_one (op_val (v := .bool false) hf281 rfl rfl rfl rfl rfl rfl (r_pickF rfl rfl) fun ac282 hf282 => ?_)
  refine seq_end ?_
  clear ac268 hf268 ac269 hf269 ac270 hf270 ac271 hf271 ac272 hf272 ac273 hf273 ac274 hf274 ac275 hf275 ac276 hf276 ac277 hf277 ac278 hf278 ac279 hf279 ac280 hf280 ac281 hf281
  refine then_normal ?_
  refine code_if_false hf282 rfl ?_
  refine wp_skip ?_
  refine block_normal ?_
  refine then_normal ?_
  refine seq_start (l := [0, 1, 2]) rfl ?_
  refine seq_one (op_val (v := .int .i64 12) hf282 rfl rfl rfl rfl rfl rfl (r_move rfl) fun ac283 hf283 => ?_)
  refine seq_one (op_val (v := .int .i64 13) hf283 rfl rfl rfl rfl rfl rfl (r_add (c := 13) rfl rfl (by rfl)) fun ac284 hf284 => ?_)
  refine seq_one (op_val (v := .int .i64 13) hf284 rfl rfl rfl rfl rfl rfl (r_assign rfl) fun ac285 hf285 => ?_)
  refine seq_end ?_
  clear ac282 hf282 ac283 hf283 ac284 hf284
  refine then_normal ?_
  refine rounds_go ?_
  refine code_seq ?_
  refine code_seq ?_
  refine seq_start (l := [0, 1]) rfl ?_
  refine seq_one (op_val (v := .int .i64 13) hf285 rfl rfl rfl rfl rfl rfl (r_move rfl) fun ac286 hf286 => ?_)
  refine seq_one (op_val (v := .bool true) hf286 rfl rfl rfl rfl rfl rfl (r_lssC rfl rfl (by decide)) fun ac287 hf287 => ?_)
  refine seq_end ?_
  clear ac285 hf285 ac286 hf286
  refine then_normal ?_
  refine code_if_true hf287 rfl ?_
  refine wp_skip ?_
  refine then_normal ?_
  refine code_seq ?_
  refine wp_block ?_
  refine code_seq ?_
  refine seq_start (l := [0, 1, 2]) rfl ?_
  refine seq_one (op_val (v := .int .i64 13) hf287 rfl rfl rfl rfl rfl rfl (r_move rfl) fun ac288 hf288 => ?_)
  refine seq_one (op_val (v := .pointer (some ⟨b2, 13, none⟩)) hf288 rfl rfl rfl rfl rfl rfl (r_indexAddr (i := 13) ar_22 rfl rfl rfl (by decide) rfl) fun ac289 hf289 => ?_)
  refine seq_one (op_store (cs' := #[.int .u8 1, .int .u8 2, .int .u8 2, .int .u8 2, .int .u8 1, .int .u8 2, .int .u8 1, .int .u8 1, .int .u8 1, .int .u8 1, .int .u8 1, .int .u8 1, .int .u8 1, .int .u8 1, .int .u8 0, .int .u8 0]) 1 hf289 rfl rfl rfl rfl rfl sz_5 hI39 rfl (by decide) (by kernel_rfl) fun wd20 hI40 => ?_)
  have hI41 : Inv w [(b1, #[.int .u8 0, .int .u8 0, .int .u8 0, .int .u8 0, .int .u8 0, .int .u8 0, .int .u8 0, .int .u8 0, .int .u8 0, .int .u8 0, .int .u8 0, .int .u8 0, .int .u8 0, .int .u8 0, .int .u8 0, .int .u8 0], 22), (b2, #[.int .u8 1, .int .u8 2, .int .u8 2, .int .u8 2, .int .u8 1, .int .u8 2, .int .u8 1, .int .u8 1, .int .u8 1, .int .u8 1, .int .u8 1, .int .u8 1, .int .u8 1, .int .u8 1, .int .u8 0, .int .u8 0], 22)] wd20 := hI40
  refine seq_end ?_
  clear ac287 hf287 ac288 hf288 wd19 hI39 hI40
  refine then_normal ?_
  refine code_seq ?_
  refine seq_start (l := [0, 1, 2, 3, 4, 5, 6, 7, 8, 9, 10, 11, 12, 13]) rfl ?_
  refine seq_one (op_val (v := .int .i64 13) hf289 rfl rfl rfl rfl rfl rfl (r_move rfl) fun ac290 hf290 => ?_)
  refine seq_one (op_val (v := .bool false) hf290 rfl rfl rfl rfl rfl rfl (r_eqlC rfl rfl (by decide)) fun ac291 hf291 => ?_)
  refine seq_one (op_val (v := .bool false) hf291 rfl rfl rfl rfl rfl rfl (r_move rfl) fun ac292 hf292 => ?_)
  refine seq_one (op_val (v := .int .i64 13) hf292 rfl rfl rfl rfl rfl rfl (r_move rfl) fun ac293 hf293 => ?_)
  refine seq_one (op_val (v := .bool false) hf293 rfl rfl rfl rfl rfl rfl (r_eqlC rfl rfl (by decide)) fun ac294 hf294 => ?_)
  refine seq_one (op_val (v := .bool false) hf294 rfl rfl rfl rfl rfl rfl (r_pickF rfl rfl) fun ac295 hf295 => ?_)
  refine seq_one (op_val (v := .bool false) hf295 rfl rfl rfl rfl rfl rfl (r_move rfl) fun ac296 hf296 => ?_)
  refine seq_one (op_val (v := .int .i64 13) hf296 rfl rfl rfl rfl rfl rfl (r_move rfl) fun ac297 hf297 => ?_)
  refine seq_one (op_val (v := .bool false) hf297 rfl rfl rfl rfl rfl rfl (r_eqlC rfl rfl (by decide)) fun ac298 hf298 => ?_)
  refine seq_one (op_val (v := .bool false) hf298 rfl rfl rfl rfl rfl rfl (r_pickF rfl rfl) fun ac299 hf299 => ?_)
  refine seq_one (op_val (v := .bool false) hf299 rfl rfl rfl rfl rfl rfl (r_move rfl) fun ac300 hf300 => ?_)
  refine seq_one (op_val (v := .int .i64 13) hf300 rfl rfl rfl rfl rfl rfl (r_move rfl) fun ac301 hf301 => ?_)
  refine seq_one (op_val (v := .bool false) hf301 rfl rfl rfl rfl rfl rfl (r_eqlC rfl rfl (by decide)) fun ac302 hf302 => ?_)
  refine seq_one (op_val (v := .bool false) hf302 rfl rfl rfl rfl rfl rfl (r_pickF rfl rfl) fun ac303 hf303 => ?_)
  refine seq_end ?_
  clear ac289 hf289 ac290 hf290 ac291 hf291 ac292 hf292 ac293 hf293 ac294 hf294 ac295 hf295 ac296 hf296 ac297 hf297 ac298 hf298 ac299 hf299 ac300 hf300 ac301 hf301 ac302 hf302
  refine then_normal ?_
  refine code_if_false hf303 rfl ?_
  refine wp_skip ?_
  refine block_normal ?_
  refine then_normal ?_
  refine seq_start (l := [0, 1, 2]) rfl ?_
  refine seq_one (op_val (v := .int .i64 13) hf303 rfl rfl rfl rfl rfl rfl (r_move rfl) fun ac304 hf304 => ?_)
  refine seq_one (op_val (v := .int .i64 14) hf304 rfl rfl rfl rfl rfl rfl (r_add (c := 14) rfl rfl (by rfl)) fun ac305 hf305 => ?_)
  refine seq_one (op_val (v := .int .i64 14) hf305 rfl rfl rfl rfl rfl rfl (r_assign rfl) fun ac306 hf306 => ?_)
  refine seq_end ?_
  clear ac303 hf303 ac304 hf304 ac305 hf305
  refine then_normal ?_
  refine rounds_go ?_
  refine code_seq ?_
  refine code_seq ?_
  refine seq_start (l := [0, 1]) rfl ?_
  refine seq_one (op_val (v := .int .i64 14) hf306 rfl rfl rfl rfl rfl rfl (r_move rfl) fun ac307 hf307 => ?_)
  refine seq_one (op_val (v := .bool true) hf307 rfl rfl rfl rfl rfl rfl (r_lssC rfl rfl (by decide)) fun ac308 hf308 => ?_)
  refine seq_end ?_
  clear ac306 hf306 ac307 hf307
  refine then_normal ?_
  refine code_if_true hf308 rfl ?_
  refine wp_skip ?_
  refine then_normal ?_
  refine code_seq ?_
  refine wp_block ?_
  refine code_seq ?_
  refine seq_start (l := [0, 1, 2]) rfl ?_
  refine seq_one (op_val (v := .int .i64 14) hf308 rfl rfl rfl rfl rfl rfl (r_move rfl) fun ac309 hf309 => ?_)
  refine seq_one (op_val (v := .pointer (some ⟨b2, 14, none⟩)) hf309 rfl rfl rfl rfl rfl rfl (r_indexAddr (i := 14) ar_22 rfl rfl rfl (by decide) rfl) fun ac310 hf310 => ?_)
  refine seq_one (op_store (cs' := #[.int .u8 1, .int .u8 2, .int .u8 2, .int .u8 2, .int .u8 1, .int .u8 2, .int .u8 1, .int .u8 1, .int .u8 1, .int .u8 1, .int .u8 1, .int .u8 1, .int .u8 1, .int .u8 1, .int .u8 1, .int .u8 0]) 1 hf310 rfl rfl rfl rfl rfl sz_5 hI41 rfl (by decide) (by kernel_rfl) fun wd21 hI42 => ?_)
  have hI43 : Inv w [(b1, #[.int .u8 0, .int .u8 0, .int .u8 0, .int .u8 0, .int .u8 0, .int .u8 0, .int .u8 0, .int .u8 0, .int .u8 0, .int .u8 0, .int .u8 0, .int .u8 0, .int .u8 0, .int .u8 0, .int .u8 0, .int .u8 0], 22), (b2, #[.int .u8 1, .int .u8 2, .int .u8 2, .int .u8 2, .int .u8 1, .int .u8 2, .int .u8 1, .int .u8 1, .int .u8 1, .int .u8 1, .int .u8 1, .int .u8 1, .int .u8 1, .int .u8 1, .int .u8 1, .int .u8 0], 22)] wd21 := hI42
  refine seq_end ?_
  clear ac308 hf308 ac309 hf309 wd20 hI41 hI42
  refine then_normal ?_
  refine code_seq ?_
  refine seq_start (l := [0, 1, 2, 3, 4, 5, 6, 7, 8, 9, 10, 11, 12, 13]) rfl ?_
  refine seq_one (op_val (v := .int .i64 14) hf310 rfl rfl rfl rfl rfl rfl (r_move rfl) fun ac311 hf311 => ?_)
  refine seq_one (op_val (v := .bool false) hf311 rfl rfl rfl rfl rfl rfl (r_eqlC rfl rfl (by decide)) fun ac312 hf312 => ?_)
  refine seq_one (op_val (v := .bool false) hf312 rfl rfl rfl rfl rfl rfl (r_move rfl) fun ac313 hf313 => ?_)
  refine seq_one (op_val (v := .int .i64 14) hf313 rfl rfl rfl rfl rfl rfl (r_move rfl) fun ac314 hf314 => ?_)
  refine seq_one (op_val (v := .bool false) hf314 rfl rfl rfl rfl rfl rfl (r_eqlC rfl rfl (by decide)) fun ac315 hf315 => ?_)
  refine seq_one (op_val (v := .bool false) hf315 rfl rfl rfl rfl rfl rfl (r_pickF rfl rfl) fun ac316 hf316 => ?_)
  refine seq_one (op_val (v := .bool false) hf316 rfl rfl rfl rfl rfl rfl (r_move rfl) fun ac317 hf317 => ?_)
  refine seq_one (op_val (v := .int .i64 14) hf317 rfl rfl rfl rfl rfl rfl (r_move rfl) fun ac318 hf318 => ?_)
  refine seq_one (op_val (v := .bool false) hf318 rfl rfl rfl rfl rfl rfl (r_eqlC rfl rfl (by decide)) fun ac319 hf319 => ?_)
  refine seq_one (op_val (v := .bool false) hf319 rfl rfl rfl rfl rfl rfl (r_pickF rfl rfl) fun ac320 hf320 => ?_)
  refine seq_one (op_val (v := .bool false) hf320 rfl rfl rfl rfl rfl rfl (r_move rfl) fun ac321 hf321 => ?_)
  refine seq_one (op_val (v := .int .i64 14) hf321 rfl rfl rfl rfl rfl rfl (r_move rfl) fun ac322 hf322 => ?_)
  refine seq_one (op_val (v := .bool false) hf322 rfl rfl rfl rfl rfl rfl (r_eqlC rfl rfl (by decide)) fun ac323 hf323 => ?_)
  refine seq_one (op_val (v := .bool false) hf323 rfl rfl rfl rfl rfl rfl (r_pickF rfl rfl) fun ac324 hf324 => ?_)
  refine seq_end ?_
  clear ac310 hf310 ac311 hf311 ac312 hf312 ac313 hf313 ac314 hf314 ac315 hf315 ac316 hf316 ac317 hf317 ac318 hf318 ac319 hf319 ac320 hf320 ac321 hf321 ac322 hf322 ac323 hf323
  refine then_normal ?_
  refine code_if_false hf324 rfl ?_
  refine wp_skip ?_
  refine block_normal ?_
  refine then_normal ?_
  refine seq_start (l := [0, 1, 2]) rfl ?_
  refine seq_one (op_val (v := .int .i64 14) hf324 rfl rfl rfl rfl rfl rfl (r_move rfl) fun ac325 hf325 => ?_)
  refine seq_one (op_val (v := .int .i64 15) hf325 rfl rfl rfl rfl rfl rfl (r_add (c := 15) rfl rfl (by rfl)) fun ac326 hf326 => ?_)
  refine seq_one (op_val (v := .int .i64 15) hf326 rfl rfl rfl rfl rfl rfl (r_assign rfl) fun ac327 hf327 => ?_)
  refine seq_end ?_
  clear ac324 hf324 ac325 hf325 ac326 hf326
  refine then_normal ?_
  refine rounds_go ?_
  refine code_seq ?_
  refine code_seq ?_
  refine seq_start (l := [0, 1]) rfl ?_
  refine seq_one (op_val (v := .int .i64 15) hf327 rfl rfl rfl rfl rfl rfl (r_move rfl) fun ac328 hf328 => ?_)
  refine seq_one (op_val (v := .bool true) hf328 rfl rfl rfl rfl rfl rfl (r_lssC rfl rfl (by decide)) fun ac329 hf329 => ?_)
  refine seq_end ?_
  clear ac327 hf327 ac328 hf328
  refine then_normal ?_
  refine code_if_true hf329 rfl ?_
  refine wp_skip ?_
  refine then_normal ?_
  refine code_seq ?_
  refine wp_block ?_
  refine code_seq ?_
  refine seq_start (l := [0, 1, 2]) rfl ?_
  refine seq_one (op_val (v := .int .i64 15) hf329 rfl rfl rfl rfl rfl rfl (r_move rfl) fun ac330 hf330 => ?_)
  refine seq_one (op_val (v := .pointer (some ⟨b2, 15, none⟩)) hf330 rfl rfl rfl rfl rfl rfl (r_indexAddr (i := 15) ar_22 rfl rfl rfl (by decide) rfl) fun ac331 hf331 => ?_)
  refine seq_one (op_store (cs' := #[.int .u8 1, .int .u8 2, .int .u8 2, .int .u8 2, .int .u8 1, .int .u8 2, .int .u8 1, .int .u8 1, .int .u8 1, .int .u8 1, .int .u8 1, .int .u8 1, .int .u8 1, .int .u8 1, .int .u8 1, .int .u8 1]) 1 hf331 rfl rfl rfl rfl rfl sz_5 hI43 rfl (by decide) (by kernel_rfl) fun wd22 hI44 => ?_)
  have hI45 : Inv w [(b1, #[.int .u8 0, .int .u8 0, .int .u8 0, .int .u8 0, .int .u8 0, .int .u8 0, .int .u8 0, .int .u8 0, .int .u8 0, .int .u8 0, .int .u8 0, .int .u8 0, .int .u8 0, .int .u8 0, .int .u8 0, .int .u8 0], 22), (b2, #[.int .u8 1, .int .u8 2, .int .u8 2, .int .u8 2, .int .u8 1, .int .u8 2, .int .u8 1, .int .u8 1, .int .u8 1, .int .u8 1, .int .u8 1, .int .u8 1, .int .u8 1, .int .u8 1, .int .u8 1, .int .u8 1], 22)] wd22 := hI44
  refine seq_end ?_
  clear ac329 hf329 ac330 hf330 wd21 hI43 hI44
  refine then_normal ?_
  refine code_seq ?_
  refine seq_start (l := [0, 1, 2, 3, 4, 5, 6, 7, 8, 9, 10, 11, 12, 13]) rfl ?_
  refine seq_one (op_val (v := .int .i64 15) hf331 rfl rfl rfl rfl rfl rfl (r_move rfl) fun ac332 hf332 => ?_)
  refine seq_one (op_val (v := .bool false) hf332 rfl rfl rfl rfl rfl rfl (r_eqlC rfl rfl (by decide)) fun ac333 hf333 => ?_)
  refine seq_one (op_val (v := .bool false) hf333 rfl rfl rfl rfl rfl rfl (r_move rfl) fun ac334 hf334 => ?_)
  refine seq_one (op_val (v := .int .i64 15) hf334 rfl rfl rfl rfl rfl rfl (r_move rfl) fun ac335 hf335 => ?_)
  refine seq_one (op_val (v := .bool false) hf335 rfl rfl rfl rfl rfl rfl (r_eqlC rfl rfl (by decide)) fun ac336 hf336 => ?_)
  refine seq_one (op_val (v := .bool false) hf336 rfl rfl rfl rfl rfl rfl (r_pickF rfl rfl) fun ac337 hf337 => ?_)
  refine seq_one (op_val (v := .bool false) hf337 rfl rfl rfl rfl rfl rfl (r_move rfl) fun ac338 hf338 => ?_)
  refine seq_one (op_val (v := .int .i64 15) hf338 rfl rfl rfl rfl rfl rfl (r_move rfl) fun ac339 hf339 => ?_)
  refine seq_one (op_val (v := .bool false) hf339 rfl rfl rfl rfl rfl rfl (r_eqlC rfl rfl (by decide)) fun ac340 hf340 => ?_)
  refine seq_one (op_val (v := .bool false) hf340 rfl rfl rfl rfl rfl rfl (r_pickF rfl rfl) fun ac341 hf341 => ?_)
  refine seq_one (op_val (v := .bool false) hf341 rfl rfl rfl rfl rfl rfl (r_move rfl) fun ac342 hf342 => ?_)
  refine seq_one (op_val (v := .int .i64 15) hf342 rfl rfl rfl rfl rfl rfl (r_move rfl) fun ac343 hf343 => ?_)
  refine seq_one (op_val (v := .bool false) hf343 rfl rfl rfl rfl rfl rfl (r_eqlC rfl rfl (by decide)) fun ac344 hf344 => ?_)
  refine seq_one (op_val (v := .bool false) hf344 rfl rfl rfl rfl rfl rfl (r_pickF rfl rfl) fun ac345 hf345 => ?_)
  refine seq_end ?_
  clear ac331 hf331 ac332 hf332 ac333 hf333 ac334 hf334 ac335 hf335 ac336 hf336 ac337 hf337 ac338 hf338 ac339 hf339 ac340 hf340 ac341 hf341 ac342 hf342 ac343 hf343 ac344 hf344
  refine then_normal ?_
  refine code_if_false hf345 rfl ?_
  refine wp_skip ?_
  refine block_normal ?_
  refine then_normal ?_
  refine seq_start (l := [0, 1, 2]) rfl ?_
  refine seq_one (op_val (v := .int .i64 15) hf345 rfl rfl rfl rfl rfl rfl (r_move rfl) fun ac346 hf346 => ?_)
  refine seq_one (op_val (v := .int .i64 16) hf346 rfl rfl rfl rfl rfl rfl (r_add (c := 16) rfl rfl (by rfl)) fun ac347 hf347 => ?_)
  refine seq_one (op_val (v := .int .i64 16) hf347 rfl rfl rfl rfl rfl rfl (r_assign rfl) fun ac348 hf348 => ?_)
  refine seq_end ?_
  clear ac345 hf345 ac346 hf346 ac347 hf347
  refine then_normal ?_
  refine rounds_go ?_
  refine code_seq ?_
  refine code_seq ?_
  refine seq_start (l := [0, 1]) rfl ?_
  refine seq_one (op_val (v := .int .i64 16) hf348 rfl rfl rfl rfl rfl rfl (r_move rfl) fun ac349 hf349 => ?_)
  refine seq_one (op_val (v := .bool false) hf349 rfl rfl rfl rfl rfl rfl (r_lssC rfl rfl (by decide)) fun ac350 hf350 => ?_)
  refine seq_end ?_
  clear ac348 hf348 ac349 hf349
  refine then_normal ?_
  refine code_if_false hf350 rfl ?_
  refine wp_exit ?_
  refine then_exit ?_
  refine then_exit ?_
  refine block_here ?_
  refine then_normal ?_
  refine code_seq ?_
  refine seq_start (l := [0, 1]) rfl ?_
  refine seq_one (op_val (v := .pointer (some ⟨b2, 6, none⟩)) hf350 rfl rfl rfl rfl rfl rfl (r_indexAddr (i := 6) ar_22 rfl rfl rfl (by decide) rfl) fun ac351 hf351 => ?_)
  refine seq_one (op_store (cs' := #[.int .u8 1, .int .u8 2, .int .u8 2, .int .u8 2, .int .u8 1, .int .u8 2, .int .u8 0, .int .u8 1, .int .u8 1, .int .u8 1, .int .u8 1, .int .u8 1, .int .u8 1, .int .u8 1, .int .u8 1, .int .u8 1]) 1 hf351 rfl rfl rfl rfl rfl sz_5 hI45 rfl (by decide) (by kernel_rfl) fun wd23 hI46 => ?_)
  have hI47 : Inv w [(b1, #[.int .u8 0, .int .u8 0, .int .u8 0, .int .u8 0, .int .u8 0, .int .u8 0, .int .u8 0, .int .u8 0, .int .u8 0, .int .u8 0, .int .u8 0, .int .u8 0, .int .u8 0, .int .u8 0, .int .u8 0, .int .u8 0], 22), (b2, #[.int .u8 1, .int .u8 2, .int .u8 2, .int .u8 2, .int .u8 1, .int .u8 2, .int .u8 0, .int .u8 1, .int .u8 1, .int .u8 1, .int .u8 1, .int .u8 1, .int .u8 1, .int .u8 1, .int .u8 1, .int .u8 1], 22)] wd23 := hI46
  refine seq_end ?_
  clear ac350 hf350 wd22 hI45 hI46
  refine then_normal ?_
  refine code_seq ?_
  refine seq_start (l := [0, 1]) rfl ?_
  refine seq_one (op_val (v := .pointer (some ⟨b2, 7, none⟩)) hf351 rfl rfl rfl rfl rfl rfl (r_indexAddr (i := 7) ar_22 rfl rfl rfl (by decide) rfl) fun ac352 hf352 => ?_)
  refine seq_one (op_store (cs' := #[.int .u8 1, .int .u8 2, .int .u8 2, .int .u8 2, .int .u8 1, .int .u8 2, .int .u8 0, .int .u8 3, .int .u8 1, .int .u8 1, .int .u8 1, .int .u8 1, .int .u8 1, .int .u8 1, .int .u8 1, .int .u8 1]) 1 hf352 rfl rfl rfl rfl rfl sz_5 hI47 rfl (by decide) (by kernel_rfl) fun wd24 hI48 => ?_)
  have hI49 : Inv w [(b1, #[.int .u8 0, .int .u8 0, .int .u8 0, .int .u8 0, .int .u8 0, .int .u8 0, .int .u8 0, .int .u8 0, .int .u8 0, .int .u8 0, .int .u8 0, .int .u8 0, .int .u8 0, .int .u8 0, .int .u8 0, .int .u8 0], 22), (b2, #[.int .u8 1, .int .u8 2, .int .u8 2, .int .u8 2, .int .u8 1, .int .u8 2, .int .u8 0, .int .u8 3, .int .u8 1, .int .u8 1, .int .u8 1, .int .u8 1, .int .u8 1, .int .u8 1, .int .u8 1, .int .u8 1], 22)] wd24 := hI48
  refine seq_end ?_
  clear ac351 hf351 wd23 hI47 hI48
  refine then_normal ?_
  refine code_seq ?_
  refine seq_start (l := [0, 1]) rfl ?_
  refine seq_one (op_val (v := .agg #[.int .u8 1, .int .u8 2, .int .u8 2, .int .u8 2, .int .u8 1, .int .u8 2, .int .u8 0, .int .u8 3, .int .u8 1, .int .u8 1, .int .u8 1, .int .u8 1, .int .u8 1, .int .u8 1, .int .u8 1, .int .u8 1]) hf352 rfl rfl rfl rfl rfl rfl (r_loadW ag_22 sz_22 rfl (hI49.at 1 rfl) rfl) fun ac353 hf353 => ?_)
  refine seq_one (op_storeW (cells := #[.int .u8 1, .int .u8 2, .int .u8 2, .int .u8 2, .int .u8 1, .int .u8 2, .int .u8 0, .int .u8 3, .int .u8 1, .int .u8 1, .int .u8 1, .int .u8 1, .int .u8 1, .int .u8 1, .int .u8 1, .int .u8 1]) 0 hf353 rfl rfl rfl rfl rfl sz_22 rfl rfl hI49 rfl rfl fun wd25 hI50 => ?_)
  have hI51 : Inv w [(b1, #[.int .u8 1, .int .u8 2, .int .u8 2, .int .u8 2, .int .u8 1, .int .u8 2, .int .u8 0, .int .u8 3, .int .u8 1, .int .u8 1, .int .u8 1, .int .u8 1, .int .u8 1, .int .u8 1, .int .u8 1, .int .u8 1], 22), (b2, #[.int .u8 1, .int .u8 2, .int .u8 2, .int .u8 2, .int .u8 1, .int .u8 2, .int .u8 0, .int .u8 3, .int .u8 1, .int .u8 1, .int .u8 1, .int .u8 1, .int .u8 1, .int .u8 1, .int .u8 1, .int .u8 1], 22)] wd25 := hI50
  refine seq_end ?_
  clear ac352 hf352 wd24 hI49 hI50
  refine then_normal ?_
  refine wp_ret ?_
  refine postC rfl hf353 rfl ag_22 sz_22 (hI51.at 0 rfl) rfl ⟨?_, hI51.done (fresh_keys (ks := [b1, b2]) rfl (fk_cons hb1 (fk_cons hb2 fk_nil)))⟩
  rfl
set_option maxHeartbeats 8000000 in
theorem same_walk {p q : Option Addr} {cap caq : Nat} {xs ys : List Int} {w : World} (hp : Rd w .u8 p xs) (hq : Rd w .u8 q ys) (hx : InK .u8 xs) (hy : InK .u8 ys) : Calls Tryd.prog 16 [.slice p xs.length cap, .slice q ys.length caq].toArray w fun e w' => e = .returned (.bool (xs == ys)) ∧ Inv w [] w' := by
  have hI1 := Inv.start w
  refine enter (n := 10) Tryd.func16 rfl rfl rfl ?_
  intro ac1 hf1
  refine code_seq ?_
  refine seq_start (l := [0]) rfl ?_
  refine seq_one (op_val (v := .bool false) hf1 rfl rfl rfl rfl rfl rfl (r_assign rfl) fun ac2 hf2 => ?_)
  refine seq_end ?_
  clear ac1 hf1
  refine then_normal ?_
  refine code_seq ?_
  refine seq_start (l := [0, 1, 2, 3, 4, 5]) rfl ?_
  refine seq_one (op_val (v := .slice p xs.length cap) hf2 rfl rfl rfl rfl rfl rfl (r_move rfl) fun ac3 hf3 => ?_)
  refine seq_one (op_val (v := .string (strOf xs)) hf3 rfl rfl rfl rfl rfl rfl (r_convS us_27 ui_5 ut_9 rfl (hp.old hI1 (fun _ h => by cases h)) hx) fun ac4 hf4 => ?_)
  refine seq_one (op_val (v := .slice q ys.length caq) hf4 rfl rfl rfl rfl rfl rfl (r_move rfl) fun ac5 hf5 => ?_)
  refine seq_one (op_val (v := .string (strOf ys)) hf5 rfl rfl rfl rfl rfl rfl (r_convS us_27 ui_5 ut_9 rfl (hq.old hI1 (fun _ h => by cases h)) hy) fun ac6 hf6 => ?_)
  refine seq_one (op_val (v := .bool (xs == ys)) hf6 rfl rfl rfl rfl rfl rfl (r_eqS rfl rfl hx hy) fun ac7 hf7 => ?_)
  refine seq_one (op_val (v := .bool (xs == ys)) hf7 rfl rfl rfl rfl rfl rfl (r_assign rfl) fun ac8 hf8 => ?_)
  refine seq_end ?_
  clear ac2 hf2 ac3 hf3 ac4 hf4 ac5 hf5 ac6 hf6 ac7 hf7
  refine then_normal ?_
  refine wp_ret ?_
  refine post1 rfl hf8 rfl ⟨rfl, hI1⟩
end Go.Proofs.YtakkookpjhaekaaDoor
