/-
  The walk of PrioOnce.
-/
import Derived.Test.YtakkookpjhaekaaDoorPlain
import Derived.Test.YtakkookpjhaekaaDoorPlain2
namespace Go.Proofs.YtakkookpjhaekaaDoor
set_option linter.unusedVariables false
set_option linter.unusedSimpArgs false
set_option maxRecDepth 100000
open Go.RowKit
set_option maxHeartbeats 8000000 in
theorem prioOnce_walk (m : List Int) (hm : m.length = 16) (hk : InK .u8 m) (tt : TypeId) (w : World) (h0 : Has [(0, arr .u8 usualL, tt)] w) : Calls Tryd.prog 4 [.agg (arr .u8 m)].toArray w fun e w' => e = .returned (.bool true) ∧ Inv w [] w' := by
  have hI1 := Inv.startS h0 (List.pairwise_singleton _ _)
  refine enter (n := 88) Tryd.func4 rfl rfl rfl ?_
  intro ac1 hf1
  refine code_seq ?_
  refine seq_start (l := [0, 1]) rfl ?_
  refine seq_one (op_box hf1 rfl rfl rfl rfl hI1 fun ac2 b1 wd1 hb1 hI2 hf2 => ?_)
  have hI3 : Inv w [(0, arr .u8 usualL, tt), (b1, arr .u8 m, 22)] wd1 := hI2
  refine seq_one (op_val (v := .bool false) hf2 rfl rfl rfl rfl rfl rfl (r_assign rfl) fun ac3 hf3 => ?_)
  refine seq_end ?_
  clear ac1 hI1 hf1 hI2 ac2 hf2
  refine then_normal ?_
  refine code_seq ?_
  refine seq_start (l := [0]) rfl ?_
  refine seq_one (op_alloc hf3 rfl rfl rfl ze_33 hI3 fun ac4 b2 wd2 hb2 hI4 hf4 => ?_)
  have hI5 : Inv w [(0, arr .u8 usualL, tt), (b1, arr .u8 m, 22), (b2, #[.int .i64 0, .int .i64 0, .int .i64 0, .int .i64 0, .int .i64 0, .int .i64 0, .int .i64 0, .int .i64 0, .int .i64 0, .int .i64 0, .int .i64 0, .int .i64 0, .int .i64 0, .int .i64 0, .int .i64 0, .int .i64 0], 33)] wd2 := hI4
  refine seq_end ?_
  clear ac3 wd1 hI3 hf3 hI4
  refine then_normal ?_
  refine code_seq ?_
  refine seq_start (l := [0]) rfl ?_
  refine seq_one (op_val (v := .int .i64 0) hf4 rfl rfl rfl rfl rfl rfl (r_assign rfl) fun ac5 hf5 => ?_)
  refine seq_end ?_
  clear ac4 hf4
  refine then_normal ?_
  refine code_seq ?_
  refine code_seq ?_
  refine seq_start (l := [0]) rfl ?_
  refine seq_one (op_val (v := .int .i64 0) hf5 rfl rfl rfl rfl rfl rfl (r_move rfl) fun ac6 hf6 => ?_)
  refine seq_end ?_
  clear ac5 hf5
  refine then_normal ?_
  refine code_join 88 ([(0, .agg (arr .u8 m)), (1, .pointer (some ⟨b1, 0, none⟩)), (3, .pointer (some ⟨b2, 0, none⟩)), (4, .int .i64 (cntK m 256 : Int))]) (fun w' => Inv w [(0, arr .u8 usualL, tt), (b1, arr .u8 m, 22), (b2, arr .i64 (metL m 256), 33)] w') ?_ ?_
  ·
    refine wp_block ?_
    have hI6 : Inv w [(0, arr .u8 usualL, tt), (b1, arr .u8 m, 22), (b2, arr .i64 (metL m 0), 33)] wd2 := by rw [metL_zero hk]; exact hI5
    have hz0 := cntK_zero hk
    refine code_loop (α := Nat) (fun (n : Nat) => [(0, .agg (arr .u8 m)), (1, .pointer (some ⟨b1, 0, none⟩)), (3, .pointer (some ⟨b2, 0, none⟩)), (4, .int .i64 (cntK m n : Int)), (13, .int .i64 (n : Int))]) (fun (n : Nat) => fun wL => Inv w [(0, arr .u8 usualL, tt), (b1, arr .u8 m, 22), (b2, arr .i64 (metL m n), 33)] wL ∧ (n ≤ 256)) (fun (n : Nat) => 256 - n) 0 (hf6.cons 0 rfl (hf6.cons 1 rfl (hf6.cons 3 rfl (hf6.cons 4 (by rw [hz0]; rfl) (hf6.cons 13 rfl hf6.nil))))) ⟨hI6, Nat.zero_le _⟩ ?_
    intro n ac7 wd3 hf7 hL1
    obtain ⟨hI7, hx1⟩ := hL1
    clear hI5 ac6 wd2 hf6 hI6
    refine code_seq ?_
    refine seq_start (l := [0]) rfl ?_
    refine seq_one (op_val (v := .bool (decide ((n : Int) < 256))) hf7 rfl rfl rfl rfl rfl rfl (r_lss rfl rfl) fun ac8 hf8 => ?_)
    refine seq_end ?_
    clear ac7 hf7
    refine then_normal ?_
    refine code_seq ?_
    refine code_if hf8 rfl (fun c14_1 => ?_) (fun c14_1 => ?_)
    · have hf9 := hf8.know 14 (u := .bool true) rfl (congrArg Value.bool c14_1)
      refine wp_skip ?_
      refine then_normal ?_
      refine code_seq ?_
      refine wp_block ?_
      refine code_seq ?_
      refine seq_start (l := [0, 1]) rfl ?_
      refine seq_one (op_val (v := .int .i64 (n : Int)) hf9 rfl rfl rfl rfl rfl rfl (r_move rfl) fun ac9 hf10 => ?_)
      refine seq_one (op_val (v := .int .i64 (n : Int)) hf10 rfl rfl rfl rfl rfl rfl (r_assign rfl) fun ac10 hf11 => ?_)
      refine seq_end ?_
      clear hf8 ac8 hf9 ac9 hf10
      refine then_normal ?_
      refine code_seq ?_
      refine seq_start (l := [0, 1, 2, 3, 4]) rfl ?_
      refine seq_one (op_val (v := .agg (arr .u8 m)) hf11 rfl rfl rfl rfl rfl rfl (r_loadW ag_22 sz_22 rfl (hI7.at 1 rfl) (arr_size hm)) fun ac11 hf12 => ?_)
      refine seq_one (op_val (v := .int .i64 (n : Int)) hf12 rfl rfl rfl rfl rfl rfl (r_move rfl) fun ac12 hf13 => ?_)
      refine seq_one (op_val (v := .int .u8 (n : Int)) hf13 rfl rfl rfl rfl rfl rfl (r_conv (c := (n : Int)) ui_3 ui_5 rfl (wrap_u8 (by omega) (by have := of_decide_eq_true c14_1; omega))) fun ac13 hf14 => ?_)
      refine seq_one (op_call (R := fun v w' => ∃ S p cap, v = .slice p (ofL m (n : Int) 16).length cap ∧ Sl 5 .u8 S p cap (ofL m (n : Int) 16) ∧ Inv wd3 S w' ∧ ∀ x ∈ S, wd3.heap.size ≤ x.1) hf14 rfl rfl rfl rfl ca_17 ((of_mk m hm hk (n : Int) _).mono fun _ _ ⟨S, p, cap, he, h1, _, h3, h4⟩ => ⟨_, he, S, p, cap, rfl, h1, h3, h4⟩) fun ac14 v wd4 hR hf15 => ?_)
      obtain ⟨Sq3, q3, capq3, rfl, hsq3, hwq3, hzq3⟩ := hR
      have hyq3 := fk_le hI7.size hzq3
      have hI8 : Inv w ([(0, arr .u8 usualL, tt), (b1, arr .u8 m, 22), (b2, arr .i64 (metL m n), 33)] ++ Sq3) _ := hI7.callN hwq3 hzq3
      refine seq_one (op_val (v := .slice q3 ((ofL m (n : Int) 16).length) capq3) hf15 rfl rfl rfl rfl rfl rfl (r_assign rfl) fun ac15 hf16 => ?_)
      refine seq_end ?_
      clear ac10 hf11 ac11 hf12 ac12 hf13 ac13 wd3 hf14 hI7 hwq3 hzq3 ac14 hf15
      refine then_normal ?_
      refine code_seq ?_
      refine code_seq ?_
      refine seq_start (l := [0, 1, 2]) rfl ?_
      refine seq_one (op_val (v := .slice q3 ((ofL m (n : Int) 16).length) capq3) hf16 rfl rfl rfl rfl rfl rfl (r_move rfl) fun ac16 hf17 => ?_)
      refine seq_one (op_val (v := .int .i64 ((ofL m (n : Int) 16).length : Int)) hf17 rfl rfl rfl rfl rfl rfl (r_len sl_27 rfl) fun ac17 hf18 => ?_)
      refine seq_one (op_val (v := .int .i64 0) hf18 rfl rfl rfl rfl rfl rfl (r_move rfl) fun ac18 hf19 => ?_)
      refine seq_end ?_
      clear ac15 hf16 ac16 hf17 ac17 hf18
      refine then_normal ?_
      refine code_join 88 ([(0, .agg (arr .u8 m)), (1, .pointer (some ⟨b1, 0, none⟩)), (3, .pointer (some ⟨b2, 0, none⟩)), (4, .int .i64 (cntK m n : Int)), (5, .int .i64 (n : Int)), (6, .slice q3 ((ofL m (n : Int) 16).length) capq3), (13, .int .i64 (n : Int)), (14, .bool true), (15, .int .i64 (n : Int)), (16, .agg (arr .u8 m)), (17, .int .i64 (n : Int)), (18, .int .u8 (n : Int)), (19, .slice q3 ((ofL m (n : Int) 16).length) capq3), (20, .slice q3 ((ofL m (n : Int) 16).length) capq3), (21, .int .i64 ((ofL m (n : Int) 16).length : Int))]) (fun w' => Inv w ([(0, arr .u8 usualL, tt), (b1, arr .u8 m, 22), (b2, arr .i64 (metL m (n + 1)), 33)] ++ Sq3) w') ?_ ?_
      ·
        refine wp_block ?_
        have hI9 : Inv w ([(0, arr .u8 usualL, tt), (b1, arr .u8 m, 22), (b2, arr .i64 (metI m n 0), 33)] ++ Sq3) wd4 := by rw [metI_zero]; exact hI8
        refine code_loop (α := Nat) (fun (k : Nat) => [(0, .agg (arr .u8 m)), (1, .pointer (some ⟨b1, 0, none⟩)), (3, .pointer (some ⟨b2, 0, none⟩)), (4, .int .i64 (cntK m n : Int)), (5, .int .i64 (n : Int)), (6, .slice q3 ((ofL m (n : Int) 16).length) capq3), (13, .int .i64 (n : Int)), (14, .bool true), (15, .int .i64 (n : Int)), (16, .agg (arr .u8 m)), (17, .int .i64 (n : Int)), (18, .int .u8 (n : Int)), (19, .slice q3 ((ofL m (n : Int) 16).length) capq3), (20, .slice q3 ((ofL m (n : Int) 16).length) capq3), (21, .int .i64 ((ofL m (n : Int) 16).length : Int)), (22, .int .i64 (k : Int))]) (fun (k : Nat) => fun wL => Inv w ([(0, arr .u8 usualL, tt), (b1, arr .u8 m, 22), (b2, arr .i64 (metI m n k), 33)] ++ Sq3) wL ∧ (k ≤ (ofL m (n : Int) 16).length)) (fun (k : Nat) => (ofL m (n : Int) 16).length - k) 0 (hf19.cons 0 rfl (hf19.cons 1 rfl (hf19.cons 3 rfl (hf19.cons 4 rfl (hf19.cons 5 rfl (hf19.cons 6 rfl (hf19.cons 13 rfl (hf19.cons 14 rfl (hf19.cons 15 rfl (hf19.cons 16 rfl (hf19.cons 17 rfl (hf19.cons 18 rfl (hf19.cons 19 rfl (hf19.cons 20 rfl (hf19.cons 21 rfl (hf19.cons 22 rfl hf19.nil)))))))))))))))) ⟨hI9, Nat.zero_le _⟩ ?_
        intro k ac19 wd5 hf20 hL2
        obtain ⟨hI10, hx2⟩ := hL2
        clear hI8 ac18 wd4 hf19 hI9
        refine code_seq ?_
        refine seq_start (l := [0]) rfl ?_
        refine seq_one (op_val (v := .bool (decide ((k : Int) < ((ofL m (n : Int) 16).length : Int)))) hf20 rfl rfl rfl rfl rfl rfl (r_lss rfl rfl) fun ac20 hf21 => ?_)
        refine seq_end ?_
        clear ac19 hf20
        refine then_normal ?_
        refine code_seq ?_
        refine code_if hf21 rfl (fun c23_2 => ?_) (fun c23_2 => ?_)
        · have hf22 := hf21.know 23 (u := .bool true) rfl (congrArg Value.bool c23_2)
          refine wp_skip ?_
          refine then_normal ?_
          refine code_seq ?_
          refine wp_block ?_
          refine code_seq ?_
          refine seq_start (l := [0, 1, 2, 3, 4]) rfl ?_
          refine seq_one (op_val (v := .int .i64 (k : Int)) hf22 rfl rfl rfl rfl rfl rfl (r_move rfl) fun ac21 hf23 => ?_)
          refine seq_one (op_val (v := .pointer (slAt q3 k)) hf23 rfl rfl rfl rfl rfl rfl (r_indexAddrV (i := k) sl_27 rfl rfl rfl (by have := of_decide_eq_true c23_2; omega) (let r := (hsq3.rd hI10 (fun x hx => List.mem_append_right _ hx)) k (by have := of_decide_eq_true c23_2; omega); ⟨r.choose, r.choose_spec.1⟩)) fun ac22 hf24 => ?_)
          refine seq_one (op_val (v := .int .u8 ((ofL m (n : Int) 16).getD k 0)) hf24 rfl rfl rfl rfl rfl rfl (r_loadV ag_5 rfl (hsq3.rd hI10 (fun x hx => List.mem_append_right _ hx)) (by have := of_decide_eq_true c23_2; omega)) fun ac23 hf25 => ?_)
          refine seq_one (op_val (v := .int .i64 (k : Int)) hf25 rfl rfl rfl rfl rfl rfl (r_assign rfl) fun ac24 hf26 => ?_)
          refine seq_one (op_val (v := .int .u8 ((ofL m (n : Int) 16).getD k 0)) hf26 rfl rfl rfl rfl rfl rfl (r_assign rfl) fun ac25 hf27 => ?_)
          refine seq_end ?_
          clear hf21 ac20 hf22 ac21 hf23 ac22 hf24 ac23 hf25 ac24 hf26
          refine then_normal ?_
          refine code_seq ?_
          refine code_seq ?_
          refine code_join 88 ([(0, .agg (arr .u8 m)), (1, .pointer (some ⟨b1, 0, none⟩)), (3, .pointer (some ⟨b2, 0, none⟩)), (4, .int .i64 (cntK m n : Int)), (5, .int .i64 (n : Int)), (6, .slice q3 ((ofL m (n : Int) 16).length) capq3), (7, .int .i64 (k : Int)), (8, .int .u8 ((ofL m (n : Int) 16).getD k 0)), (13, .int .i64 (n : Int)), (14, .bool true), (15, .int .i64 (n : Int)), (16, .agg (arr .u8 m)), (17, .int .i64 (n : Int)), (18, .int .u8 (n : Int)), (19, .slice q3 ((ofL m (n : Int) 16).length) capq3), (20, .slice q3 ((ofL m (n : Int) 16).length) capq3), (21, .int .i64 ((ofL m (n : Int) 16).length : Int)), (22, .int .i64 (k : Int)), (23, .bool true), (24, .int .i64 (k : Int)), (25, .pointer (slAt q3 k)), (26, .int .u8 ((ofL m (n : Int) 16).getD k 0)), (41, .bool false)]) (fun w' => Inv w ([(0, arr .u8 usualL, tt), (b1, arr .u8 m, 22), (b2, arr .i64 (metI m n k), 33)] ++ Sq3) w') ?_ ?_
          ·
            refine seq_start (l := [0, 1, 2, 3, 4, 5, 6, 7, 8, 9, 10, 11, 12, 13, 14]) rfl ?_
            refine seq_one (op_val (v := .int .u8 ((ofL m (n : Int) 16).getD k 0)) hf27 rfl rfl rfl rfl rfl rfl (r_move rfl) fun ac26 hf28 => ?_)
            refine seq_one (op_val (v := .bool (decide (((ofL m (n : Int) 16).getD k 0) > 15))) hf28 rfl rfl rfl rfl rfl rfl (r_gtr rfl rfl) fun ac27 hf29 => ?_)
            refine seq_one (op_val (v := .bool (decide (((ofL m (n : Int) 16).getD k 0) > 15))) hf29 rfl rfl rfl rfl rfl rfl (r_move rfl) fun ac28 hf30 => ?_)
            have hf31 := hf30.know 29 (u := .bool false) rfl (congrArg Value.bool (once_29 (show k < (ofL m (n : Int) 16).length by have := of_decide_eq_true c23_2; omega)))
            refine seq_one (op_val (v := .int .i64 (k : Int)) hf31 rfl rfl rfl rfl rfl rfl (r_move rfl) fun ac29 hf32 => ?_)
            refine seq_one (op_val (v := .bool (decide ((k : Int) > 0))) hf32 rfl rfl rfl rfl rfl rfl (r_gtr rfl rfl) fun ac30 hf33 => ?_)
            refine seq_one (op_val (v := .bool (decide ((k : Int) > 0))) hf33 rfl rfl rfl rfl rfl rfl (r_move rfl) fun ac31 hf34 => ?_)
            rcases Bool.eq_false_or_eq_true (decide ((k : Int) > 0) : Bool) with g32_3 | g32_3
            · have hf35 := hf34.know 32 (u := .bool true) rfl (congrArg Value.bool g32_3)
              refine seq_one (op_val (v := .slice q3 ((ofL m (n : Int) 16).length) capq3) hf35 rfl rfl rfl rfl rfl rfl (r_move rfl) fun ac32 hf36 => ?_)
              refine seq_one (op_val (v := .int .i64 (k : Int)) hf36 rfl rfl rfl rfl rfl rfl (r_move rfl) fun ac33 hf37 => ?_)
              refine seq_one (op_val (v := .int .i64 ((k - 1 : Nat) : Int)) hf37 rfl rfl rfl rfl rfl rfl (r_sub (c := ((k - 1 : Nat) : Int)) rfl rfl (by rw [wrap_i64 (by omega) (by have := @ofL_len m (n : Int) 16; have := of_decide_eq_true c23_2; omega)]; have := of_decide_eq_true g32_3; omega)) fun ac34 hf38 => ?_)
              refine seq_one (op_val (v := .pointer (slAt q3 (k - 1))) hf38 rfl rfl rfl rfl rfl rfl (r_indexAddrV (i := (k - 1)) sl_27 rfl rfl rfl (by have := of_decide_eq_true c23_2; have := of_decide_eq_true g32_3; omega) (let r := (hsq3.rd hI10 (fun x hx => List.mem_append_right _ hx)) (k - 1) (by have := of_decide_eq_true c23_2; have := of_decide_eq_true g32_3; omega); ⟨r.choose, r.choose_spec.1⟩)) fun ac35 hf39 => ?_)
              refine seq_one (op_val (v := .int .u8 ((ofL m (n : Int) 16).getD (k - 1) 0)) hf39 rfl rfl rfl rfl rfl rfl (r_loadV ag_5 rfl (hsq3.rd hI10 (fun x hx => List.mem_append_right _ hx)) (by have := of_decide_eq_true c23_2; have := of_decide_eq_true g32_3; omega)) fun ac36 hf40 => ?_)
              refine seq_one (op_val (v := .int .u8 ((ofL m (n : Int) 16).getD k 0)) hf40 rfl rfl rfl rfl rfl rfl (r_move rfl) fun ac37 hf41 => ?_)
              refine seq_one (op_val (v := .bool (decide (((ofL m (n : Int) 16).getD (k - 1) 0) ≥ ((ofL m (n : Int) 16).getD k 0)))) hf41 rfl rfl rfl rfl rfl rfl (r_geq rfl rfl) fun ac38 hf42 => ?_)
              refine seq_one (op_val (v := .bool (decide (((ofL m (n : Int) 16).getD (k - 1) 0) ≥ ((ofL m (n : Int) 16).getD k 0)))) hf42 rfl rfl rfl rfl rfl rfl (r_pickT rfl rfl) fun ac39 hf43 => ?_)
              refine seq_one (op_val (v := .bool (decide (((ofL m (n : Int) 16).getD (k - 1) 0) ≥ ((ofL m (n : Int) 16).getD k 0)))) hf43 rfl rfl rfl rfl rfl rfl (r_pickF rfl rfl) fun ac40 hf44 => ?_)
              refine seq_end ?_
              clear ac25 hf27 ac26 hf28 ac27 hf29 hf30 ac28 hf31 ac29 hf32 ac30 hf33 hf34 ac31 hf35 ac32 hf36 ac33 hf37 ac34 hf38 ac35 hf39 ac36 hf40 ac37 hf41 ac38 hf42 ac39 hf43
              refine then_normal ?_
              have hf45 := hf44.know 41 (u := .bool false) rfl (congrArg Value.bool (once_41 (show k < (ofL m (n : Int) 16).length by have := of_decide_eq_true c23_2; omega) (by have := of_decide_eq_true g32_3; omega)))
              clear hf44
              exact ⟨(hf45.cons 0 rfl (hf45.cons 1 rfl (hf45.cons 3 rfl (hf45.cons 4 rfl (hf45.cons 5 rfl (hf45.cons 6 rfl (hf45.cons 7 rfl (hf45.cons 8 rfl (hf45.cons 13 rfl (hf45.cons 14 rfl (hf45.cons 15 rfl (hf45.cons 16 rfl (hf45.cons 17 rfl (hf45.cons 18 rfl (hf45.cons 19 rfl (hf45.cons 20 rfl (hf45.cons 21 rfl (hf45.cons 22 rfl (hf45.cons 23 rfl (hf45.cons 24 rfl (hf45.cons 25 rfl (hf45.cons 26 rfl (hf45.cons 41 rfl hf45.nil))))))))))))))))))))))), hI10⟩
            · have hf46 := hf34.know 32 (u := .bool false) rfl (congrArg Value.bool g32_3)
              refine seq_one (op_skip hf46 rfl rfl rfl rfl fun ac41 hf47 => ?_)
              refine seq_one (op_skip hf47 rfl rfl rfl rfl fun ac42 hf48 => ?_)
              refine seq_one (op_skip hf48 rfl rfl rfl rfl fun ac43 hf49 => ?_)
              refine seq_one (op_skip hf49 rfl rfl rfl rfl fun ac44 hf50 => ?_)
              refine seq_one (op_skip hf50 rfl rfl rfl rfl fun ac45 hf51 => ?_)
              refine seq_one (op_skip hf51 rfl rfl rfl rfl fun ac46 hf52 => ?_)
              refine seq_one (op_skip hf52 rfl rfl rfl rfl fun ac47 hf53 => ?_)
              refine seq_one (op_val (v := .bool false) hf53 rfl rfl rfl rfl rfl rfl (r_pickF rfl rfl) fun ac48 hf54 => ?_)
              refine seq_one (op_val (v := .bool false) hf54 rfl rfl rfl rfl rfl rfl (r_pickF rfl rfl) fun ac49 hf55 => ?_)
              refine seq_end ?_
              clear ac25 hf27 ac26 hf28 ac27 hf29 hf30 ac28 hf31 ac29 hf32 ac30 hf33 hf34 ac31 hf46 ac41 hf47 ac42 hf48 ac43 hf49 ac44 hf50 ac45 hf51 ac46 hf52 ac47 hf53 ac48 hf54
              refine then_normal ?_
              exact ⟨(hf55.cons 0 rfl (hf55.cons 1 rfl (hf55.cons 3 rfl (hf55.cons 4 rfl (hf55.cons 5 rfl (hf55.cons 6 rfl (hf55.cons 7 rfl (hf55.cons 8 rfl (hf55.cons 13 rfl (hf55.cons 14 rfl (hf55.cons 15 rfl (hf55.cons 16 rfl (hf55.cons 17 rfl (hf55.cons 18 rfl (hf55.cons 19 rfl (hf55.cons 20 rfl (hf55.cons 21 rfl (hf55.cons 22 rfl (hf55.cons 23 rfl (hf55.cons 24 rfl (hf55.cons 25 rfl (hf55.cons 26 rfl (hf55.cons 41 rfl hf55.nil))))))))))))))))))))))), hI10⟩
          ·
            intro ac50 wd6 hf56 hI11
            clear ac25 wd5 hf27 hI10
            refine then_normal ?_
            refine code_if_false hf56 rfl ?_
            refine wp_skip ?_
            refine then_normal ?_
            refine code_seq ?_
            refine seq_start (l := [0, 1, 2, 3, 4, 5]) rfl ?_
            refine seq_one (op_val (v := .int .u8 ((ofL m (n : Int) 16).getD k 0)) hf56 rfl rfl rfl rfl rfl rfl (r_move rfl) fun ac51 hf57 => ?_)
            refine seq_one (op_val (v := .pointer (some ⟨b2, (((ofL m (n : Int) 16).getD k 0).toNat), none⟩)) hf57 rfl rfl rfl rfl rfl rfl (r_indexAddr (i := (((ofL m (n : Int) 16).getD k 0).toNat)) ar_33 rfl rfl (once_idx (show k < (ofL m (n : Int) 16).length by have := of_decide_eq_true c23_2; omega)).1 (once_idx (show k < (ofL m (n : Int) 16).length by have := of_decide_eq_true c23_2; omega)).2 (by rw [Nat.mul_one, Nat.zero_add])) fun ac52 hf58 => ?_)
            refine seq_one (op_val (v := .int .i64 ((metI m n k).getD (((ofL m (n : Int) 16).getD k 0).toNat) 0)) hf58 rfl rfl rfl rfl rfl rfl (r_load ag_3 rfl (hI11.at 2 rfl) (arr_get (by rw [metI_len]; exact (once_idx (show k < (ofL m (n : Int) 16).length by have := of_decide_eq_true c23_2; omega)).2))) fun ac53 hf59 => ?_)
            refine seq_one (op_val (v := .int .i64 1) hf59 rfl rfl rfl rfl rfl rfl (r_add (c := 1) rfl rfl (by rw [once_0 (show k < (ofL m (n : Int) 16).length by have := of_decide_eq_true c23_2; omega)]; rfl)) fun ac54 hf60 => ?_)
            refine seq_one (op_val (v := .pointer (some ⟨b2, (((ofL m (n : Int) 16).getD k 0).toNat), none⟩)) hf60 rfl rfl rfl rfl rfl rfl (r_indexAddr (i := (((ofL m (n : Int) 16).getD k 0).toNat)) ar_33 rfl rfl (once_idx (show k < (ofL m (n : Int) 16).length by have := of_decide_eq_true c23_2; omega)).1 (once_idx (show k < (ofL m (n : Int) 16).length by have := of_decide_eq_true c23_2; omega)).2 (by rw [Nat.mul_one, Nat.zero_add])) fun ac55 hf61 => ?_)
            refine seq_one (op_store (cs' := arr .i64 ((metI m n k).set (((ofL m (n : Int) 16).getD k 0).toNat) 1)) 2 hf61 rfl rfl rfl rfl rfl sz_3 hI11 rfl (by rw [arr_size metI_len]; exact (once_idx (show k < (ofL m (n : Int) 16).length by have := of_decide_eq_true c23_2; omega)).2) arr_set fun wd7 hI12 => ?_)
            have hI13 : Inv w ([(0, arr .u8 usualL, tt), (b1, arr .u8 m, 22), (b2, arr .i64 ((metI m n k).set (((ofL m (n : Int) 16).getD k 0).toNat) 1), 33)] ++ Sq3) wd7 := hI12
            refine seq_end ?_
            clear ac50 hf56 ac51 hf57 ac52 hf58 ac53 hf59 ac54 hf60 wd6 hI11 hI12
            refine then_normal ?_
            refine code_seq ?_
            refine seq_start (l := [0, 1, 2, 3, 4, 5, 6, 7]) rfl ?_
            refine seq_one (op_val (v := .agg (arr .u8 m)) hf61 rfl rfl rfl rfl rfl rfl (r_loadW ag_22 sz_22 rfl (hI13.at 1 rfl) (arr_size hm)) fun ac56 hf62 => ?_)
            refine seq_one (op_val (v := .int .u8 ((ofL m (n : Int) 16).getD k 0)) hf62 rfl rfl rfl rfl rfl rfl (r_move rfl) fun ac57 hf63 => ?_)
            refine seq_one (op_pure hf63 rfl rfl rfl rfl ca_12 (band_pur m hm hk ((ofL m (n : Int) 16).getD k 0) (once_p8 (show k < (ofL m (n : Int) 16).length by have := of_decide_eq_true c23_2; omega)).1 (once_p8 (show k < (ofL m (n : Int) 16).length by have := of_decide_eq_true c23_2; omega)).2) hI13 fun ac58 wd8 hI14 hf64 => ?_)
            refine seq_one (op_val (v := .tuple #[.int .i64 ((bandF m ((ofL m (n : Int) 16).getD k 0)).1), .bool ((bandF m ((ofL m (n : Int) 16).getD k 0)).2)]) hf64 rfl rfl rfl rfl rfl rfl (r_move rfl) fun ac59 hf65 => ?_)
            refine seq_one (op_val (v := .int .i64 ((bandF m ((ofL m (n : Int) 16).getD k 0)).1)) hf65 rfl rfl rfl rfl rfl rfl (r_extract rfl rfl) fun ac60 hf66 => ?_)
            refine seq_one (op_val (v := .bool ((bandF m ((ofL m (n : Int) 16).getD k 0)).2)) hf66 rfl rfl rfl rfl rfl rfl (r_extract rfl rfl) fun ac61 hf67 => ?_)
            refine seq_one (op_val (v := .int .i64 ((bandF m ((ofL m (n : Int) 16).getD k 0)).1)) hf67 rfl rfl rfl rfl rfl rfl (r_assign rfl) fun ac62 hf68 => ?_)
            refine seq_one (op_val (v := .bool ((bandF m ((ofL m (n : Int) 16).getD k 0)).2)) hf68 rfl rfl rfl rfl rfl rfl (r_assign rfl) fun ac63 hf69 => ?_)
            refine seq_end ?_
            clear ac55 hf61 ac56 hf62 ac57 wd7 hI13 hf63 ac58 hf64 ac59 hf65 ac60 hf66 ac61 hf67 ac62 hf68
            refine then_normal ?_
            refine code_seq ?_
            refine code_join 88 ([(0, .agg (arr .u8 m)), (1, .pointer (some ⟨b1, 0, none⟩)), (3, .pointer (some ⟨b2, 0, none⟩)), (4, .int .i64 (cntK m n : Int)), (5, .int .i64 (n : Int)), (6, .slice q3 ((ofL m (n : Int) 16).length) capq3), (7, .int .i64 (k : Int)), (8, .int .u8 ((ofL m (n : Int) 16).getD k 0)), (9, .int .i64 ((bandF m ((ofL m (n : Int) 16).getD k 0)).1)), (10, .bool ((bandF m ((ofL m (n : Int) 16).getD k 0)).2)), (13, .int .i64 (n : Int)), (14, .bool true), (15, .int .i64 (n : Int)), (16, .agg (arr .u8 m)), (17, .int .i64 (n : Int)), (18, .int .u8 (n : Int)), (19, .slice q3 ((ofL m (n : Int) 16).length) capq3), (20, .slice q3 ((ofL m (n : Int) 16).length) capq3), (21, .int .i64 ((ofL m (n : Int) 16).length : Int)), (22, .int .i64 (k : Int)), (23, .bool true), (24, .int .i64 (k : Int)), (25, .pointer (slAt q3 k)), (26, .int .u8 ((ofL m (n : Int) 16).getD k 0)), (41, .bool false), (42, .int .u8 ((ofL m (n : Int) 16).getD k 0)), (43, .pointer (some ⟨b2, (((ofL m (n : Int) 16).getD k 0).toNat), none⟩)), (44, .int .i64 ((metI m n k).getD (((ofL m (n : Int) 16).getD k 0).toNat) 0)), (45, .int .i64 1), (46, .pointer (some ⟨b2, (((ofL m (n : Int) 16).getD k 0).toNat), none⟩)), (47, .tuple #[.int .i64 ((bandF m ((ofL m (n : Int) 16).getD k 0)).1), .bool ((bandF m ((ofL m (n : Int) 16).getD k 0)).2)]), (48, .agg (arr .u8 m)), (49, .int .u8 ((ofL m (n : Int) 16).getD k 0)), (50, .tuple #[.int .i64 ((bandF m ((ofL m (n : Int) 16).getD k 0)).1), .bool ((bandF m ((ofL m (n : Int) 16).getD k 0)).2)]), (51, .int .i64 ((bandF m ((ofL m (n : Int) 16).getD k 0)).1)), (52, .bool ((bandF m ((ofL m (n : Int) 16).getD k 0)).2)), (64, .bool false)]) (fun w' => Inv w ([(0, arr .u8 usualL, tt), (b1, arr .u8 m, 22), (b2, arr .i64 ((metI m n k).set (((ofL m (n : Int) 16).getD k 0).toNat) 1), 33)] ++ Sq3) w') ?_ ?_
            ·
              refine seq_start (l := [0, 1, 2, 3, 4, 5, 6, 7, 8, 9, 10, 11]) rfl ?_
              refine seq_one (op_val (v := .bool ((bandF m ((ofL m (n : Int) 16).getD k 0)).2)) hf69 rfl rfl rfl rfl rfl rfl (r_move rfl) fun ac64 hf70 => ?_)
              refine seq_one (op_val (v := .int .i64 (n : Int)) hf70 rfl rfl rfl rfl rfl rfl (r_move rfl) fun ac65 hf71 => ?_)
              refine seq_one (op_val (v := .bool (decide ((n : Int) < 3))) hf71 rfl rfl rfl rfl rfl rfl (r_lss rfl rfl) fun ac66 hf72 => ?_)
              refine seq_one (op_val (v := .bool (((bandF m ((ofL m (n : Int) 16).getD k 0)).2) != (decide ((n : Int) < 3)))) hf72 rfl rfl rfl rfl rfl rfl (r_neB ub_4 rfl rfl) fun ac67 hf73 => ?_)
              refine seq_one (op_val (v := .bool (((bandF m ((ofL m (n : Int) 16).getD k 0)).2) != (decide ((n : Int) < 3)))) hf73 rfl rfl rfl rfl rfl rfl (r_move rfl) fun ac68 hf74 => ?_)
              have hf75 := hf74.know 57 (u := .bool false) rfl (congrArg Value.bool (once_57 (show k < (ofL m (n : Int) 16).length by have := of_decide_eq_true c23_2; omega)))
              refine seq_one (op_val (v := .bool ((bandF m ((ofL m (n : Int) 16).getD k 0)).2)) hf75 rfl rfl rfl rfl rfl rfl (r_move rfl) fun ac69 hf76 => ?_)
              refine seq_one (op_val (v := .bool ((bandF m ((ofL m (n : Int) 16).getD k 0)).2)) hf76 rfl rfl rfl rfl rfl rfl (r_move rfl) fun ac70 hf77 => ?_)
              rcases Bool.eq_false_or_eq_true ((bandF m ((ofL m (n : Int) 16).getD k 0)).2 : Bool) with g59_4 | g59_4
              · have hf78 := hf77.know 59 (u := .bool true) rfl (congrArg Value.bool g59_4)
                refine seq_one (op_val (v := .int .i64 ((bandF m ((ofL m (n : Int) 16).getD k 0)).1)) hf78 rfl rfl rfl rfl rfl rfl (r_move rfl) fun ac71 hf79 => ?_)
                refine seq_one (op_val (v := .int .i64 (n : Int)) hf79 rfl rfl rfl rfl rfl rfl (r_move rfl) fun ac72 hf80 => ?_)
                refine seq_one (op_val (v := .bool (((bandF m ((ofL m (n : Int) 16).getD k 0)).1) != (n : Int))) hf80 rfl rfl rfl rfl rfl rfl (r_neq rfl rfl) fun ac73 hf81 => ?_)
                refine seq_one (op_val (v := .bool (((bandF m ((ofL m (n : Int) 16).getD k 0)).1) != (n : Int))) hf81 rfl rfl rfl rfl rfl rfl (r_pickT rfl rfl) fun ac74 hf82 => ?_)
                refine seq_one (op_val (v := .bool (((bandF m ((ofL m (n : Int) 16).getD k 0)).1) != (n : Int))) hf82 rfl rfl rfl rfl rfl rfl (r_pickF rfl rfl) fun ac75 hf83 => ?_)
                refine seq_end ?_
                clear ac63 hf69 ac64 hf70 ac65 hf71 ac66 hf72 ac67 hf73 hf74 ac68 hf75 ac69 hf76 hf77 ac70 hf78 ac71 hf79 ac72 hf80 ac73 hf81 ac74 hf82
                refine then_normal ?_
                have hf84 := hf83.know 64 (u := .bool false) rfl (congrArg Value.bool (once_64 (show k < (ofL m (n : Int) 16).length by have := of_decide_eq_true c23_2; omega) g59_4))
                clear hf83
                exact ⟨(hf84.cons 0 rfl (hf84.cons 1 rfl (hf84.cons 3 rfl (hf84.cons 4 rfl (hf84.cons 5 rfl (hf84.cons 6 rfl (hf84.cons 7 rfl (hf84.cons 8 rfl (hf84.cons 9 rfl (hf84.cons 10 rfl (hf84.cons 13 rfl (hf84.cons 14 rfl (hf84.cons 15 rfl (hf84.cons 16 rfl (hf84.cons 17 rfl (hf84.cons 18 rfl (hf84.cons 19 rfl (hf84.cons 20 rfl (hf84.cons 21 rfl (hf84.cons 22 rfl (hf84.cons 23 rfl (hf84.cons 24 rfl (hf84.cons 25 rfl (hf84.cons 26 rfl (hf84.cons 41 rfl (hf84.cons 42 rfl (hf84.cons 43 rfl (hf84.cons 44 rfl (hf84.cons 45 rfl (hf84.cons 46 rfl (hf84.cons 47 rfl (hf84.cons 48 rfl (hf84.cons 49 rfl (hf84.cons 50 rfl (hf84.cons 51 rfl (hf84.cons 52 rfl (hf84.cons 64 rfl hf84.nil))))))))))))))))))))))))))))))))))))), hI14⟩
              · have hf85 := hf77.know 59 (u := .bool false) rfl (congrArg Value.bool g59_4)
                refine seq_one (op_skip hf85 rfl rfl rfl rfl fun ac76 hf86 => ?_)
                refine seq_one (op_skip hf86 rfl rfl rfl rfl fun ac77 hf87 => ?_)
                refine seq_one (op_skip hf87 rfl rfl rfl rfl fun ac78 hf88 => ?_)
                refine seq_one (op_val (v := .bool false) hf88 rfl rfl rfl rfl rfl rfl (r_pickF rfl rfl) fun ac79 hf89 => ?_)
                refine seq_one (op_val (v := .bool false) hf89 rfl rfl rfl rfl rfl rfl (r_pickF rfl rfl) fun ac80 hf90 => ?_)
                refine seq_end ?_
                clear ac63 hf69 ac64 hf70 ac65 hf71 ac66 hf72 ac67 hf73 hf74 ac68 hf75 ac69 hf76 hf77 ac70 hf85 ac76 hf86 ac77 hf87 ac78 hf88 ac79 hf89
                refine then_normal ?_
                exact ⟨(hf90.cons 0 rfl (hf90.cons 1 rfl (hf90.cons 3 rfl (hf90.cons 4 rfl (hf90.cons 5 rfl (hf90.cons 6 rfl (hf90.cons 7 rfl (hf90.cons 8 rfl (hf90.cons 9 rfl (hf90.cons 10 rfl (hf90.cons 13 rfl (hf90.cons 14 rfl (hf90.cons 15 rfl (hf90.cons 16 rfl (hf90.cons 17 rfl (hf90.cons 18 rfl (hf90.cons 19 rfl (hf90.cons 20 rfl (hf90.cons 21 rfl (hf90.cons 22 rfl (hf90.cons 23 rfl (hf90.cons 24 rfl (hf90.cons 25 rfl (hf90.cons 26 rfl (hf90.cons 41 rfl (hf90.cons 42 rfl (hf90.cons 43 rfl (hf90.cons 44 rfl (hf90.cons 45 rfl (hf90.cons 46 rfl (hf90.cons 47 rfl (hf90.cons 48 rfl (hf90.cons 49 rfl (hf90.cons 50 rfl (hf90.cons 51 rfl (hf90.cons 52 rfl (hf90.cons 64 rfl hf90.nil))))))))))))))))))))))))))))))))))))), hI14⟩
            ·
              intro ac81 wd9 hf91 hI15
              clear ac63 wd8 hf69 hI14
              refine then_normal ?_
              refine code_if_false hf91 rfl ?_
              refine wp_skip ?_
              refine block_normal ?_
              refine then_normal ?_
              refine seq_start (l := [0, 1]) rfl ?_
              refine seq_one (op_val (v := .int .i64 ((k + 1 : Nat) : Int)) hf91 rfl rfl rfl rfl rfl rfl (r_add (c := ((k + 1 : Nat) : Int)) rfl rfl (wrap_i64 (by omega) (by have := @ofL_len m (n : Int) 16; have := of_decide_eq_true c23_2; omega))) fun ac82 hf92 => ?_)
              refine seq_one (op_val (v := .int .i64 ((k + 1 : Nat) : Int)) hf92 rfl rfl rfl rfl rfl rfl (r_move rfl) fun ac83 hf93 => ?_)
              refine seq_end ?_
              clear ac81 hf91 ac82 hf92
              refine then_normal ?_
              rw [once_set (show k < (ofL m (n : Int) 16).length by have := of_decide_eq_true c23_2; omega)] at hI15
              exact ⟨k + 1, (hf93.cons 0 rfl (hf93.cons 1 rfl (hf93.cons 3 rfl (hf93.cons 4 rfl (hf93.cons 5 rfl (hf93.cons 6 rfl (hf93.cons 13 rfl (hf93.cons 14 rfl (hf93.cons 15 rfl (hf93.cons 16 rfl (hf93.cons 17 rfl (hf93.cons 18 rfl (hf93.cons 19 rfl (hf93.cons 20 rfl (hf93.cons 21 rfl (hf93.cons 22 rfl hf93.nil)))))))))))))))), ⟨hI15, (by have := of_decide_eq_true c23_2; omega)⟩, (by have := of_decide_eq_true c23_2; omega)⟩
        · have hf94 := hf21.know 23 (u := .bool false) rfl (congrArg Value.bool c23_2)
          refine wp_exit ?_
          refine then_exit ?_
          refine then_exit ?_
          refine block_here ?_
          refine then_normal ?_
          have ek : k = (ofL m (n : Int) 16).length := by have := of_decide_eq_false c23_2; omega
          rw [metI_end ek] at hI10
          clear hf21
          exact ⟨(hf94.cons 0 rfl (hf94.cons 1 rfl (hf94.cons 3 rfl (hf94.cons 4 rfl (hf94.cons 5 rfl (hf94.cons 6 rfl (hf94.cons 13 rfl (hf94.cons 14 rfl (hf94.cons 15 rfl (hf94.cons 16 rfl (hf94.cons 17 rfl (hf94.cons 18 rfl (hf94.cons 19 rfl (hf94.cons 20 rfl (hf94.cons 21 rfl hf94.nil))))))))))))))), hI10⟩
      ·
        intro ac84 wd10 hf95 hI16
        clear ac18 wd4 hf19 hI8
        refine then_normal ?_
        refine code_seq ?_
        refine seq_start (l := [0, 1]) rfl ?_
        refine seq_one (op_val (v := .int .i64 (n : Int)) hf95 rfl rfl rfl rfl rfl rfl (r_move rfl) fun ac85 hf96 => ?_)
        refine seq_one (op_val (v := .bool (decide ((n : Int) ≤ 3))) hf96 rfl rfl rfl rfl rfl rfl (r_leq rfl rfl) fun ac86 hf97 => ?_)
        refine seq_end ?_
        clear ac84 hf95 ac85 hf96
        refine then_normal ?_
        refine code_if hf97 rfl (fun c67_5 => ?_) (fun c67_5 => ?_)
        · have hf98 := hf97.know 67 (u := .bool true) rfl (congrArg Value.bool c67_5)
          refine seq_start (l := [0, 1, 2, 3, 4]) rfl ?_
          refine seq_one (op_val (v := .int .i64 (cntK m n : Int)) hf98 rfl rfl rfl rfl rfl rfl (r_move rfl) fun ac87 hf99 => ?_)
          refine seq_one (op_val (v := .slice q3 ((ofL m (n : Int) 16).length) capq3) hf99 rfl rfl rfl rfl rfl rfl (r_move rfl) fun ac88 hf100 => ?_)
          refine seq_one (op_val (v := .int .i64 ((ofL m (n : Int) 16).length : Int)) hf100 rfl rfl rfl rfl rfl rfl (r_len sl_27 rfl) fun ac89 hf101 => ?_)
          refine seq_one (op_val (v := .int .i64 ((cntK m (n + 1) : Nat) : Int)) hf101 rfl rfl rfl rfl rfl rfl (r_add (c := ((cntK m (n + 1) : Nat) : Int)) rfl rfl (by rw [cntK_add (of_decide_eq_true c67_5)]; exact wrap_i64 (by omega) (by have := @cntK_le m n; have := @ofL_len m (n : Int) 16; omega))) fun ac90 hf102 => ?_)
          refine seq_one (op_val (v := .int .i64 ((cntK m (n + 1) : Nat) : Int)) hf102 rfl rfl rfl rfl rfl rfl (r_assign rfl) fun ac91 hf103 => ?_)
          refine seq_end ?_
          clear hf97 ac86 hf98 ac87 hf99 ac88 hf100 ac89 hf101 ac90 hf102
          refine block_normal ?_
          refine then_normal ?_
          refine seq_start (l := [0, 1]) rfl ?_
          refine seq_one (op_val (v := .int .i64 ((n + 1 : Nat) : Int)) hf103 rfl rfl rfl rfl rfl rfl (r_add (c := ((n + 1 : Nat) : Int)) rfl rfl (wrap_i64 (by omega) (by omega))) fun ac92 hf104 => ?_)
          refine seq_one (op_val (v := .int .i64 ((n + 1 : Nat) : Int)) hf104 rfl rfl rfl rfl rfl rfl (r_move rfl) fun ac93 hf105 => ?_)
          refine seq_end ?_
          clear ac91 hf103 ac92 hf104
          refine then_normal ?_
          exact ⟨n + 1, (hf105.cons 0 rfl (hf105.cons 1 rfl (hf105.cons 3 rfl (hf105.cons 4 rfl (hf105.cons 13 rfl hf105.nil))))), ⟨(Inv.drop (A := [(0, arr .u8 usualL, tt), (b1, arr .u8 m, 22), (b2, arr .i64 (metL m (n + 1)), 33)]) (B := ([] ++ Sq3)) hI16 (fk_app (fresh_keys (ks := []) rfl fk_nil) hyq3)), (by have := of_decide_eq_true c14_1; omega)⟩, (by have := of_decide_eq_true c14_1; omega)⟩
        · have hf106 := hf97.know 67 (u := .bool false) rfl (congrArg Value.bool c67_5)
          refine wp_skip ?_
          refine block_normal ?_
          refine then_normal ?_
          refine seq_start (l := [0, 1]) rfl ?_
          refine seq_one (op_val (v := .int .i64 ((n + 1 : Nat) : Int)) hf106 rfl rfl rfl rfl rfl rfl (r_add (c := ((n + 1 : Nat) : Int)) rfl rfl (wrap_i64 (by omega) (by omega))) fun ac94 hf107 => ?_)
          refine seq_one (op_val (v := .int .i64 ((n + 1 : Nat) : Int)) hf107 rfl rfl rfl rfl rfl rfl (r_move rfl) fun ac95 hf108 => ?_)
          refine seq_end ?_
          clear hf97 ac86 hf106 ac94 hf107
          refine then_normal ?_
          rw [← cntK_same (of_decide_eq_false c67_5)] at hf108
          exact ⟨n + 1, (hf108.cons 0 rfl (hf108.cons 1 rfl (hf108.cons 3 rfl (hf108.cons 4 rfl (hf108.cons 13 rfl hf108.nil))))), ⟨(Inv.drop (A := [(0, arr .u8 usualL, tt), (b1, arr .u8 m, 22), (b2, arr .i64 (metL m (n + 1)), 33)]) (B := ([] ++ Sq3)) hI16 (fk_app (fresh_keys (ks := []) rfl fk_nil) hyq3)), (by have := of_decide_eq_true c14_1; omega)⟩, (by have := of_decide_eq_true c14_1; omega)⟩
    · have hf109 := hf8.know 14 (u := .bool false) rfl (congrArg Value.bool c14_1)
      refine wp_exit ?_
      refine then_exit ?_
      refine then_exit ?_
      refine block_here ?_
      refine then_normal ?_
      have en : n = 256 := by have := of_decide_eq_false c14_1; omega
      subst en
      clear hf8
      exact ⟨(hf109.cons 0 rfl (hf109.cons 1 rfl (hf109.cons 3 rfl (hf109.cons 4 rfl hf109.nil)))), hI7⟩
  ·
    intro ac96 wd11 hf110 hI17
    clear ac6 wd2 hf6 hI5
    refine then_normal ?_
    refine code_seq ?_
    refine code_seq ?_
    refine seq_start (l := [0, 1]) rfl ?_
    refine seq_one (op_val (v := .agg (arr .i64 (metL m 256))) hf110 rfl rfl rfl rfl rfl rfl (r_loadW ag_33 sz_33 rfl (hI17.at 2 rfl) (arr_size metL_len)) fun ac97 hf111 => ?_)
    refine seq_one (op_val (v := .int .i64 0) hf111 rfl rfl rfl rfl rfl rfl (r_move rfl) fun ac98 hf112 => ?_)
    refine seq_end ?_
    clear ac96 hf110 ac97 hf111
    refine then_normal ?_
    refine wp_block ?_
    refine code_loop (α := Nat) (fun (i : Nat) => [(0, .agg (arr .u8 m)), (1, .pointer (some ⟨b1, 0, none⟩)), (3, .pointer (some ⟨b2, 0, none⟩)), (4, .int .i64 (cntK m 256 : Int)), (73, .agg (arr .i64 (metL m 256))), (74, .int .i64 (i : Int))]) (fun (i : Nat) => fun wL => Inv w [(0, arr .u8 usualL, tt), (b1, arr .u8 m, 22), (b2, arr .i64 (metL m 256), 33)] wL ∧ (i ≤ 16)) (fun (i : Nat) => 16 - i) 0 (hf112.cons 0 rfl (hf112.cons 1 rfl (hf112.cons 3 rfl (hf112.cons 4 rfl (hf112.cons 73 rfl (hf112.cons 74 rfl hf112.nil)))))) ⟨hI17, Nat.zero_le _⟩ ?_
    intro i ac99 wd12 hf113 hL3
    obtain ⟨hI18, hx3⟩ := hL3
    clear ac98 wd11 hf112 hI17
    refine code_seq ?_
    refine seq_start (l := [0]) rfl ?_
    refine seq_one (op_val (v := .bool (decide ((i : Int) < 16))) hf113 rfl rfl rfl rfl rfl rfl (r_lss rfl rfl) fun ac100 hf114 => ?_)
    refine seq_end ?_
    clear ac99 hf113
    refine then_normal ?_
    refine code_seq ?_
    refine code_if hf114 rfl (fun c75_6 => ?_) (fun c75_6 => ?_)
    · have hf115 := hf114.know 75 (u := .bool true) rfl (congrArg Value.bool c75_6)
      refine wp_skip ?_
      refine then_normal ?_
      refine code_seq ?_
      refine wp_block ?_
      refine code_seq ?_
      refine seq_start (l := [0, 1]) rfl ?_
      refine seq_one (op_val (v := .int .i64 ((metL m 256).getD i 0)) hf115 rfl rfl rfl rfl rfl rfl (r_index (i := i) ar_33 ag_3 rfl rfl rfl (by have := of_decide_eq_true c75_6; omega) (arr_get1 (by rw [metL_len]; exact (by have := of_decide_eq_true c75_6; omega)))) fun ac101 hf116 => ?_)
      refine seq_one (op_val (v := .int .i64 ((metL m 256).getD i 0)) hf116 rfl rfl rfl rfl rfl rfl (r_assign rfl) fun ac102 hf117 => ?_)
      refine seq_end ?_
      clear hf114 ac100 hf115 ac101 hf116
      refine then_normal ?_
      refine code_seq ?_
      refine seq_start (l := [0, 1]) rfl ?_
      refine seq_one (op_val (v := .int .i64 ((metL m 256).getD i 0)) hf117 rfl rfl rfl rfl rfl rfl (r_move rfl) fun ac103 hf118 => ?_)
      refine seq_one (op_val (v := .bool (((metL m 256).getD i 0) != 1)) hf118 rfl rfl rfl rfl rfl rfl (r_neq rfl rfl) fun ac104 hf119 => ?_)
      refine seq_end ?_
      clear ac102 hf117 ac103 hf118
      refine then_normal ?_
      have hf120 := hf119.know 78 (u := .bool false) rfl (congrArg Value.bool (once_met hk (by have := of_decide_eq_true c75_6; omega)))
      refine code_if_false hf120 rfl ?_
      refine wp_skip ?_
      refine block_normal ?_
      refine then_normal ?_
      refine seq_start (l := [0, 1]) rfl ?_
      refine seq_one (op_val (v := .int .i64 ((i + 1 : Nat) : Int)) hf120 rfl rfl rfl rfl rfl rfl (r_add (c := ((i + 1 : Nat) : Int)) rfl rfl (wrap_i64 (by omega) (by omega))) fun ac105 hf121 => ?_)
      refine seq_one (op_val (v := .int .i64 ((i + 1 : Nat) : Int)) hf121 rfl rfl rfl rfl rfl rfl (r_move rfl) fun ac106 hf122 => ?_)
      refine seq_end ?_
      clear hf119 ac104 hf120 ac105 hf121
      refine then_normal ?_
      exact ⟨i + 1, (hf122.cons 0 rfl (hf122.cons 1 rfl (hf122.cons 3 rfl (hf122.cons 4 rfl (hf122.cons 73 rfl (hf122.cons 74 rfl hf122.nil)))))), ⟨hI18, (by have := of_decide_eq_true c75_6; omega)⟩, (by have := of_decide_eq_true c75_6; omega)⟩
    · have hf123 := hf114.know 75 (u := .bool false) rfl (congrArg Value.bool c75_6)
      refine wp_exit ?_
      refine then_exit ?_
      refine then_exit ?_
      refine block_here ?_
      refine then_normal ?_
      refine code_seq ?_
      refine seq_start (l := [0, 1, 2, 3, 4, 5, 6, 7, 8]) rfl ?_
      refine seq_one (op_val (v := .agg (arr .u8 m)) hf123 rfl rfl rfl rfl rfl rfl (r_loadW ag_22 sz_22 rfl (hI18.at 1 rfl) (arr_size hm)) fun ac107 hf124 => ?_)
      refine seq_one (op_pure hf124 rfl rfl rfl rfl ca_14 (right_pur m hm hk) hI18 fun ac108 wd13 hI19 hf125 => ?_)
      refine seq_one (op_val (v := .int .i64 (cntK m 256 : Int)) hf125 rfl rfl rfl rfl rfl rfl (r_move rfl) fun ac109 hf126 => ?_)
      refine seq_one (op_val (v := .bool ((cntK m 256 : Int) == 16)) hf126 rfl rfl rfl rfl rfl rfl (r_eql rfl rfl) fun ac110 hf127 => ?_)
      refine seq_one (op_val (v := .bool ((rightF m) == ((cntK m 256 : Int) == 16))) hf127 rfl rfl rfl rfl rfl rfl (r_eqB ub_4 rfl rfl) fun ac111 hf128 => ?_)
      refine seq_one (op_val (v := .bool ((rightF m) == ((cntK m 256 : Int) == 16))) hf128 rfl rfl rfl rfl rfl rfl (r_move rfl) fun ac112 hf129 => ?_)
      have hf130 := hf129.know 85 (u := .bool true) rfl (congrArg Value.bool (once_85 hm hk))
      refine seq_one (op_pureW hf130 rfl rfl rfl rfl ca_23 (awake_walk tt _ (Has.cons (hI19.at 0 rfl) Has.nil)) hI19 fun ac113 wd14 hI20 hf131 => ?_)
      refine seq_one (op_val (v := .bool true) hf131 rfl rfl rfl rfl rfl rfl (r_pickT rfl rfl) fun ac114 hf132 => ?_)
      refine seq_one (op_val (v := .bool true) hf132 rfl rfl rfl rfl rfl rfl (r_assign rfl) fun ac115 hf133 => ?_)
      refine seq_end ?_
      clear hf114 ac100 hf123 ac107 wd12 hI18 hf124 ac108 hf125 ac109 hf126 ac110 hf127 ac111 hf128 hf129 ac112 wd13 hI19 hf130 ac113 hf131 ac114 hf132
      refine then_normal ?_
      refine wp_ret ?_
      refine post1 rfl hf133 rfl ⟨?_, Inv.unread (A := [(0, arr .u8 usualL, tt)]) (Inv.drop (A := [(0, arr .u8 usualL, tt)]) (B := [(b1, arr .u8 m, 22), (b2, arr .i64 (metL m 256), 33)]) hI20 (fresh_keys (ks := [b1, b2]) rfl (fk_cons hb1 (fk_cons hb2 fk_nil)))) h0⟩
      rfl
end Go.Proofs.YtakkookpjhaekaaDoor
