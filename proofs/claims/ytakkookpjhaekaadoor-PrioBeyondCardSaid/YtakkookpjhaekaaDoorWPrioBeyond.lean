/-
  The walk of PrioBeyond.
-/
import Derived.Test.YtakkookpjhaekaaDoorPlain
import Derived.Test.YtakkookpjhaekaaDoorPlain2
namespace Go.Proofs.YtakkookpjhaekaaDoor
set_option linter.unusedVariables false
set_option linter.unusedSimpArgs false
set_option maxRecDepth 100000
open Go.RowKit
set_option maxHeartbeats 8000000 in
theorem prioBeyond_walk (m : List Int) (hm : m.length = 16) (hk : InK .u8 m) (p n a : Int) (pl : 0 ≤ p) (pr : p ≤ 255) (nl : 0 ≤ n) (nr : n ≤ 255) (q : Nat) (hq : q < 16) (hp : a.tmod 16 = (q : Int)) (tt : TypeId) (w : World) (h0 : Has [(0, arr .u8 usualL, tt)] w) : Calls Tryd.prog 7 [.agg (arr .u8 m), .int .u8 p, .int .u8 n, .int .u8 a].toArray w fun e w' => e = .returned (.bool true) ∧ Inv w [] w' := by
  have hI1 := Inv.startS h0 (List.pairwise_singleton _ _)
  refine enter (n := 71) Tryd.func7 rfl rfl rfl ?_
  intro ac1 hf1
  refine code_seq ?_
  refine seq_start (l := [0, 1]) rfl ?_
  refine seq_one (op_box hf1 rfl rfl rfl rfl hI1 fun ac2 b1 wd1 hb1 hI2 hf2 => ?_)
  have hI3 : Inv w [(0, arr .u8 usualL, tt), (b1, arr .u8 m, 22)] wd1 := hI2
  refine seq_one (op_val (v := .bool false) hf2 rfl rfl rfl rfl rfl rfl (r_assign rfl) fun ac3 hf3 => ?_)
  refine seq_end ?_
  clear ac1 hI1 hf1 hI2 ac2 hf2
  refine then_normal ?_
  refine code_seq ?_
  refine code_seq ?_
  refine seq_start (l := [0]) rfl ?_
  refine seq_one (op_val (v := .int .i64 0) hf3 rfl rfl rfl rfl rfl rfl (r_move rfl) fun ac4 hf4 => ?_)
  refine seq_end ?_
  clear ac3 hf3
  refine then_normal ?_
  refine code_join 71 ([(0, .agg (arr .u8 m)), (1, .int .u8 p), (2, .int .u8 n), (3, .int .u8 a), (4, .pointer (some ⟨b1, 0, none⟩)), (8, .bool false)]) (fun w' => Inv w [(0, arr .u8 usualL, tt), (b1, arr .u8 (mod4 m 16), 22)] w') ?_ ?_
  ·
    refine wp_block ?_
    have hI4 : Inv w [(0, arr .u8 usualL, tt), (b1, arr .u8 (mod4 m 0), 22)] wd1 := by rw [mod4_zero hm]; exact hI3
    refine code_loop (α := Nat) (fun (i : Nat) => [(0, .agg (arr .u8 m)), (1, .int .u8 p), (2, .int .u8 n), (3, .int .u8 a), (4, .pointer (some ⟨b1, 0, none⟩)), (8, .bool false), (13, .int .i64 (i : Int))]) (fun (i : Nat) => fun wL => Inv w [(0, arr .u8 usualL, tt), (b1, arr .u8 (mod4 m i), 22)] wL ∧ (i ≤ 16)) (fun (i : Nat) => 16 - i) 0 (hf4.cons 0 rfl (hf4.cons 1 rfl (hf4.cons 2 rfl (hf4.cons 3 rfl (hf4.cons 4 rfl (hf4.cons 8 rfl (hf4.cons 13 rfl hf4.nil))))))) ⟨hI4, Nat.zero_le _⟩ ?_
    intro i ac5 wd2 hf5 hL1
    obtain ⟨hI5, hx1⟩ := hL1
    clear hI3 ac4 wd1 hf4 hI4
    refine code_seq ?_
    refine seq_start (l := [0]) rfl ?_
    refine seq_one (op_val (v := .bool (decide ((i : Int) < 16))) hf5 rfl rfl rfl rfl rfl rfl (r_lss rfl rfl) fun ac6 hf6 => ?_)
    refine seq_end ?_
    clear ac5 hf5
    refine then_normal ?_
    refine code_seq ?_
    refine code_if hf6 rfl (fun c14_1 => ?_) (fun c14_1 => ?_)
    · have hf7 := hf6.know 14 (u := .bool true) rfl (congrArg Value.bool c14_1)
      refine wp_skip ?_
      refine then_normal ?_
      refine code_seq ?_
      refine wp_block ?_
      refine code_seq ?_
      refine seq_start (l := [0, 1]) rfl ?_
      refine seq_one (op_val (v := .int .i64 (i : Int)) hf7 rfl rfl rfl rfl rfl rfl (r_move rfl) fun ac7 hf8 => ?_)
      refine seq_one (op_val (v := .int .i64 (i : Int)) hf8 rfl rfl rfl rfl rfl rfl (r_assign rfl) fun ac8 hf9 => ?_)
      refine seq_end ?_
      clear hf6 ac6 hf7 ac7 hf8
      refine then_normal ?_
      refine seq_start (l := [0, 1, 2, 3, 4, 5]) rfl ?_
      refine seq_one (op_val (v := .int .i64 (i : Int)) hf9 rfl rfl rfl rfl rfl rfl (r_move rfl) fun ac9 hf10 => ?_)
      refine seq_one (op_val (v := .pointer (some ⟨b1, i, none⟩)) hf10 rfl rfl rfl rfl rfl rfl (r_indexAddr (i := i) ar_22 rfl rfl rfl (by have := of_decide_eq_true c14_1; omega) (by rw [Nat.mul_one, Nat.zero_add])) fun ac10 hf11 => ?_)
      refine seq_one (op_val (v := .int .u8 ((mod4 m i).getD i 0)) hf11 rfl rfl rfl rfl rfl rfl (r_load ag_5 rfl (hI5.at 1 rfl) (arr_get (by rw [mod4_len]; exact (by have := of_decide_eq_true c14_1; omega)))) fun ac11 hf12 => ?_)
      refine seq_one (op_val (v := .int .u8 ((m.getD i 0).tmod 4)) hf12 rfl rfl rfl rfl rfl rfl (r_rem (c := ((m.getD i 0).tmod 4)) rfl rfl (by omega) (by rw [mod4_get (show i < 16 by have := of_decide_eq_true c14_1; omega), if_neg (Nat.lt_irrefl _)])) fun ac12 hf13 => ?_)
      refine seq_one (op_val (v := .pointer (some ⟨b1, i, none⟩)) hf13 rfl rfl rfl rfl rfl rfl (r_indexAddr (i := i) ar_22 rfl rfl rfl (by have := of_decide_eq_true c14_1; omega) (by rw [Nat.mul_one, Nat.zero_add])) fun ac13 hf14 => ?_)
      refine seq_one (op_store (cs' := arr .u8 ((mod4 m i).set i ((m.getD i 0).tmod 4))) 1 hf14 rfl rfl rfl rfl rfl sz_5 hI5 rfl (by rw [arr_size mod4_len]; exact (by have := of_decide_eq_true c14_1; omega)) arr_set fun wd3 hI6 => ?_)
      rw [mod4_set (by have := of_decide_eq_true c14_1; omega) rfl] at hI6
      refine seq_end ?_
      clear ac8 hf9 ac9 hf10 ac10 hf11 ac11 hf12 ac12 hf13 wd2 hI5
      refine block_normal ?_
      refine then_normal ?_
      refine seq_start (l := [0, 1]) rfl ?_
      refine seq_one (op_val (v := .int .i64 ((i + 1 : Nat) : Int)) hf14 rfl rfl rfl rfl rfl rfl (r_add (c := ((i + 1 : Nat) : Int)) rfl rfl (wrap_i64 (by omega) (by omega))) fun ac14 hf15 => ?_)
      refine seq_one (op_val (v := .int .i64 ((i + 1 : Nat) : Int)) hf15 rfl rfl rfl rfl rfl rfl (r_move rfl) fun ac15 hf16 => ?_)
      refine seq_end ?_
      clear ac13 hf14 ac14 hf15
      refine then_normal ?_
      exact ⟨i + 1, (hf16.cons 0 rfl (hf16.cons 1 rfl (hf16.cons 2 rfl (hf16.cons 3 rfl (hf16.cons 4 rfl (hf16.cons 8 rfl (hf16.cons 13 rfl hf16.nil))))))), ⟨hI6, (by have := of_decide_eq_true c14_1; omega)⟩, (by have := of_decide_eq_true c14_1; omega)⟩
    · have hf17 := hf6.know 14 (u := .bool false) rfl (congrArg Value.bool c14_1)
      refine wp_exit ?_
      refine then_exit ?_
      refine then_exit ?_
      refine block_here ?_
      refine then_normal ?_
      have e16 : i = 16 := by have := of_decide_eq_false c14_1; omega
      subst e16
      clear hf6
      exact ⟨(hf17.cons 0 rfl (hf17.cons 1 rfl (hf17.cons 2 rfl (hf17.cons 3 rfl (hf17.cons 4 rfl (hf17.cons 8 rfl hf17.nil)))))), hI5⟩
  ·
    intro ac16 wd4 hf18 hI7
    clear ac4 wd1 hf4 hI3
    refine then_normal ?_
    refine code_seq ?_
    refine seq_start (l := [0, 1, 2, 3, 4, 5]) rfl ?_
    refine seq_one (op_val (v := .int .u8 p) hf18 rfl rfl rfl rfl rfl rfl (r_move rfl) fun ac17 hf19 => ?_)
    refine seq_one (op_val (v := .int .u8 (if 16 > p then 16 else p)) hf19 rfl rfl rfl rfl rfl rfl (r_max rfl rfl) fun ac18 hf20 => ?_)
    refine seq_one (op_val (v := .int .u8 n) hf20 rfl rfl rfl rfl rfl rfl (r_move rfl) fun ac19 hf21 => ?_)
    refine seq_one (op_val (v := .int .u8 (if 4 > n then 4 else n)) hf21 rfl rfl rfl rfl rfl rfl (r_max rfl rfl) fun ac20 hf22 => ?_)
    refine seq_one (op_val (v := .int .u8 (if 16 > p then 16 else p)) hf22 rfl rfl rfl rfl rfl rfl (r_assign rfl) fun ac21 hf23 => ?_)
    refine seq_one (op_val (v := .int .u8 (if 4 > n then 4 else n)) hf23 rfl rfl rfl rfl rfl rfl (r_assign rfl) fun ac22 hf24 => ?_)
    refine seq_end ?_
    clear ac16 hf18 ac17 hf19 ac18 hf20 ac19 hf21 ac20 hf22 ac21 hf23
    refine then_normal ?_
    refine code_seq ?_
    refine seq_start (l := [0, 1, 2, 3, 4, 5, 6, 7]) rfl ?_
    refine seq_one (op_val (v := .agg (arr .u8 (mod4 m 16))) hf24 rfl rfl rfl rfl rfl rfl (r_loadW ag_22 sz_22 rfl (hI7.at 1 rfl) (arr_size mod4_len)) fun ac23 hf25 => ?_)
    refine seq_one (op_val (v := .int .u8 (if 16 > p then 16 else p)) hf25 rfl rfl rfl rfl rfl rfl (r_move rfl) fun ac24 hf26 => ?_)
    refine seq_one (op_pure hf26 rfl rfl rfl rfl ca_12 (band_pur (mod4 m 16) mod4_len (mod4_ink hk) (if 16 > p then 16 else p) (by split <;> omega) (by split <;> omega)) hI7 fun ac25 wd5 hI8 hf27 => ?_)
    refine seq_one (op_val (v := .tuple #[.int .i64 ((bandF (mod4 m 16) (if 16 > p then 16 else p)).1), .bool ((bandF (mod4 m 16) (if 16 > p then 16 else p)).2)]) hf27 rfl rfl rfl rfl rfl rfl (r_move rfl) fun ac26 hf28 => ?_)
    refine seq_one (op_val (v := .int .i64 ((bandF (mod4 m 16) (if 16 > p then 16 else p)).1)) hf28 rfl rfl rfl rfl rfl rfl (r_extract rfl rfl) fun ac27 hf29 => ?_)
    refine seq_one (op_val (v := .bool ((bandF (mod4 m 16) (if 16 > p then 16 else p)).2)) hf29 rfl rfl rfl rfl rfl rfl (r_extract rfl rfl) fun ac28 hf30 => ?_)
    refine seq_one (op_val (v := .int .i64 ((bandF (mod4 m 16) (if 16 > p then 16 else p)).1)) hf30 rfl rfl rfl rfl rfl rfl (r_assign rfl) fun ac29 hf31 => ?_)
    refine seq_one (op_val (v := .bool ((bandF (mod4 m 16) (if 16 > p then 16 else p)).2)) hf31 rfl rfl rfl rfl rfl rfl (r_assign rfl) fun ac30 hf32 => ?_)
    refine seq_end ?_
    clear ac22 hf24 ac23 hf25 ac24 wd4 hI7 hf26 ac25 hf27 ac26 hf28 ac27 hf29 ac28 hf30 ac29 hf31
    refine then_normal ?_
    refine code_seq ?_
    refine seq_start (l := [0, 1, 2]) rfl ?_
    refine seq_one (op_val (v := .agg (arr .u8 (mod4 m 16))) hf32 rfl rfl rfl rfl rfl rfl (r_loadW ag_22 sz_22 rfl (hI8.at 1 rfl) (arr_size mod4_len)) fun ac31 hf33 => ?_)
    refine seq_one (op_alloc hf33 rfl rfl rfl ze_22 hI8 fun ac32 b2 wd6 hb2 hI9 hf34 => ?_)
    have hI10 : Inv w [(0, arr .u8 usualL, tt), (b1, arr .u8 (mod4 m 16), 22), (b2, #[.int .u8 0, .int .u8 0, .int .u8 0, .int .u8 0, .int .u8 0, .int .u8 0, .int .u8 0, .int .u8 0, .int .u8 0, .int .u8 0, .int .u8 0, .int .u8 0, .int .u8 0, .int .u8 0, .int .u8 0, .int .u8 0], 22)] wd6 := hI9
    refine seq_one (op_storeW (cells := arr .u8 (mod4 m 16)) 2 hf34 rfl rfl rfl rfl rfl sz_22 (arr_size mod4_len) arr_one hI10 rfl rfl fun wd7 hI11 => ?_)
    have hI12 : Inv w [(0, arr .u8 usualL, tt), (b1, arr .u8 (mod4 m 16), 22), (b2, arr .u8 (mod4 m 16), 22)] wd7 := hI11
    refine seq_end ?_
    clear ac30 hf32 ac31 wd5 hI8 hf33 hI9 wd6 hI10 hI11
    refine then_normal ?_
    refine code_seq ?_
    refine seq_start (l := [0, 1, 2, 3, 4]) rfl ?_
    refine seq_one (op_val (v := .int .u8 a) hf34 rfl rfl rfl rfl rfl rfl (r_move rfl) fun ac33 hf35 => ?_)
    refine seq_one (op_val (v := .int .u8 (q : Int)) hf35 rfl rfl rfl rfl rfl rfl (r_rem (c := (q : Int)) rfl rfl (by omega) hp) fun ac34 hf36 => ?_)
    refine seq_one (op_val (v := .int .u8 (if 4 > n then 4 else n)) hf36 rfl rfl rfl rfl rfl rfl (r_move rfl) fun ac35 hf37 => ?_)
    refine seq_one (op_val (v := .pointer (some ⟨b2, q, none⟩)) hf37 rfl rfl rfl rfl rfl rfl (r_indexAddr (i := q) ar_22 rfl rfl rfl hq (by rw [Nat.mul_one, Nat.zero_add])) fun ac36 hf38 => ?_)
    refine seq_one (op_store (cs' := arr .u8 ((mod4 m 16).set q (if 4 > n then 4 else n))) 2 hf38 rfl rfl rfl rfl rfl sz_5 hI12 rfl (by rw [arr_size mod4_len]; exact hq) arr_set fun wd8 hI13 => ?_)
    have hI14 : Inv w [(0, arr .u8 usualL, tt), (b1, arr .u8 (mod4 m 16), 22), (b2, arr .u8 ((mod4 m 16).set q (if 4 > n then 4 else n)), 22)] wd8 := hI13
    refine seq_end ?_
    clear ac32 hf34 ac33 hf35 ac34 hf36 ac35 hf37 wd7 hI12 hI13
    refine then_normal ?_
    refine code_seq ?_
    refine seq_start (l := [0, 1, 2, 3, 4, 5, 6, 7, 8, 9, 10, 11, 12, 13, 14, 15, 16, 17, 18, 19, 20, 21, 22, 23, 24, 25, 26, 27, 28, 29, 30, 31, 32, 33, 34]) rfl ?_
    refine seq_one (op_val (v := .agg (arr .u8 (mod4 m 16))) hf38 rfl rfl rfl rfl rfl rfl (r_loadW ag_22 sz_22 rfl (hI14.at 1 rfl) (arr_size mod4_len)) fun ac37 hf39 => ?_)
    refine seq_one (op_pure hf39 rfl rfl rfl rfl ca_14 (right_pur (mod4 m 16) mod4_len (mod4_ink hk)) hI14 fun ac38 wd9 hI15 hf40 => ?_)
    refine seq_one (op_val (v := .bool (rightF (mod4 m 16))) hf40 rfl rfl rfl rfl rfl rfl (r_move rfl) fun ac39 hf41 => ?_)
    have hf42 := hf41.know 39 (u := .bool true) rfl (congrArg Value.bool (right_mod4 hk))
    refine seq_one (op_val (v := .agg (arr .u8 ((mod4 m 16).set q (if 4 > n then 4 else n)))) hf42 rfl rfl rfl rfl rfl rfl (r_loadW ag_22 sz_22 rfl (hI15.at 2 rfl) (arr_size (List.length_set.trans mod4_len))) fun ac40 hf43 => ?_)
    refine seq_one (op_pure hf43 rfl rfl rfl rfl ca_14 (right_pur ((mod4 m 16).set q (if 4 > n then 4 else n)) (List.length_set.trans mod4_len) ((mod4_ink hk).set (wf8_of (by split <;> omega) (by split <;> omega)))) hI15 fun ac41 wd10 hI16 hf44 => ?_)
    refine seq_one (op_val (v := .bool (!(rightF ((mod4 m 16).set q (if 4 > n then 4 else n))))) hf44 rfl rfl rfl rfl rfl rfl (r_not rfl) fun ac42 hf45 => ?_)
    refine seq_one (op_val (v := .bool (!(rightF ((mod4 m 16).set q (if 4 > n then 4 else n))))) hf45 rfl rfl rfl rfl rfl rfl (r_pickT rfl rfl) fun ac43 hf46 => ?_)
    refine seq_one (op_val (v := .bool (!(rightF ((mod4 m 16).set q (if 4 > n then 4 else n))))) hf46 rfl rfl rfl rfl rfl rfl (r_move rfl) fun ac44 hf47 => ?_)
    have hf48 := hf47.know 44 (u := .bool true) rfl (congrArg Value.bool (right_bad hq (by split <;> omega)))
    refine seq_one (op_val (v := .int .i64 ((bandF (mod4 m 16) (if 16 > p then 16 else p)).1)) hf48 rfl rfl rfl rfl rfl rfl (r_move rfl) fun ac45 hf49 => ?_)
    refine seq_one (op_val (v := .bool (((bandF (mod4 m 16) (if 16 > p then 16 else p)).1) == 0)) hf49 rfl rfl rfl rfl rfl rfl (r_eql rfl rfl) fun ac46 hf50 => ?_)
    refine seq_one (op_val (v := .bool (((bandF (mod4 m 16) (if 16 > p then 16 else p)).1) == 0)) hf50 rfl rfl rfl rfl rfl rfl (r_pickT rfl rfl) fun ac47 hf51 => ?_)
    refine seq_one (op_val (v := .bool (((bandF (mod4 m 16) (if 16 > p then 16 else p)).1) == 0)) hf51 rfl rfl rfl rfl rfl rfl (r_move rfl) fun ac48 hf52 => ?_)
    have hf53 := hf52.know 48 (u := .bool true) rfl (congrArg Value.bool (by rw [bandF_none (.inl (by split <;> omega))]; rfl))
    refine seq_one (op_val (v := .bool ((bandF (mod4 m 16) (if 16 > p then 16 else p)).2)) hf53 rfl rfl rfl rfl rfl rfl (r_move rfl) fun ac49 hf54 => ?_)
    refine seq_one (op_val (v := .bool (!((bandF (mod4 m 16) (if 16 > p then 16 else p)).2))) hf54 rfl rfl rfl rfl rfl rfl (r_not rfl) fun ac50 hf55 => ?_)
    refine seq_one (op_val (v := .bool (!((bandF (mod4 m 16) (if 16 > p then 16 else p)).2))) hf55 rfl rfl rfl rfl rfl rfl (r_pickT rfl rfl) fun ac51 hf56 => ?_)
    refine seq_one (op_val (v := .bool (!((bandF (mod4 m 16) (if 16 > p then 16 else p)).2))) hf56 rfl rfl rfl rfl rfl rfl (r_move rfl) fun ac52 hf57 => ?_)
    have hf58 := hf57.know 52 (u := .bool true) rfl (congrArg Value.bool (by rw [bandF_none (.inl (by split <;> omega))]; rfl))
    refine seq_one (op_val (v := .agg (arr .u8 (mod4 m 16))) hf58 rfl rfl rfl rfl rfl rfl (r_loadW ag_22 sz_22 rfl (hI16.at 1 rfl) (arr_size mod4_len)) fun ac53 hf59 => ?_)
    refine seq_one (op_val (v := .int .u8 (if 4 > n then 4 else n)) hf59 rfl rfl rfl rfl rfl rfl (r_move rfl) fun ac54 hf60 => ?_)
    refine seq_one (op_call (R := fun v w' => ∃ S p cap, v = .slice p (ofL (mod4 m 16) (if 4 > n then 4 else n) 16).length cap ∧ Sl 5 .u8 S p cap (ofL (mod4 m 16) (if 4 > n then 4 else n) 16) ∧ Inv wd10 S w' ∧ ∀ x ∈ S, wd10.heap.size ≤ x.1) hf60 rfl rfl rfl rfl ca_17 ((of_mk (mod4 m 16) mod4_len (mod4_ink hk) (if 4 > n then 4 else n) _).mono fun _ _ ⟨S, p, cap, he, h1, _, h3, h4⟩ => ⟨_, he, S, p, cap, rfl, h1, h3, h4⟩) fun ac55 v wd11 hR hf61 => ?_)
    obtain ⟨Sq3, q3, capq3, rfl, hsq3, hwq3, hzq3⟩ := hR
    have hyq3 := fk_le hI16.size hzq3
    have hI17 : Inv w ([(0, arr .u8 usualL, tt), (b1, arr .u8 (mod4 m 16), 22), (b2, arr .u8 ((mod4 m 16).set q (if 4 > n then 4 else n)), 22)] ++ Sq3) _ := hI16.callN hwq3 hzq3
    refine seq_one (op_val (v := .int .i64 ((ofL (mod4 m 16) (if 4 > n then 4 else n) 16).length : Int)) hf61 rfl rfl rfl rfl rfl rfl (r_len sl_27 rfl) fun ac56 hf62 => ?_)
    refine seq_one (op_val (v := .bool (((ofL (mod4 m 16) (if 4 > n then 4 else n) 16).length : Int) == 0)) hf62 rfl rfl rfl rfl rfl rfl (r_eql rfl rfl) fun ac57 hf63 => ?_)
    refine seq_one (op_val (v := .bool (((ofL (mod4 m 16) (if 4 > n then 4 else n) 16).length : Int) == 0)) hf63 rfl rfl rfl rfl rfl rfl (r_pickT rfl rfl) fun ac58 hf64 => ?_)
    refine seq_one (op_val (v := .bool (((ofL (mod4 m 16) (if 4 > n then 4 else n) 16).length : Int) == 0)) hf64 rfl rfl rfl rfl rfl rfl (r_move rfl) fun ac59 hf65 => ?_)
    have hf66 := hf65.know 59 (u := .bool true) rfl (congrArg Value.bool (of_none hk (by split <;> omega)))
    refine seq_one (op_val (v := .agg (arr .u8 ((mod4 m 16).set q (if 4 > n then 4 else n)))) hf66 rfl rfl rfl rfl rfl rfl (r_loadW ag_22 sz_22 rfl (hI17.at 2 rfl) (arr_size (List.length_set.trans mod4_len))) fun ac60 hf67 => ?_)
    refine seq_one (op_val (v := .int .u8 (if 4 > n then 4 else n)) hf67 rfl rfl rfl rfl rfl rfl (r_move rfl) fun ac61 hf68 => ?_)
    refine seq_one (op_call (R := fun v w' => ∃ S p cap, v = .slice p (ofL ((mod4 m 16).set q (if 4 > n then 4 else n)) (if 4 > n then 4 else n) 16).length cap ∧ Sl 5 .u8 S p cap (ofL ((mod4 m 16).set q (if 4 > n then 4 else n)) (if 4 > n then 4 else n) 16) ∧ Inv wd11 S w' ∧ ∀ x ∈ S, wd11.heap.size ≤ x.1) hf68 rfl rfl rfl rfl ca_17 ((of_mk ((mod4 m 16).set q (if 4 > n then 4 else n)) (List.length_set.trans mod4_len) ((mod4_ink hk).set (wf8_of (by split <;> omega) (by split <;> omega))) (if 4 > n then 4 else n) _).mono fun _ _ ⟨S, p, cap, he, h1, _, h3, h4⟩ => ⟨_, he, S, p, cap, rfl, h1, h3, h4⟩) fun ac62 v wd12 hR hf69 => ?_)
    obtain ⟨Sq4, q4, capq4, rfl, hsq4, hwq4, hzq4⟩ := hR
    have hyq4 := fk_le hI17.size hzq4
    have hI18 : Inv w ([(0, arr .u8 usualL, tt), (b1, arr .u8 (mod4 m 16), 22), (b2, arr .u8 ((mod4 m 16).set q (if 4 > n then 4 else n)), 22)] ++ (Sq3 ++ Sq4)) _ := hI17.callN hwq4 hzq4
    refine seq_one (op_val (v := .int .u8 a) hf69 rfl rfl rfl rfl rfl rfl (r_move rfl) fun ac63 hf70 => ?_)
    refine seq_one (op_val (v := .int .u8 (q : Int)) hf70 rfl rfl rfl rfl rfl rfl (r_rem (c := (q : Int)) rfl rfl (by omega) hp) fun ac64 hf71 => ?_)
    refine seq_one (op_bslice (s := 5) (cells := #[.int .u8 (q : Int)]) hf71 rfl rfl rfl rfl rfl (fun _ => by kernel_rfl) hI18 fun ac65 b5 wd13 hb5 hI19 hf72 => ?_)
    have hI20 : Inv w ([(0, arr .u8 usualL, tt), (b1, arr .u8 (mod4 m 16), 22), (b2, arr .u8 ((mod4 m 16).set q (if 4 > n then 4 else n)), 22), (b5, #[.int .u8 (q : Int)], 5)] ++ (Sq3 ++ Sq4)) wd13 := Inv.tail (A := [(0, arr .u8 usualL, tt), (b1, arr .u8 (mod4 m 16), 22), (b2, arr .u8 ((mod4 m 16).set q (if 4 > n then 4 else n)), 22)]) (T := (Sq3 ++ Sq4)) (N := [(b5, #[.int .u8 (q : Int)], 5)]) hI19
    refine seq_one (op_pureW hf72 rfl rfl rfl rfl ca_16 (same_walk (xs := ofL ((mod4 m 16).set q (if 4 > n then 4 else n)) (if 4 > n then 4 else n) 16) (ys := [(q : Int)]) (hsq4.rd hI20 (fun x hx => List.mem_append_right _ (List.mem_append_right _ hx))) (Rd.blk (xs := [(q : Int)]) (hI20.at 3 rfl) rfl) ofL_u8 (ink1 (wf8_of (by omega) (by omega)))) hI20 fun ac66 wd14 hI21 hf73 => ?_)
    refine seq_one (op_val (v := .bool ((ofL ((mod4 m 16).set q (if 4 > n then 4 else n)) (if 4 > n then 4 else n) 16) == [(q : Int)])) hf73 rfl rfl rfl rfl rfl rfl (r_pickT rfl rfl) fun ac67 hf74 => ?_)
    refine seq_one (op_val (v := .bool ((ofL ((mod4 m 16).set q (if 4 > n then 4 else n)) (if 4 > n then 4 else n) 16) == [(q : Int)])) hf74 rfl rfl rfl rfl rfl rfl (r_move rfl) fun ac68 hf75 => ?_)
    have hf76 := hf75.know 68 (u := .bool true) rfl (congrArg Value.bool (of_bad hk hq (by split <;> omega)))
    refine seq_one (op_pureW hf76 rfl rfl rfl rfl ca_23 (awake_walk tt _ (Has.cons (hI21.at 0 rfl) Has.nil)) hI21 fun ac69 wd15 hI22 hf77 => ?_)
    refine seq_one (op_val (v := .bool true) hf77 rfl rfl rfl rfl rfl rfl (r_pickT rfl rfl) fun ac70 hf78 => ?_)
    refine seq_one (op_val (v := .bool true) hf78 rfl rfl rfl rfl rfl rfl (r_assign rfl) fun ac71 hf79 => ?_)
    refine seq_end ?_
    clear ac36 hf38 ac37 wd8 hI14 hf39 ac38 hf40 hf41 ac39 hf42 ac40 wd9 hI15 hf43 ac41 hf44 ac42 hf45 ac43 hf46 hf47 ac44 hf48 ac45 hf49 ac46 hf50 ac47 hf51 hf52 ac48 hf53 ac49 hf54 ac50 hf55 ac51 hf56 hf57 ac52 hf58 ac53 hf59 ac54 wd10 hf60 hI16 hwq3 hzq3 ac55 hf61 ac56 hf62 ac57 hf63 ac58 hf64 hf65 ac59 hf66 ac60 hf67 ac61 wd11 hf68 hI17 hwq4 hzq4 ac62 hf69 ac63 hf70 ac64 wd12 hI18 hf71 hI19 ac65 wd13 hI20 hf72 ac66 hf73 ac67 hf74 hf75 ac68 wd14 hI21 hf76 ac69 hf77 ac70 hf78
    refine then_normal ?_
    refine wp_ret ?_
    refine post1 rfl hf79 rfl ⟨?_, Inv.unread (A := [(0, arr .u8 usualL, tt)]) (Inv.drop (A := [(0, arr .u8 usualL, tt)]) (B := ([(b1, arr .u8 (mod4 m 16), 22), (b2, arr .u8 ((mod4 m 16).set q (if 4 > n then 4 else n)), 22), (b5, #[.int .u8 (q : Int)], 5)] ++ (Sq3 ++ Sq4))) hI22 (fk_app (fresh_keys (ks := [b1, b2, b5]) rfl (fk_cons hb1 (fk_cons hb2 (fk_cons hb5 fk_nil)))) (fk_app hyq3 hyq4))) h0⟩
    rfl
end Go.Proofs.YtakkookpjhaekaaDoor
