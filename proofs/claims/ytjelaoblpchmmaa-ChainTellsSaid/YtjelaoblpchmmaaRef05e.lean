/-
  The reference of lists, fifth part: Pop.
-/
import Derived.Test.YtjelaoblpchmmaaRef05d
namespace Go.Proofs.Ytjelaoblpchmmaa
set_option linter.unusedVariables false
set_option linter.unusedSimpArgs false
set_option maxRecDepth 100000
open Go.RowKit
set_option maxHeartbeats 8000000 in
theorem rpop_walk {N K : Nat} {c : Ch N K} {LL : List En} (hc : c.Lof LL) {P : Option Addr} {C : Nat} (hlC : LL.length ≤ C) {w : World} (hr0 : Rows_ w P 1 (rws LL)) (hrd : ∀ e ∈ LL, Rd w .i64 e.1 e.2.2) {l : Int} : Calls Try.prog 37 [.agg #[.int .i64 (N : Int), .slice P LL.length C], .int .i64 l].toArray w fun e w' => ∃ S P2 C2 L2, e = .returned (.tuple #[.agg #[.int .i64 (N : Int), .slice P2 (List.length L2) C2], .int .i64 (c.fst l), .bool (c.some_ l)]) ∧ Inv w S w' ∧ (∀ x ∈ S, w.heap.size ≤ x.1) ∧ Ch.Lof (c.pop l) L2 ∧ ∀ w0 SB, VL w0 SB P C LL → VL w0 (SB ++ S) P2 C2 L2 := by
  have hk := hc.len
  have hK := c.hK
  have hN := c.hN
  have hI1 := Inv.start w
  refine enter (n := 29) Try.func37 rfl rfl rfl ?_
  intro ac1 hf1
  refine code_seq ?_
  refine seq_start (l := [0, 1, 2, 3]) rfl ?_
  refine seq_one (op_box hf1 rfl rfl rfl rfl hI1 fun ac2 b1 wd1 hb1 hI2 hf2 => ?_)
  have hI3 : Inv w [(b1, #[.int .i64 (N : Int), .slice P LL.length C], 63)] wd1 := hI2
  refine seq_one (op_alloc hf2 rfl rfl rfl ze_63 hI3 fun ac3 b2 wd2 hb2 hI4 hf3 => ?_)
  have hI5 : Inv w [(b1, #[.int .i64 (N : Int), .slice P LL.length C], 63), (b2, #[.int .i64 0, .slice none 0 0], 63)] wd2 := hI4
  refine seq_one (op_val (v := .int .i64 0) hf3 rfl rfl rfl rfl rfl rfl (r_assign rfl) fun ac4 hf4 => ?_)
  refine seq_one (op_val (v := .bool false) hf4 rfl rfl rfl rfl rfl rfl (r_assign rfl) fun ac5 hf5 => ?_)
  refine seq_end ?_
  clear ac1 hI1 hf1 hI2 ac2 wd1 hI3 hf2 hI4 ac3 hf3 ac4 hf4
  refine then_normal ?_
  refine code_seq ?_
  refine seq_start (l := [0, 1, 2, 3]) rfl ?_
  refine seq_one (op_val (v := .agg #[.int .i64 (N : Int), .slice P LL.length C]) hf5 rfl rfl rfl rfl rfl rfl (r_loadW ag_63 sz_63 rfl (hI5.at 0 rfl) rfl) fun ac6 hf6 => ?_)
  refine seq_one (op_val (v := .int .i64 l) hf6 rfl rfl rfl rfl rfl rfl (r_move rfl) fun ac7 hf7 => ?_)
  refine seq_one (op_call (R := fun v w' => ∃ p cap, v = .slice p (c.lst l).length cap ∧ (∀ w0 SB, VL w0 SB P C LL → VN w0 SB p (c.lst l)) ∧ Inv _ [] w') hf7 rfl rfl rfl rfl ca_39 ((rlist_walk (l := l) hc (VL.start_le (VL.start (SS := []) hlC hr0 hrd)) (VL.rows (VL.start (SS := []) hlC hr0 hrd) hI5 (fresh_keys (ks := [b1, b2]) rfl (fk_cons hb1 (fk_cons hb2 fk_nil))) (fun _ h => by cases h)) (VL.rds (VL.start (SS := []) hlC hr0 hrd) hI5 (fresh_keys (ks := [b1, b2]) rfl (fk_cons hb1 (fk_cons hb2 fk_nil))) (fun _ h => by cases h))).mono fun _ _ ⟨p, cap, he, h1, h2⟩ => ⟨_, he, p, cap, rfl, h1, h2⟩) fun ac8 v wd3 hR hf8 => ?_)
  obtain ⟨v3, u3, rfl, hv3, hw3⟩ := hR
  have hI6 := hI5.call0 hw3
  have hV3 := hv3 _ _ (VL.start (SS := []) hlC hr0 hrd)
  refine seq_one (op_val (v := .slice v3 ((c.lst l).length) u3) hf8 rfl rfl rfl rfl rfl rfl (r_assign rfl) fun ac9 hf9 => ?_)
  refine seq_end ?_
  clear ac5 hf5 ac6 hf6 ac7 wd2 hf7 hI5 hw3 ac8 hf8
  refine then_normal ?_
  refine code_seq ?_
  refine code_seq ?_
  refine seq_start (l := [0, 1, 2]) rfl ?_
  refine seq_one (op_val (v := .slice v3 ((c.lst l).length) u3) hf9 rfl rfl rfl rfl rfl rfl (r_move rfl) fun ac10 hf10 => ?_)
  refine seq_one (op_val (v := .int .i64 ((c.lst l).length : Int)) hf10 rfl rfl rfl rfl rfl rfl (r_len sl_27 rfl) fun ac11 hf11 => ?_)
  refine seq_one (op_val (v := .bool (((c.lst l).length : Int) == 0)) hf11 rfl rfl rfl rfl rfl rfl (r_eql rfl rfl) fun ac12 hf12 => ?_)
  refine seq_end ?_
  clear ac9 hf9 ac10 hf10 ac11 hf11
  refine then_normal ?_
  refine code_if hf12 rfl (fun c15_1 => ?_) (fun c15_1 => ?_)
  · have hf13 := hf12.know 15 (u := .bool true) rfl (congrArg Value.bool c15_1)
    refine code_seq ?_
    refine seq_start (l := [0, 1, 2, 3]) rfl ?_
    refine seq_one (op_val (v := .agg #[.int .i64 (N : Int), .slice P LL.length C]) hf13 rfl rfl rfl rfl rfl rfl (r_loadW ag_63 sz_63 rfl (hI6.at 0 rfl) rfl) fun ac13 hf14 => ?_)
    refine seq_one (op_storeW (cells := #[.int .i64 (N : Int), .slice P LL.length C]) 1 hf14 rfl rfl rfl rfl rfl sz_63 rfl rfl hI6 rfl rfl fun wd4 hI7 => ?_)
    have hI8 : Inv w [(b1, #[.int .i64 (N : Int), .slice P LL.length C], 63), (b2, #[.int .i64 (N : Int), .slice P LL.length C], 63)] wd4 := hI7
    refine seq_one (op_val (v := .int .i64 0) hf14 rfl rfl rfl rfl rfl rfl (r_assign rfl) fun ac14 hf15 => ?_)
    refine seq_one (op_val (v := .bool false) hf15 rfl rfl rfl rfl rfl rfl (r_assign rfl) fun ac15 hf16 => ?_)
    refine seq_end ?_
    clear hf12 ac12 hf13 wd3 hI6 hI7 ac13 hf14 ac14 hf15
    refine then_normal ?_
    refine wp_ret ?_
    refine then_ret ?_
    have hp := Ch.pop_none (c := c) (l := l) (beq_iff_eq.1 c15_1)
    exact postC2 rfl hf16 rfl ag_63 sz_63 (hI8.at 1 rfl) rfl rfl rfl ⟨[], P, C, LL, (by rw [hp.2.1, hp.2.2]), (hI8.done (fresh_keys (ks := [b1, b2]) rfl (fk_cons hb1 (fk_cons hb2 fk_nil)))), (fun _ h => by cases h), (by rw [hp.1]; exact hc), fun w0 SB h => h.mono (fun _ hx => List.mem_append_left _ hx)⟩
  · have hf17 := hf12.know 15 (u := .bool false) rfl (congrArg Value.bool c15_1)
    refine wp_skip ?_
    refine then_normal ?_
    refine code_seq ?_
    have hrd4_0 := (VN.rd hV3 hI6 (fresh_keys (ks := [b1, b2]) rfl (fk_cons hb1 (fk_cons hb2 fk_nil))) (fun _ h => by cases h))
    refine any_start (fun w => Has [(b1, #[.int .i64 (N : Int), .slice P LL.length C], 63)] w ∧ Rd w .i64 v3 (c.lst l)) follows ⟨Has.drew (Has.cons (hI6.at 0 rfl) Has.nil), hrd4_0⟩ ?_
    have hS1 : Has [(b1, #[.int .i64 (N : Int), .slice P LL.length C], 63)] _ ∧ Rd _ .i64 v3 (c.lst l) := ⟨Has.drew (Has.cons (hI6.at 0 rfl) Has.nil), hrd4_0⟩
    have hI9 := hI6.drew
    refine any_val (i := 0) (v := .agg #[.int .i64 (N : Int), .slice P LL.length C]) hf17 rfl rfl rfl rfl rfl rfl (fun _ _ _ h => h) (by kernel_rfl) (by kernel_rfl) (by kernel_rfl) (fun wd3 hS1 => (r_loadW ag_63 sz_63 rfl (hS1.1.at 0 rfl) rfl)) hS1 fun ac16 hf18 => ?_
    refine any_val (i := 1) (v := .slice v3 ((c.lst l).length) u3) hf18 rfl rfl rfl rfl rfl rfl (fun _ _ _ h => h) (by kernel_rfl) (by kernel_rfl) (by kernel_rfl) (fun wd3 hS1 => (r_move rfl)) hS1 fun ac17 hf19 => ?_
    refine any_val (i := 2) (v := .pointer (slAt v3 0)) hf19 rfl rfl rfl rfl rfl rfl (fun _ _ _ h => h) (by kernel_rfl) (by kernel_rfl) (by kernel_rfl) (fun wd3 hS1 => (r_indexAddrV (i := 0) sl_27 rfl rfl rfl (by have := beq_eq_false_iff_ne.1 c15_1; omega) (let r := (VN.rd hV3 hI9 (fresh_keys (ks := [b1, b2]) rfl (fk_cons hb1 (fk_cons hb2 fk_nil))) (fun _ h => by cases h)) 0 (by have := beq_eq_false_iff_ne.1 c15_1; omega); ⟨r.choose, r.choose_spec.1⟩))) hS1 fun ac18 hf20 => ?_
    refine any_val (i := 3) (v := .int .i64 ((c.lst l).getD 0 0)) hf20 rfl rfl rfl rfl rfl rfl (fun _ _ _ h => h) (by kernel_rfl) (by kernel_rfl) (by kernel_rfl) (fun wd3 hS1 => (r_loadV ag_3 rfl hS1.2 (by have := beq_eq_false_iff_ne.1 c15_1; omega))) hS1 fun ac19 hf21 => ?_
    refine any_two (i := 4) (j := 8) (by kernel_rfl) ?_ ?_
    ·
      refine (op_call (R := fun v w' => ∃ S P2 C2 L2, v = .tuple #[.agg #[.int .i64 (N : Int), .slice P2 (List.length L2) C2], .bool (c.inn ((c.lst l).getD 0 0))] ∧ Inv _ S w' ∧ (∀ x ∈ S, Array.size (World.heap _) ≤ x.1) ∧ Ch.Lof (c.drop ((c.lst l).getD 0 0)) L2 ∧ ∀ w0 SB, VL w0 SB P C LL → VL w0 (SB ++ S) P2 C2 L2) hf21 rfl rfl rfl rfl ca_38 ((rdrop_walk hc (VL.start_le (VL.start (SS := []) hlC hr0 hrd)) (VL.rows (VL.start (SS := []) hlC hr0 hrd) hI9 (fresh_keys (ks := [b1, b2]) rfl (fk_cons hb1 (fk_cons hb2 fk_nil))) (fun _ h => by cases h)) (VL.rds (VL.start (SS := []) hlC hr0 hrd) hI9 (fresh_keys (ks := [b1, b2]) rfl (fk_cons hb1 (fk_cons hb2 fk_nil))) (fun _ h => by cases h)) (n := ((c.lst l).getD 0 0))).mono fun _ _ ⟨S, P2, C2, L2, he, h1, h2, h3, h4⟩ => ⟨_, he, S, P2, C2, L2, rfl, h1, h2, h3, h4⟩) fun ac20 v wd5 hR hf22 => ?_)
      obtain ⟨Sq5, z5, cz5, L5, rfl, hw5, hz5, hlf5, hvl5⟩ := hR
      have hy5 := fk_le hI9.size hz5
      have hI10 : Inv w ([(b1, #[.int .i64 (N : Int), .slice P LL.length C], 63), (b2, #[.int .i64 0, .slice none 0 0], 63)] ++ Sq5) _ := hI9.callN hw5 hz5
      have hV5 := hvl5 _ _ (VL.start (SS := []) hlC hr0 hrd)
      refine ⟨?_, ?_⟩
      · exact ⟨(Has.cons (hI10.at 0 rfl) Has.nil), (VN.rd hV3 hI10 (fk_app (fresh_keys (ks := [b1, b2]) rfl (fk_cons hb1 (fk_cons hb2 fk_nil))) hy5) (fun _ h => by cases h))⟩
      have hS2 : Has [(b1, #[.int .i64 (N : Int), .slice P LL.length C], 63)] _ ∧ Rd _ .i64 v3 (c.lst l) := ⟨(Has.cons (hI10.at 0 rfl) Has.nil), (VN.rd hV3 hI10 (fk_app (fresh_keys (ks := [b1, b2]) rfl (fk_cons hb1 (fk_cons hb2 fk_nil))) hy5) (fun _ h => by cases h))⟩
      refine any_val (i := 5) (v := .tuple #[.agg #[.int .i64 (N : Int), .slice z5 (List.length L5) cz5], .bool (c.inn ((c.lst l).getD 0 0))]) hf22 rfl rfl rfl rfl rfl rfl (fun _ _ _ h => h) (by kernel_rfl) (by kernel_rfl) (by kernel_rfl) (fun wd5 hS2 => (r_move rfl)) hS2 fun ac21 hf23 => ?_
      refine any_val (i := 6) (v := .agg #[.int .i64 (N : Int), .slice z5 (List.length L5) cz5]) hf23 rfl rfl rfl rfl rfl rfl (fun _ _ _ h => h) (by kernel_rfl) (by kernel_rfl) (by kernel_rfl) (fun wd5 hS2 => (r_extract rfl rfl)) hS2 fun ac22 hf24 => ?_
      refine any_val (i := 7) (v := .bool (c.inn ((c.lst l).getD 0 0))) hf24 rfl rfl rfl rfl rfl rfl (fun _ _ _ h => h) (by kernel_rfl) (by kernel_rfl) (by kernel_rfl) (fun wd5 hS2 => (r_extract rfl rfl)) hS2 fun ac23 hf25 => ?_
      refine any_one (i := 8) (by kernel_rfl) ?_
      refine (op_alloc hf25 rfl rfl rfl ze_63 hI10 fun ac24 b6 wd6 hb6 hI11 hf26 => ⟨?_, ?_⟩)
      ·
        have hI12 : Inv w ([(b1, #[.int .i64 (N : Int), .slice P LL.length C], 63), (b2, #[.int .i64 0, .slice none 0 0], 63), (b6, #[.int .i64 0, .slice none 0 0], 63)] ++ Sq5) wd6 := Inv.tail (A := [(b1, #[.int .i64 (N : Int), .slice P LL.length C], 63), (b2, #[.int .i64 0, .slice none 0 0], 63)]) (T := Sq5) (N := [(b6, #[.int .i64 0, .slice none 0 0], 63)]) hI11
        exact ⟨(Has.cons (hI12.at 0 rfl) Has.nil), (VN.rd hV3 hI12 (fk_app (fresh_keys (ks := [b1, b2, b6]) rfl (fk_cons hb1 (fk_cons hb2 (fk_cons hb6 fk_nil)))) hy5) (fun _ h => by cases h))⟩
      have hI13 : Inv w ([(b1, #[.int .i64 (N : Int), .slice P LL.length C], 63), (b2, #[.int .i64 0, .slice none 0 0], 63), (b6, #[.int .i64 0, .slice none 0 0], 63)] ++ Sq5) wd6 := Inv.tail (A := [(b1, #[.int .i64 (N : Int), .slice P LL.length C], 63), (b2, #[.int .i64 0, .slice none 0 0], 63)]) (T := Sq5) (N := [(b6, #[.int .i64 0, .slice none 0 0], 63)]) hI11
      have hS3 : Has [(b1, #[.int .i64 (N : Int), .slice P LL.length C], 63)] _ ∧ Rd _ .i64 v3 (c.lst l) := ⟨(Has.cons (hI13.at 0 rfl) Has.nil), (VN.rd hV3 hI13 (fk_app (fresh_keys (ks := [b1, b2, b6]) rfl (fk_cons hb1 (fk_cons hb2 (fk_cons hb6 fk_nil)))) hy5) (fun _ h => by cases h))⟩
      refine any_one (i := 9) (by kernel_rfl) ?_
      refine (op_storeW (cells := #[.int .i64 (N : Int), .slice z5 (List.length L5) cz5]) 2 hf26 rfl rfl rfl rfl rfl sz_63 rfl rfl hI13 rfl rfl fun wd7 hI14 => ⟨?_, ?_⟩)
      ·
        have hI15 : Inv w ([(b1, #[.int .i64 (N : Int), .slice P LL.length C], 63), (b2, #[.int .i64 0, .slice none 0 0], 63), (b6, #[.int .i64 (N : Int), .slice z5 (List.length L5) cz5], 63)] ++ Sq5) wd7 := hI14
        exact ⟨(Has.cons (hI15.at 0 rfl) Has.nil), (VN.rd hV3 hI15 (fk_app (fresh_keys (ks := [b1, b2, b6]) rfl (fk_cons hb1 (fk_cons hb2 (fk_cons hb6 fk_nil)))) hy5) (fun _ h => by cases h))⟩
      have hI16 : Inv w ([(b1, #[.int .i64 (N : Int), .slice P LL.length C], 63), (b2, #[.int .i64 0, .slice none 0 0], 63), (b6, #[.int .i64 (N : Int), .slice z5 (List.length L5) cz5], 63)] ++ Sq5) wd7 := hI14
      have hS4 : Has [(b1, #[.int .i64 (N : Int), .slice P LL.length C], 63)] _ ∧ Rd _ .i64 v3 (c.lst l) := ⟨(Has.cons (hI16.at 0 rfl) Has.nil), (VN.rd hV3 hI16 (fk_app (fresh_keys (ks := [b1, b2, b6]) rfl (fk_cons hb1 (fk_cons hb2 (fk_cons hb6 fk_nil)))) hy5) (fun _ h => by cases h))⟩
      refine any_val (i := 10) (v := .bool (c.inn ((c.lst l).getD 0 0))) hf26 rfl rfl rfl rfl rfl rfl (fun _ _ _ h => h) (by kernel_rfl) (by kernel_rfl) (by kernel_rfl) (fun wd7 hS4 => (r_assign rfl)) hS4 fun ac25 hf27 => ?_
      refine any_end (by kernel_rfl) ?_
      clear hf12 hrd4_0 hI6 ac12 hf17 ac16 hf18 ac17 hf19 ac18 hf20 ac19 wd3 hf21 hI9 hw5 hz5 hS1 ac20 hf22 ac21 hf23 ac22 hf24 ac23 wd5 hI10 hf25 hI11 hS2 wd6 hI13 hI14 hS3 ac24 hf26 hS4
      refine then_normal ?_
      refine code_seq ?_
      have hrd7_0 := (VN.rd hV3 hI16 (fk_app (fresh_keys (ks := [b1, b2, b6]) rfl (fk_cons hb1 (fk_cons hb2 (fk_cons hb6 fk_nil)))) hy5) (fun _ h => by cases h))
      refine any_start (fun w => Has [(b6, #[.int .i64 (N : Int), .slice z5 (List.length L5) cz5], 63)] w ∧ Rd w .i64 v3 (c.lst l)) follows ⟨Has.drew (Has.cons (hI16.at 2 rfl) Has.nil), hrd7_0⟩ ?_
      have hS5 : Has [(b6, #[.int .i64 (N : Int), .slice z5 (List.length L5) cz5], 63)] _ ∧ Rd _ .i64 v3 (c.lst l) := ⟨Has.drew (Has.cons (hI16.at 2 rfl) Has.nil), hrd7_0⟩
      have hI17 := hI16.drew
      refine any_val (i := 0) (v := .agg #[.int .i64 (N : Int), .slice z5 (List.length L5) cz5]) hf27 rfl rfl rfl rfl rfl rfl (fun _ _ _ h => h) (by kernel_rfl) (by kernel_rfl) (by kernel_rfl) (fun wd7 hS5 => (r_loadW ag_63 sz_63 rfl (hS5.1.at 0 rfl) rfl)) hS5 fun ac26 hf28 => ?_
      refine any_val (i := 1) (v := .slice v3 ((c.lst l).length) u3) hf28 rfl rfl rfl rfl rfl rfl (fun _ _ _ h => h) (by kernel_rfl) (by kernel_rfl) (by kernel_rfl) (fun wd7 hS5 => (r_move rfl)) hS5 fun ac27 hf29 => ?_
      refine any_val (i := 2) (v := .pointer (slAt v3 0)) hf29 rfl rfl rfl rfl rfl rfl (fun _ _ _ h => h) (by kernel_rfl) (by kernel_rfl) (by kernel_rfl) (fun wd7 hS5 => (r_indexAddrV (i := 0) sl_27 rfl rfl rfl (by have := beq_eq_false_iff_ne.1 c15_1; omega) (let r := (VN.rd hV3 hI17 (fk_app (fresh_keys (ks := [b1, b2, b6]) rfl (fk_cons hb1 (fk_cons hb2 (fk_cons hb6 fk_nil)))) hy5) (fun _ h => by cases h)) 0 (by have := beq_eq_false_iff_ne.1 c15_1; omega); ⟨r.choose, r.choose_spec.1⟩))) hS5 fun ac28 hf30 => ?_
      refine any_val (i := 3) (v := .int .i64 ((c.lst l).getD 0 0)) hf30 rfl rfl rfl rfl rfl rfl (fun _ _ _ h => h) (by kernel_rfl) (by kernel_rfl) (by kernel_rfl) (fun wd7 hS5 => (r_loadV ag_3 rfl hS5.2 (by have := beq_eq_false_iff_ne.1 c15_1; omega))) hS5 fun ac29 hf31 => ?_
      refine any_one (i := 4) (by kernel_rfl) ?_
      refine (op_storeW (cells := #[.int .i64 (N : Int), .slice z5 (List.length L5) cz5]) 1 hf31 rfl rfl rfl rfl rfl sz_63 rfl rfl hI17 rfl rfl fun wd8 hI18 => ⟨?_, ?_⟩)
      ·
        have hI19 : Inv w ([(b1, #[.int .i64 (N : Int), .slice P LL.length C], 63), (b2, #[.int .i64 (N : Int), .slice z5 (List.length L5) cz5], 63), (b6, #[.int .i64 (N : Int), .slice z5 (List.length L5) cz5], 63)] ++ Sq5) wd8 := hI18
        exact ⟨(Has.cons (hI19.at 2 rfl) Has.nil), (VN.rd hV3 hI19 (fk_app (fresh_keys (ks := [b1, b2, b6]) rfl (fk_cons hb1 (fk_cons hb2 (fk_cons hb6 fk_nil)))) hy5) (fun _ h => by cases h))⟩
      have hI20 : Inv w ([(b1, #[.int .i64 (N : Int), .slice P LL.length C], 63), (b2, #[.int .i64 (N : Int), .slice z5 (List.length L5) cz5], 63), (b6, #[.int .i64 (N : Int), .slice z5 (List.length L5) cz5], 63)] ++ Sq5) wd8 := hI18
      have hS6 : Has [(b6, #[.int .i64 (N : Int), .slice z5 (List.length L5) cz5], 63)] _ ∧ Rd _ .i64 v3 (c.lst l) := ⟨(Has.cons (hI20.at 2 rfl) Has.nil), (VN.rd hV3 hI20 (fk_app (fresh_keys (ks := [b1, b2, b6]) rfl (fk_cons hb1 (fk_cons hb2 (fk_cons hb6 fk_nil)))) hy5) (fun _ h => by cases h))⟩
      refine any_val (i := 5) (v := .int .i64 ((c.lst l).getD 0 0)) hf31 rfl rfl rfl rfl rfl rfl (fun _ _ _ h => h) (by kernel_rfl) (by kernel_rfl) (by kernel_rfl) (fun wd8 hS6 => (r_assign rfl)) hS6 fun ac30 hf32 => ?_
      refine any_val (i := 6) (v := .bool true) hf32 rfl rfl rfl rfl rfl rfl (fun _ _ _ h => h) (by kernel_rfl) (by kernel_rfl) (by kernel_rfl) (fun wd8 hS6 => (r_assign rfl)) hS6 fun ac31 hf33 => ?_
      refine any_end (by kernel_rfl) ?_
      clear hrd7_0 hI16 ac25 hf27 ac26 hf28 ac27 hf29 ac28 hf30 wd7 hI17 hI18 hS5 ac29 hf31 ac30 hf32 hS6
      refine then_normal ?_
      refine wp_ret ?_
      have hp := Ch.pop_some (c := c) (l := l) (beq_eq_false_iff_ne.1 c15_1)
      exact postC2 rfl hf33 rfl ag_63 sz_63 (hI20.at 1 rfl) rfl rfl rfl ⟨Sq5, z5, cz5, L5, (by rw [hp.1, ← hp.2.1]), (Inv.keep (A := []) (N := [(b1, #[.int .i64 (N : Int), .slice P LL.length C], 63), (b2, #[.int .i64 (N : Int), .slice z5 (List.length L5) cz5], 63), (b6, #[.int .i64 (N : Int), .slice z5 (List.length L5) cz5], 63)]) (T := Sq5) hI20 (fresh_keys (ks := [b1, b2, b6]) rfl (fk_cons hb1 (fk_cons hb2 (fk_cons hb6 fk_nil))))), hy5, (by rw [hp.2.2]; exact hlf5), hvl5⟩
    ·
      refine (op_alloc hf21 rfl rfl rfl ze_63 hI9 fun ac32 b5 wd9 hb5 hI21 hf34 => ⟨?_, ?_⟩)
      · exact ⟨(Has.cons (hI21.at 0 rfl) Has.nil), (VN.rd hV3 hI21 (fresh_keys (ks := [b1, b2, b5]) rfl (fk_cons hb1 (fk_cons hb2 (fk_cons hb5 fk_nil)))) (fun _ h => by cases h))⟩
      have hI22 : Inv w [(b1, #[.int .i64 (N : Int), .slice P LL.length C], 63), (b2, #[.int .i64 0, .slice none 0 0], 63), (b5, #[.int .i64 0, .slice none 0 0], 63)] wd9 := hI21
      have hS7 : Has [(b1, #[.int .i64 (N : Int), .slice P LL.length C], 63)] _ ∧ Rd _ .i64 v3 (c.lst l) := ⟨(Has.cons (hI22.at 0 rfl) Has.nil), (VN.rd hV3 hI22 (fresh_keys (ks := [b1, b2, b5]) rfl (fk_cons hb1 (fk_cons hb2 (fk_cons hb5 fk_nil)))) (fun _ h => by cases h))⟩
      refine any_one (i := 4) (by kernel_rfl) ?_
      refine (op_call (R := fun v w' => ∃ S P2 C2 L2, v = .tuple #[.agg #[.int .i64 (N : Int), .slice P2 (List.length L2) C2], .bool (c.inn ((c.lst l).getD 0 0))] ∧ Inv _ S w' ∧ (∀ x ∈ S, Array.size (World.heap _) ≤ x.1) ∧ Ch.Lof (c.drop ((c.lst l).getD 0 0)) L2 ∧ ∀ w0 SB, VL w0 SB P C LL → VL w0 (SB ++ S) P2 C2 L2) hf34 rfl rfl rfl rfl ca_38 ((rdrop_walk hc (VL.start_le (VL.start (SS := []) hlC hr0 hrd)) (VL.rows (VL.start (SS := []) hlC hr0 hrd) hI22 (fresh_keys (ks := [b1, b2, b5]) rfl (fk_cons hb1 (fk_cons hb2 (fk_cons hb5 fk_nil)))) (fun _ h => by cases h)) (VL.rds (VL.start (SS := []) hlC hr0 hrd) hI22 (fresh_keys (ks := [b1, b2, b5]) rfl (fk_cons hb1 (fk_cons hb2 (fk_cons hb5 fk_nil)))) (fun _ h => by cases h)) (n := ((c.lst l).getD 0 0))).mono fun _ _ ⟨S, P2, C2, L2, he, h1, h2, h3, h4⟩ => ⟨_, he, S, P2, C2, L2, rfl, h1, h2, h3, h4⟩) fun ac33 v wd10 hR hf35 => ?_)
      obtain ⟨Sq6, z6, cz6, L6, rfl, hw6, hz6, hlf6, hvl6⟩ := hR
      have hy6 := fk_le hI22.size hz6
      have hI23 : Inv w ([(b1, #[.int .i64 (N : Int), .slice P LL.length C], 63), (b2, #[.int .i64 0, .slice none 0 0], 63), (b5, #[.int .i64 0, .slice none 0 0], 63)] ++ Sq6) _ := hI22.callN hw6 hz6
      have hV6 := hvl6 _ _ (VL.start (SS := []) hlC hr0 hrd)
      refine ⟨?_, ?_⟩
      · exact ⟨(Has.cons (hI23.at 0 rfl) Has.nil), (VN.rd hV3 hI23 (fk_app (fresh_keys (ks := [b1, b2, b5]) rfl (fk_cons hb1 (fk_cons hb2 (fk_cons hb5 fk_nil)))) hy6) (fun _ h => by cases h))⟩
      have hS8 : Has [(b1, #[.int .i64 (N : Int), .slice P LL.length C], 63)] _ ∧ Rd _ .i64 v3 (c.lst l) := ⟨(Has.cons (hI23.at 0 rfl) Has.nil), (VN.rd hV3 hI23 (fk_app (fresh_keys (ks := [b1, b2, b5]) rfl (fk_cons hb1 (fk_cons hb2 (fk_cons hb5 fk_nil)))) hy6) (fun _ h => by cases h))⟩
      refine any_val (i := 5) (v := .tuple #[.agg #[.int .i64 (N : Int), .slice z6 (List.length L6) cz6], .bool (c.inn ((c.lst l).getD 0 0))]) hf35 rfl rfl rfl rfl rfl rfl (fun _ _ _ h => h) (by kernel_rfl) (by kernel_rfl) (by kernel_rfl) (fun wd10 hS8 => (r_move rfl)) hS8 fun ac34 hf36 => ?_
      refine any_val (i := 6) (v := .agg #[.int .i64 (N : Int), .slice z6 (List.length L6) cz6]) hf36 rfl rfl rfl rfl rfl rfl (fun _ _ _ h => h) (by kernel_rfl) (by kernel_rfl) (by kernel_rfl) (fun wd10 hS8 => (r_extract rfl rfl)) hS8 fun ac35 hf37 => ?_
      refine any_val (i := 7) (v := .bool (c.inn ((c.lst l).getD 0 0))) hf37 rfl rfl rfl rfl rfl rfl (fun _ _ _ h => h) (by kernel_rfl) (by kernel_rfl) (by kernel_rfl) (fun wd10 hS8 => (r_extract rfl rfl)) hS8 fun ac36 hf38 => ?_
      refine any_one (i := 9) (by kernel_rfl) ?_
      refine (op_storeW (cells := #[.int .i64 (N : Int), .slice z6 (List.length L6) cz6]) 2 hf38 rfl rfl rfl rfl rfl sz_63 rfl rfl hI23 rfl rfl fun wd11 hI24 => ⟨?_, ?_⟩)
      ·
        have hI25 : Inv w ([(b1, #[.int .i64 (N : Int), .slice P LL.length C], 63), (b2, #[.int .i64 0, .slice none 0 0], 63), (b5, #[.int .i64 (N : Int), .slice z6 (List.length L6) cz6], 63)] ++ Sq6) wd11 := hI24
        exact ⟨(Has.cons (hI25.at 0 rfl) Has.nil), (VN.rd hV3 hI25 (fk_app (fresh_keys (ks := [b1, b2, b5]) rfl (fk_cons hb1 (fk_cons hb2 (fk_cons hb5 fk_nil)))) hy6) (fun _ h => by cases h))⟩
      have hI26 : Inv w ([(b1, #[.int .i64 (N : Int), .slice P LL.length C], 63), (b2, #[.int .i64 0, .slice none 0 0], 63), (b5, #[.int .i64 (N : Int), .slice z6 (List.length L6) cz6], 63)] ++ Sq6) wd11 := hI24
      have hS9 : Has [(b1, #[.int .i64 (N : Int), .slice P LL.length C], 63)] _ ∧ Rd _ .i64 v3 (c.lst l) := ⟨(Has.cons (hI26.at 0 rfl) Has.nil), (VN.rd hV3 hI26 (fk_app (fresh_keys (ks := [b1, b2, b5]) rfl (fk_cons hb1 (fk_cons hb2 (fk_cons hb5 fk_nil)))) hy6) (fun _ h => by cases h))⟩
      refine any_val (i := 10) (v := .bool (c.inn ((c.lst l).getD 0 0))) hf38 rfl rfl rfl rfl rfl rfl (fun _ _ _ h => h) (by kernel_rfl) (by kernel_rfl) (by kernel_rfl) (fun wd11 hS9 => (r_assign rfl)) hS9 fun ac37 hf39 => ?_
      refine any_end (by kernel_rfl) ?_
      clear hf12 hrd4_0 hI6 ac12 hf17 ac16 hf18 ac17 hf19 ac18 hf20 ac19 wd3 hI9 hf21 hI21 hS1 ac32 wd9 hf34 hI22 hw6 hz6 hS7 ac33 hf35 ac34 hf36 ac35 hf37 wd10 hI23 hI24 hS8 ac36 hf38 hS9
      refine then_normal ?_
      refine code_seq ?_
      have hrd7_0 := (VN.rd hV3 hI26 (fk_app (fresh_keys (ks := [b1, b2, b5]) rfl (fk_cons hb1 (fk_cons hb2 (fk_cons hb5 fk_nil)))) hy6) (fun _ h => by cases h))
      refine any_start (fun w => Has [(b5, #[.int .i64 (N : Int), .slice z6 (List.length L6) cz6], 63)] w ∧ Rd w .i64 v3 (c.lst l)) follows ⟨Has.drew (Has.cons (hI26.at 2 rfl) Has.nil), hrd7_0⟩ ?_
      have hS10 : Has [(b5, #[.int .i64 (N : Int), .slice z6 (List.length L6) cz6], 63)] _ ∧ Rd _ .i64 v3 (c.lst l) := ⟨Has.drew (Has.cons (hI26.at 2 rfl) Has.nil), hrd7_0⟩
      have hI27 := hI26.drew
      refine any_val (i := 0) (v := .agg #[.int .i64 (N : Int), .slice z6 (List.length L6) cz6]) hf39 rfl rfl rfl rfl rfl rfl (fun _ _ _ h => h) (by kernel_rfl) (by kernel_rfl) (by kernel_rfl) (fun wd11 hS10 => (r_loadW ag_63 sz_63 rfl (hS10.1.at 0 rfl) rfl)) hS10 fun ac38 hf40 => ?_
      refine any_val (i := 1) (v := .slice v3 ((c.lst l).length) u3) hf40 rfl rfl rfl rfl rfl rfl (fun _ _ _ h => h) (by kernel_rfl) (by kernel_rfl) (by kernel_rfl) (fun wd11 hS10 => (r_move rfl)) hS10 fun ac39 hf41 => ?_
      refine any_val (i := 2) (v := .pointer (slAt v3 0)) hf41 rfl rfl rfl rfl rfl rfl (fun _ _ _ h => h) (by kernel_rfl) (by kernel_rfl) (by kernel_rfl) (fun wd11 hS10 => (r_indexAddrV (i := 0) sl_27 rfl rfl rfl (by have := beq_eq_false_iff_ne.1 c15_1; omega) (let r := (VN.rd hV3 hI27 (fk_app (fresh_keys (ks := [b1, b2, b5]) rfl (fk_cons hb1 (fk_cons hb2 (fk_cons hb5 fk_nil)))) hy6) (fun _ h => by cases h)) 0 (by have := beq_eq_false_iff_ne.1 c15_1; omega); ⟨r.choose, r.choose_spec.1⟩))) hS10 fun ac40 hf42 => ?_
      refine any_val (i := 3) (v := .int .i64 ((c.lst l).getD 0 0)) hf42 rfl rfl rfl rfl rfl rfl (fun _ _ _ h => h) (by kernel_rfl) (by kernel_rfl) (by kernel_rfl) (fun wd11 hS10 => (r_loadV ag_3 rfl hS10.2 (by have := beq_eq_false_iff_ne.1 c15_1; omega))) hS10 fun ac41 hf43 => ?_
      refine any_one (i := 4) (by kernel_rfl) ?_
      refine (op_storeW (cells := #[.int .i64 (N : Int), .slice z6 (List.length L6) cz6]) 1 hf43 rfl rfl rfl rfl rfl sz_63 rfl rfl hI27 rfl rfl fun wd12 hI28 => ⟨?_, ?_⟩)
      ·
        have hI29 : Inv w ([(b1, #[.int .i64 (N : Int), .slice P LL.length C], 63), (b2, #[.int .i64 (N : Int), .slice z6 (List.length L6) cz6], 63), (b5, #[.int .i64 (N : Int), .slice z6 (List.length L6) cz6], 63)] ++ Sq6) wd12 := hI28
        exact ⟨(Has.cons (hI29.at 2 rfl) Has.nil), (VN.rd hV3 hI29 (fk_app (fresh_keys (ks := [b1, b2, b5]) rfl (fk_cons hb1 (fk_cons hb2 (fk_cons hb5 fk_nil)))) hy6) (fun _ h => by cases h))⟩
      have hI30 : Inv w ([(b1, #[.int .i64 (N : Int), .slice P LL.length C], 63), (b2, #[.int .i64 (N : Int), .slice z6 (List.length L6) cz6], 63), (b5, #[.int .i64 (N : Int), .slice z6 (List.length L6) cz6], 63)] ++ Sq6) wd12 := hI28
      have hS11 : Has [(b5, #[.int .i64 (N : Int), .slice z6 (List.length L6) cz6], 63)] _ ∧ Rd _ .i64 v3 (c.lst l) := ⟨(Has.cons (hI30.at 2 rfl) Has.nil), (VN.rd hV3 hI30 (fk_app (fresh_keys (ks := [b1, b2, b5]) rfl (fk_cons hb1 (fk_cons hb2 (fk_cons hb5 fk_nil)))) hy6) (fun _ h => by cases h))⟩
      refine any_val (i := 5) (v := .int .i64 ((c.lst l).getD 0 0)) hf43 rfl rfl rfl rfl rfl rfl (fun _ _ _ h => h) (by kernel_rfl) (by kernel_rfl) (by kernel_rfl) (fun wd12 hS11 => (r_assign rfl)) hS11 fun ac42 hf44 => ?_
      refine any_val (i := 6) (v := .bool true) hf44 rfl rfl rfl rfl rfl rfl (fun _ _ _ h => h) (by kernel_rfl) (by kernel_rfl) (by kernel_rfl) (fun wd12 hS11 => (r_assign rfl)) hS11 fun ac43 hf45 => ?_
      refine any_end (by kernel_rfl) ?_
      clear hrd7_0 hI26 ac37 hf39 ac38 hf40 ac39 hf41 ac40 hf42 wd11 hI27 hI28 hS10 ac41 hf43 ac42 hf44 hS11
      refine then_normal ?_
      refine wp_ret ?_
      have hp := Ch.pop_some (c := c) (l := l) (beq_eq_false_iff_ne.1 c15_1)
      exact postC2 rfl hf45 rfl ag_63 sz_63 (hI30.at 1 rfl) rfl rfl rfl ⟨Sq6, z6, cz6, L6, (by rw [hp.1, ← hp.2.1]), (Inv.keep (A := []) (N := [(b1, #[.int .i64 (N : Int), .slice P LL.length C], 63), (b2, #[.int .i64 (N : Int), .slice z6 (List.length L6) cz6], 63), (b5, #[.int .i64 (N : Int), .slice z6 (List.length L6) cz6], 63)]) (T := Sq6) hI30 (fresh_keys (ks := [b1, b2, b5]) rfl (fk_cons hb1 (fk_cons hb2 (fk_cons hb5 fk_nil))))), hy6, (by rw [hp.2.2]; exact hlf6), hvl6⟩
end Go.Proofs.Ytjelaoblpchmmaa
