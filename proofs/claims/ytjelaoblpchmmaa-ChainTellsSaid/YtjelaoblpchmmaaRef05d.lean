/-
  The reference of lists, fourth part: Drop.
-/
import Derived.Test.YtjelaoblpchmmaaRef05c
namespace Go.Proofs.Ytjelaoblpchmmaa
set_option linter.unusedVariables false
set_option linter.unusedSimpArgs false
set_option maxRecDepth 100000
open Go.RowKit
set_option maxHeartbeats 8000000 in
theorem rdrop_walk {N K : Nat} {c : Ch N K} {LL : List En} (hc : c.Lof LL) {P : Option Addr} {C : Nat} (hlC : LL.length ≤ C) {w : World} (hr0 : Rows_ w P 1 (rws LL)) (hrd : ∀ e ∈ LL, Rd w .i64 e.1 e.2.2) {n : Int} : Calls Try.prog 38 [.agg #[.int .i64 (N : Int), .slice P LL.length C], .int .i64 n].toArray w fun e w' => ∃ S P2 C2 L2, e = .returned (.tuple #[.agg #[.int .i64 (N : Int), .slice P2 (List.length L2) C2], .bool (c.inn n)]) ∧ Inv w S w' ∧ (∀ x ∈ S, w.heap.size ≤ x.1) ∧ Ch.Lof (c.drop n) L2 ∧ ∀ w0 SB, VL w0 SB P C LL → VL w0 (SB ++ S) P2 C2 L2 := by
  have hk := hc.len
  have hK := c.hK
  have hN := c.hN
  have hI1 := Inv.start w
  refine enter (n := 54) Try.func38 rfl rfl rfl ?_
  intro ac1 hf1
  refine code_seq ?_
  refine seq_start (l := [0, 1, 2]) rfl ?_
  refine seq_one (op_box hf1 rfl rfl rfl rfl hI1 fun ac2 b1 wd1 hb1 hI2 hf2 => ?_)
  have hI3 : Inv w [(b1, #[.int .i64 (N : Int), .slice P LL.length C], 63)] wd1 := hI2
  refine seq_one (op_alloc hf2 rfl rfl rfl ze_63 hI3 fun ac3 b2 wd2 hb2 hI4 hf3 => ?_)
  have hI5 : Inv w [(b1, #[.int .i64 (N : Int), .slice P LL.length C], 63), (b2, #[.int .i64 0, .slice none 0 0], 63)] wd2 := hI4
  refine seq_one (op_val (v := .bool false) hf3 rfl rfl rfl rfl rfl rfl (r_assign rfl) fun ac4 hf4 => ?_)
  refine seq_end ?_
  clear ac1 hI1 hf1 hI2 ac2 wd1 hI3 hf2 hI4 ac3 hf3
  refine then_normal ?_
  refine code_seq ?_
  refine seq_start (l := [0, 1, 2, 3, 4, 5, 6, 7]) rfl ?_
  refine seq_one (op_val (v := .agg #[.int .i64 (N : Int), .slice P LL.length C]) hf4 rfl rfl rfl rfl rfl rfl (r_loadW ag_63 sz_63 rfl (hI5.at 0 rfl) rfl) fun ac5 hf5 => ?_)
  refine seq_one (op_val (v := .int .i64 n) hf5 rfl rfl rfl rfl rfl rfl (r_move rfl) fun ac6 hf6 => ?_)
  refine seq_one (op_pureW hf6 rfl rfl rfl rfl ca_42 (rin_walk (n := n) hc (VL.start_le (VL.start (SS := []) hlC hr0 hrd)) (VL.rows (VL.start (SS := []) hlC hr0 hrd) hI5 (fresh_keys (ks := [b1, b2]) rfl (fk_cons hb1 (fk_cons hb2 fk_nil))) (fun _ h => by cases h)) (VL.rds (VL.start (SS := []) hlC hr0 hrd) hI5 (fresh_keys (ks := [b1, b2]) rfl (fk_cons hb1 (fk_cons hb2 fk_nil))) (fun _ h => by cases h))) hI5 fun ac7 wd3 hI6 hf7 => ?_)
  refine seq_one (op_val (v := .tuple #[.int .i64 (c.atV n), .bool (c.inn n)]) hf7 rfl rfl rfl rfl rfl rfl (r_move rfl) fun ac8 hf8 => ?_)
  refine seq_one (op_val (v := .int .i64 (c.atV n)) hf8 rfl rfl rfl rfl rfl rfl (r_extract rfl rfl) fun ac9 hf9 => ?_)
  refine seq_one (op_val (v := .bool (c.inn n)) hf9 rfl rfl rfl rfl rfl rfl (r_extract rfl rfl) fun ac10 hf10 => ?_)
  refine seq_one (op_val (v := .int .i64 (c.atV n)) hf10 rfl rfl rfl rfl rfl rfl (r_assign rfl) fun ac11 hf11 => ?_)
  refine seq_one (op_val (v := .bool (c.inn n)) hf11 rfl rfl rfl rfl rfl rfl (r_assign rfl) fun ac12 hf12 => ?_)
  refine seq_end ?_
  clear ac4 hf4 ac5 hf5 ac6 wd2 hI5 hf6 ac7 hf7 ac8 hf8 ac9 hf9 ac10 hf10 ac11 hf11
  refine then_normal ?_
  refine code_seq ?_
  refine code_seq ?_
  refine seq_start (l := [0, 1]) rfl ?_
  refine seq_one (op_val (v := .bool (c.inn n)) hf12 rfl rfl rfl rfl rfl rfl (r_move rfl) fun ac13 hf13 => ?_)
  refine seq_one (op_val (v := .bool (!(c.inn n))) hf13 rfl rfl rfl rfl rfl rfl (r_not rfl) fun ac14 hf14 => ?_)
  refine seq_end ?_
  clear ac12 hf12 ac13 hf13
  refine then_normal ?_
  refine code_if hf14 rfl (fun c17_1 => ?_) (fun c17_1 => ?_)
  · have hf15 := hf14.know 17 (u := .bool true) rfl (congrArg Value.bool c17_1)
    refine code_seq ?_
    refine seq_start (l := [0, 1, 2]) rfl ?_
    refine seq_one (op_val (v := .agg #[.int .i64 (N : Int), .slice P LL.length C]) hf15 rfl rfl rfl rfl rfl rfl (r_loadW ag_63 sz_63 rfl (hI6.at 0 rfl) rfl) fun ac15 hf16 => ?_)
    refine seq_one (op_storeW (cells := #[.int .i64 (N : Int), .slice P LL.length C]) 1 hf16 rfl rfl rfl rfl rfl sz_63 rfl rfl hI6 rfl rfl fun wd4 hI7 => ?_)
    have hI8 : Inv w [(b1, #[.int .i64 (N : Int), .slice P LL.length C], 63), (b2, #[.int .i64 (N : Int), .slice P LL.length C], 63)] wd4 := hI7
    refine seq_one (op_val (v := .bool false) hf16 rfl rfl rfl rfl rfl rfl (r_assign rfl) fun ac16 hf17 => ?_)
    refine seq_end ?_
    clear hf14 ac14 hf15 wd3 hI6 hI7 ac15 hf16
    refine then_normal ?_
    refine wp_ret ?_
    refine then_ret ?_
    have hn : c.inn n = false := by simpa using c17_1
    exact postC1 rfl hf17 rfl ag_63 sz_63 (hI8.at 1 rfl) rfl rfl ⟨[], P, C, LL, (by rw [hn]), (hI8.done (fresh_keys (ks := [b1, b2]) rfl (fk_cons hb1 (fk_cons hb2 fk_nil)))), (fun _ h => by cases h), (by rw [Ch.drop_no hn]; exact hc), fun w0 SB h => h.mono (fun _ hx => List.mem_append_left _ hx)⟩
  · have hf18 := hf14.know 17 (u := .bool false) rfl (congrArg Value.bool c17_1)
    refine wp_skip ?_
    refine then_normal ?_
    refine code_seq ?_
    refine seq_start (l := [0]) rfl ?_
    refine seq_one (op_val (v := .slice none 0 0) hf18 rfl rfl rfl rfl rfl rfl (r_assign rfl) fun ac17 hf19 => ?_)
    refine seq_end ?_
    clear hf14 ac14 hf18
    refine then_normal ?_
    refine code_seq ?_
    refine code_seq ?_
    refine seq_start (l := [0]) rfl ?_
    refine seq_one (op_val (v := .int .i64 0) hf19 rfl rfl rfl rfl rfl rfl (r_assign rfl) fun ac18 hf20 => ?_)
    refine seq_end ?_
    clear ac17 hf19
    refine then_normal ?_
    refine wp_block ?_
    have hat := (Ch.mem_in (Ch.in_mem (show c.inn n = true by simpa using c17_1))).2.2.1
    have hle := hc.le (j := (c.atV n).toNat) (by omega)
    have hI9 : Inv w ([(b1, #[.int .i64 (N : Int), .slice P LL.length C], 63), (b2, #[.int .i64 0, .slice none 0 0], 63)] ++ []) wd3 := hI6.more
    refine code_loop (α := Nat × (Option Addr) × Nat × (List Blk)) (fun (x : Nat × (Option Addr) × Nat × (List Blk)) => match x with | (k, p, cap, S) => [(0, .agg #[.int .i64 (N : Int), .slice P LL.length C]), (1, .int .i64 n), (2, .pointer (some ⟨b1, 0, none⟩)), (4, .pointer (some ⟨b2, 0, none⟩)), (5, .bool false), (6, .int .i64 (c.atV n)), (7, .bool (c.inn n)), (10, .tuple #[.int .i64 (c.atV n), .bool (c.inn n)]), (11, .agg #[.int .i64 (N : Int), .slice P LL.length C]), (12, .int .i64 n), (13, .tuple #[.int .i64 (c.atV n), .bool (c.inn n)]), (14, .int .i64 (c.atV n)), (15, .bool (c.inn n)), (16, .bool (c.inn n)), (17, .bool false), (8, .slice p ((Ch.woI n ((LL.getD (c.atV n).toNat eD).2.2.take k)).length) cap), (9, .int .i64 (k : Int))]) (fun (x : Nat × (Option Addr) × Nat × (List Blk)) => match x with | (k, p, cap, S) => fun wL => Inv w ([(b1, #[.int .i64 (N : Int), .slice P LL.length C], 63), (b2, #[.int .i64 0, .slice none 0 0], 63)] ++ S) wL ∧ (k ≤ (LL.getD (c.atV n).toNat eD).2.2.length ∧ Sl 3 .i64 S p cap (Ch.woI n ((LL.getD (c.atV n).toNat eD).2.2.take k)) ∧ (∀ x ∈ S, w.heap.size ≤ x.1))) (fun (x : Nat × (Option Addr) × Nat × (List Blk)) => match x with | (k, p, cap, S) => (LL.getD (c.atV n).toNat eD).2.2.length - k) (0, none, 0, []) (hf20.cons 0 rfl (hf20.cons 1 rfl (hf20.cons 2 rfl (hf20.cons 4 rfl (hf20.cons 5 rfl (hf20.cons 6 rfl (hf20.cons 7 rfl (hf20.cons 10 rfl (hf20.cons 11 rfl (hf20.cons 12 rfl (hf20.cons 13 rfl (hf20.cons 14 rfl (hf20.cons 15 rfl (hf20.cons 16 rfl (hf20.cons 17 rfl (hf20.cons 8 rfl (hf20.cons 9 rfl hf20.nil))))))))))))))))) ⟨hI9, ⟨Nat.zero_le _, by simpa [Ch.woI] using Sl.nil, fun _ h => by cases h⟩⟩ ?_
    intro ⟨k, p, cap, S⟩ ac19 wd5 hf21 hL1
    obtain ⟨hI10, hx1⟩ := hL1
    dsimp only at hf21 hI10 hx1
    clear hI6 ac18 wd3 hf20 hI9
    refine code_seq ?_
    refine code_seq ?_
    refine seq_start (l := [0, 1, 2, 3, 4, 5, 6, 7]) rfl ?_
    refine seq_one (op_val (v := .int .i64 (k : Int)) hf21 rfl rfl rfl rfl rfl rfl (r_move rfl) fun ac20 hf22 => ?_)
    refine seq_one (op_val (v := .pointer (some ⟨b1, 1, none⟩)) hf22 rfl rfl rfl rfl rfl rfl (r_fieldAddr fi_63_1 rfl rfl) fun ac21 hf23 => ?_)
    refine seq_one (op_val (v := .slice P LL.length C) hf23 rfl rfl rfl rfl rfl rfl (r_load ag_61 rfl (hI10.at 0 rfl) rfl) fun ac22 hf24 => ?_)
    refine seq_one (op_val (v := .int .i64 (c.atV n)) hf24 rfl rfl rfl rfl rfl rfl (r_move rfl) fun ac23 hf25 => ?_)
    refine seq_one (op_val (v := .pointer (slAt P (((c.atV n).toNat) * 1))) hf25 rfl rfl rfl rfl rfl rfl (r_indexAddrR (i := (c.atV n).toNat) (sz := 1) sl_61 rfl rfl (by omega) (by omega) rfl ⟨_, ((VL.rows (VL.start (SS := []) hlC hr0 hrd) hI10 (fk_app (fresh_keys (ks := [b1, b2]) rfl (fk_cons hb1 (fk_cons hb2 fk_nil))) hx1.2.2) (fun _ h => by cases h)) _ _ (rws_get (LL := LL) (j := ((c.atV n).toNat)) (by omega))).choose_spec.1⟩) fun ac24 hf26 => ?_)
    refine seq_one (op_val (v := .slice ((LL.getD ((c.atV n).toNat) eD).1) ((LL.getD ((c.atV n).toNat) eD).2.2.length) ((LL.getD ((c.atV n).toNat) eD).2.1)) hf26 rfl rfl rfl rfl rfl rfl (r_loadE ag_27 rfl (VL.rows (VL.start (SS := []) hlC hr0 hrd) hI10 (fk_app (fresh_keys (ks := [b1, b2]) rfl (fk_cons hb1 (fk_cons hb2 fk_nil))) hx1.2.2) (fun _ h => by cases h)) (rws_get (LL := LL) (j := ((c.atV n).toNat)) (by omega)) rfl) fun ac25 hf27 => ?_)
    refine seq_one (op_val (v := .int .i64 ((LL.getD ((c.atV n).toNat) eD).2.2.length : Int)) hf27 rfl rfl rfl rfl rfl rfl (r_len sl_27 rfl) fun ac26 hf28 => ?_)
    refine seq_one (op_val (v := .bool (decide ((k : Int) < ((LL.getD ((c.atV n).toNat) eD).2.2.length : Int)))) hf28 rfl rfl rfl rfl rfl rfl (r_lss rfl rfl) fun ac27 hf29 => ?_)
    refine seq_end ?_
    clear ac19 hf21 ac20 hf22 ac21 hf23 ac22 hf24 ac23 hf25 ac24 hf26 ac25 hf27 ac26 hf28
    refine then_normal ?_
    refine code_if hf29 rfl (fun c26_2 => ?_) (fun c26_2 => ?_)
    · have hf30 := hf29.know 26 (u := .bool true) rfl (congrArg Value.bool c26_2)
      refine wp_skip ?_
      refine then_normal ?_
      refine code_seq ?_
      refine wp_block ?_
      refine code_seq ?_
      refine seq_start (l := [0, 1, 2, 3, 4, 5, 6, 7, 8, 9]) rfl ?_
      refine seq_one (op_val (v := .pointer (some ⟨b1, 1, none⟩)) hf30 rfl rfl rfl rfl rfl rfl (r_fieldAddr fi_63_1 rfl rfl) fun ac28 hf31 => ?_)
      refine seq_one (op_val (v := .slice P LL.length C) hf31 rfl rfl rfl rfl rfl rfl (r_load ag_61 rfl (hI10.at 0 rfl) rfl) fun ac29 hf32 => ?_)
      refine seq_one (op_val (v := .int .i64 (c.atV n)) hf32 rfl rfl rfl rfl rfl rfl (r_move rfl) fun ac30 hf33 => ?_)
      refine seq_one (op_val (v := .pointer (slAt P (((c.atV n).toNat) * 1))) hf33 rfl rfl rfl rfl rfl rfl (r_indexAddrR (i := (c.atV n).toNat) (sz := 1) sl_61 rfl rfl (by omega) (by omega) rfl ⟨_, ((VL.rows (VL.start (SS := []) hlC hr0 hrd) hI10 (fk_app (fresh_keys (ks := [b1, b2]) rfl (fk_cons hb1 (fk_cons hb2 fk_nil))) hx1.2.2) (fun _ h => by cases h)) _ _ (rws_get (LL := LL) (j := ((c.atV n).toNat)) (by omega))).choose_spec.1⟩) fun ac31 hf34 => ?_)
      refine seq_one (op_val (v := .slice ((LL.getD ((c.atV n).toNat) eD).1) ((LL.getD ((c.atV n).toNat) eD).2.2.length) ((LL.getD ((c.atV n).toNat) eD).2.1)) hf34 rfl rfl rfl rfl rfl rfl (r_loadE ag_27 rfl (VL.rows (VL.start (SS := []) hlC hr0 hrd) hI10 (fk_app (fresh_keys (ks := [b1, b2]) rfl (fk_cons hb1 (fk_cons hb2 fk_nil))) hx1.2.2) (fun _ h => by cases h)) (rws_get (LL := LL) (j := ((c.atV n).toNat)) (by omega)) rfl) fun ac32 hf35 => ?_)
      refine seq_one (op_val (v := .int .i64 (k : Int)) hf35 rfl rfl rfl rfl rfl rfl (r_move rfl) fun ac33 hf36 => ?_)
      refine seq_one (op_val (v := .pointer (slAt ((LL.getD ((c.atV n).toNat) eD).1) k)) hf36 rfl rfl rfl rfl rfl rfl (r_indexAddrV (i := k) sl_27 rfl rfl rfl (by have := of_decide_eq_true c26_2; omega) (let r := (VN.rd (VL.get (VL.start (SS := []) hlC hr0 hrd) (by omega)) hI10 (fk_app (fresh_keys (ks := [b1, b2]) rfl (fk_cons hb1 (fk_cons hb2 fk_nil))) hx1.2.2) (fun _ h => by cases h)) k (by have := of_decide_eq_true c26_2; omega); ⟨r.choose, r.choose_spec.1⟩)) fun ac34 hf37 => ?_)
      refine seq_one (op_val (v := .int .i64 (((LL.getD ((c.atV n).toNat) eD).2.2).getD k 0)) hf37 rfl rfl rfl rfl rfl rfl (r_loadV ag_3 rfl (VN.rd (VL.get (VL.start (SS := []) hlC hr0 hrd) (by omega)) hI10 (fk_app (fresh_keys (ks := [b1, b2]) rfl (fk_cons hb1 (fk_cons hb2 fk_nil))) hx1.2.2) (fun _ h => by cases h)) (by have := of_decide_eq_true c26_2; omega)) fun ac35 hf38 => ?_)
      refine seq_one (op_val (v := .int .i64 n) hf38 rfl rfl rfl rfl rfl rfl (r_move rfl) fun ac36 hf39 => ?_)
      refine seq_one (op_val (v := .bool ((((LL.getD ((c.atV n).toNat) eD).2.2).getD k 0) != n)) hf39 rfl rfl rfl rfl rfl rfl (r_neq rfl rfl) fun ac37 hf40 => ?_)
      refine seq_end ?_
      clear hf29 ac27 hf30 ac28 hf31 ac29 hf32 ac30 hf33 ac31 hf34 ac32 hf35 ac33 hf36 ac34 hf37 ac35 hf38 ac36 hf39
      refine then_normal ?_
      refine code_if hf40 rfl (fun c38_3 => ?_) (fun c38_3 => ?_)
      · have hf41 := hf40.know 38 (u := .bool true) rfl (congrArg Value.bool c38_3)
        refine seq_start (l := [0, 1, 2, 3, 4, 5, 6, 7, 8, 9, 10, 11]) rfl ?_
        refine seq_one (op_val (v := .slice p ((Ch.woI n ((LL.getD (c.atV n).toNat eD).2.2.take k)).length) cap) hf41 rfl rfl rfl rfl rfl rfl (r_move rfl) fun ac38 hf42 => ?_)
        refine seq_one (op_val (v := .pointer (some ⟨b1, 1, none⟩)) hf42 rfl rfl rfl rfl rfl rfl (r_fieldAddr fi_63_1 rfl rfl) fun ac39 hf43 => ?_)
        refine seq_one (op_val (v := .slice P LL.length C) hf43 rfl rfl rfl rfl rfl rfl (r_load ag_61 rfl (hI10.at 0 rfl) rfl) fun ac40 hf44 => ?_)
        refine seq_one (op_val (v := .int .i64 (c.atV n)) hf44 rfl rfl rfl rfl rfl rfl (r_move rfl) fun ac41 hf45 => ?_)
        refine seq_one (op_val (v := .pointer (slAt P (((c.atV n).toNat) * 1))) hf45 rfl rfl rfl rfl rfl rfl (r_indexAddrR (i := (c.atV n).toNat) (sz := 1) sl_61 rfl rfl (by omega) (by omega) rfl ⟨_, ((VL.rows (VL.start (SS := []) hlC hr0 hrd) hI10 (fk_app (fresh_keys (ks := [b1, b2]) rfl (fk_cons hb1 (fk_cons hb2 fk_nil))) hx1.2.2) (fun _ h => by cases h)) _ _ (rws_get (LL := LL) (j := ((c.atV n).toNat)) (by omega))).choose_spec.1⟩) fun ac42 hf46 => ?_)
        refine seq_one (op_val (v := .slice ((LL.getD ((c.atV n).toNat) eD).1) ((LL.getD ((c.atV n).toNat) eD).2.2.length) ((LL.getD ((c.atV n).toNat) eD).2.1)) hf46 rfl rfl rfl rfl rfl rfl (r_loadE ag_27 rfl (VL.rows (VL.start (SS := []) hlC hr0 hrd) hI10 (fk_app (fresh_keys (ks := [b1, b2]) rfl (fk_cons hb1 (fk_cons hb2 fk_nil))) hx1.2.2) (fun _ h => by cases h)) (rws_get (LL := LL) (j := ((c.atV n).toNat)) (by omega)) rfl) fun ac43 hf47 => ?_)
        refine seq_one (op_val (v := .int .i64 (k : Int)) hf47 rfl rfl rfl rfl rfl rfl (r_move rfl) fun ac44 hf48 => ?_)
        refine seq_one (op_val (v := .pointer (slAt ((LL.getD ((c.atV n).toNat) eD).1) k)) hf48 rfl rfl rfl rfl rfl rfl (r_indexAddrV (i := k) sl_27 rfl rfl rfl (by have := of_decide_eq_true c26_2; omega) (let r := (VN.rd (VL.get (VL.start (SS := []) hlC hr0 hrd) (by omega)) hI10 (fk_app (fresh_keys (ks := [b1, b2]) rfl (fk_cons hb1 (fk_cons hb2 fk_nil))) hx1.2.2) (fun _ h => by cases h)) k (by have := of_decide_eq_true c26_2; omega); ⟨r.choose, r.choose_spec.1⟩)) fun ac45 hf49 => ?_)
        refine seq_one (op_val (v := .int .i64 (((LL.getD ((c.atV n).toNat) eD).2.2).getD k 0)) hf49 rfl rfl rfl rfl rfl rfl (r_loadV ag_3 rfl (VN.rd (VL.get (VL.start (SS := []) hlC hr0 hrd) (by omega)) hI10 (fk_app (fresh_keys (ks := [b1, b2]) rfl (fk_cons hb1 (fk_cons hb2 fk_nil))) hx1.2.2) (fun _ h => by cases h)) (by have := of_decide_eq_true c26_2; omega)) fun ac46 hf50 => ?_)
        refine seq_one (op_bslice (s := 3) (cells := #[.int .i64 (((LL.getD ((c.atV n).toNat) eD).2.2).getD k 0)]) hf50 rfl rfl rfl rfl rfl (fun _ => by kernel_rfl) hI10 fun ac47 b3 wd6 hb3 hI11 hf51 => ?_)
        have hI12 : Inv w ([(b1, #[.int .i64 (N : Int), .slice P LL.length C], 63), (b2, #[.int .i64 0, .slice none 0 0], 63), (b3, #[.int .i64 (((LL.getD ((c.atV n).toNat) eD).2.2).getD k 0)], 3)] ++ S) wd6 := Inv.tail (A := [(b1, #[.int .i64 (N : Int), .slice P LL.length C], 63), (b2, #[.int .i64 0, .slice none 0 0], 63)]) (T := S) (N := [(b3, #[.int .i64 (((LL.getD ((c.atV n).toNat) eD).2.2).getD k 0)], 3)]) hI11
        refine seq_one (op_append1 (A := [(b1, #[.int .i64 (N : Int), .slice P LL.length C], 63), (b2, #[.int .i64 0, .slice none 0 0], 63), (b3, #[.int .i64 (((LL.getD ((c.atV n).toNat) eD).2.2).getD k 0)], 3)]) (S := S) hf51 rfl rfl rfl us_27 if_3 rfl hx1.2.1 rfl hI12 hx1.2.2 (List.mem_of_getElem? (i := 2) rfl) rfl (by have := Ch.woI_le (LL.getD (c.atV n).toNat eD).2.2 n k; simp only [maxLen]; omega) (by have := Ch.woI_le (LL.getD (c.atV n).toNat eD).2.2 n k; omega) fun ac48 p4 capp4 Sp4 wd7 hsp4 hzp4 hI13 hf52 => ?_)
        refine seq_one (op_val (v := .slice p4 (((Ch.woI n ((LL.getD (c.atV n).toNat eD).2.2.take k)) ++ [((LL.getD ((c.atV n).toNat) eD).2.2).getD k 0]).length) capp4) hf52 rfl rfl rfl rfl rfl rfl (r_assign rfl) fun ac49 hf53 => ?_)
        refine seq_end ?_
        clear hf40 ac37 hf41 ac38 hf42 ac39 hf43 ac40 hf44 ac41 hf45 ac42 hf46 ac43 hf47 ac44 hf48 ac45 hf49 ac46 wd5 hI10 hf50 hI11 ac47 wd6 hI12 hf51 ac48 hf52
        refine block_normal ?_
        refine then_normal ?_
        refine seq_start (l := [0, 1, 2]) rfl ?_
        refine seq_one (op_val (v := .int .i64 (k : Int)) hf53 rfl rfl rfl rfl rfl rfl (r_move rfl) fun ac50 hf54 => ?_)
        refine seq_one (op_val (v := .int .i64 ((k + 1 : Nat) : Int)) hf54 rfl rfl rfl rfl rfl rfl (r_add (c := ((k + 1 : Nat) : Int)) rfl rfl (wrap_i64 (by omega) (by have := hx1.1; omega))) fun ac51 hf55 => ?_)
        refine seq_one (op_val (v := .int .i64 ((k + 1 : Nat) : Int)) hf55 rfl rfl rfl rfl rfl rfl (r_assign rfl) fun ac52 hf56 => ?_)
        refine seq_end ?_
        clear ac49 hf53 ac50 hf54 ac51 hf55
        refine then_normal ?_
        exact ⟨(k + 1, p4, capp4, Sp4), (hf56.cons 0 rfl (hf56.cons 1 rfl (hf56.cons 2 rfl (hf56.cons 4 rfl (hf56.cons 5 rfl (hf56.cons 6 rfl (hf56.cons 7 rfl (hf56.cons 10 rfl (hf56.cons 11 rfl (hf56.cons 12 rfl (hf56.cons 13 rfl (hf56.cons 14 rfl (hf56.cons 15 rfl (hf56.cons 16 rfl (hf56.cons 17 rfl (hf56.cons 8 (congrArg (fun z => some (Value.slice p4 (List.length z) capp4)) ((Ch.woI_take (n := n) (by have := of_decide_eq_true c26_2; omega)).trans (if_pos c38_3)).symm) (hf56.cons 9 rfl hf56.nil))))))))))))))))), ⟨(Inv.keep (A := [(b1, #[.int .i64 (N : Int), .slice P LL.length C], 63), (b2, #[.int .i64 0, .slice none 0 0], 63)]) (N := [(b3, #[.int .i64 (((LL.getD ((c.atV n).toNat) eD).2.2).getD k 0)], 3)]) (T := Sp4) hI13 (fresh_keys (ks := [b3]) rfl (fk_cons hb3 fk_nil))), ⟨(by have := of_decide_eq_true c26_2; omega), by rw [((Ch.woI_take (n := n) (by have := of_decide_eq_true c26_2; omega)).trans (if_pos c38_3))]; exact hsp4, hzp4⟩⟩, (by have := of_decide_eq_true c26_2; show (LL.getD (c.atV n).toNat eD).2.2.length - (k + 1) < (LL.getD (c.atV n).toNat eD).2.2.length - k; omega)⟩
      · have hf57 := hf40.know 38 (u := .bool false) rfl (congrArg Value.bool c38_3)
        refine wp_skip ?_
        refine block_normal ?_
        refine then_normal ?_
        refine seq_start (l := [0, 1, 2]) rfl ?_
        refine seq_one (op_val (v := .int .i64 (k : Int)) hf57 rfl rfl rfl rfl rfl rfl (r_move rfl) fun ac53 hf58 => ?_)
        refine seq_one (op_val (v := .int .i64 ((k + 1 : Nat) : Int)) hf58 rfl rfl rfl rfl rfl rfl (r_add (c := ((k + 1 : Nat) : Int)) rfl rfl (wrap_i64 (by omega) (by have := hx1.1; omega))) fun ac54 hf59 => ?_)
        refine seq_one (op_val (v := .int .i64 ((k + 1 : Nat) : Int)) hf59 rfl rfl rfl rfl rfl rfl (r_assign rfl) fun ac55 hf60 => ?_)
        refine seq_end ?_
        clear hf40 ac37 hf57 ac53 hf58 ac54 hf59
        refine then_normal ?_
        exact ⟨(k + 1, p, cap, S), (hf60.cons 0 rfl (hf60.cons 1 rfl (hf60.cons 2 rfl (hf60.cons 4 rfl (hf60.cons 5 rfl (hf60.cons 6 rfl (hf60.cons 7 rfl (hf60.cons 10 rfl (hf60.cons 11 rfl (hf60.cons 12 rfl (hf60.cons 13 rfl (hf60.cons 14 rfl (hf60.cons 15 rfl (hf60.cons 16 rfl (hf60.cons 17 rfl (hf60.cons 8 (congrArg (fun z => some (Value.slice p (List.length z) cap)) ((Ch.woI_take (n := n) (by have := of_decide_eq_true c26_2; omega)).trans (if_neg (by rw [c38_3]; decide))).symm) (hf60.cons 9 rfl hf60.nil))))))))))))))))), ⟨hI10, ⟨(by have := of_decide_eq_true c26_2; omega), by rw [((Ch.woI_take (n := n) (by have := of_decide_eq_true c26_2; omega)).trans (if_neg (by rw [c38_3]; decide)))]; exact hx1.2.1, hx1.2.2⟩⟩, (by have := of_decide_eq_true c26_2; show (LL.getD (c.atV n).toNat eD).2.2.length - (k + 1) < (LL.getD (c.atV n).toNat eD).2.2.length - k; omega)⟩
    · have hf61 := hf29.know 26 (u := .bool false) rfl (congrArg Value.bool c26_2)
      refine wp_exit ?_
      refine then_exit ?_
      refine then_exit ?_
      refine block_here ?_
      refine then_normal ?_
      refine code_seq ?_
      refine seq_start (l := [0, 1, 2, 3, 4, 5]) rfl ?_
      refine seq_one (op_val (v := .agg #[.int .i64 (N : Int), .slice P LL.length C]) hf61 rfl rfl rfl rfl rfl rfl (r_loadW ag_63 sz_63 rfl (hI10.at 0 rfl) rfl) fun ac56 hf62 => ?_)
      refine seq_one (op_val (v := .int .i64 (c.atV n)) hf62 rfl rfl rfl rfl rfl rfl (r_move rfl) fun ac57 hf63 => ?_)
      refine seq_one (op_val (v := .slice p ((Ch.woI n ((LL.getD (c.atV n).toNat eD).2.2.take k)).length) cap) hf63 rfl rfl rfl rfl rfl rfl (r_move rfl) fun ac58 hf64 => ?_)
      refine seq_one (op_call (R := fun v w' => ∃ S P2 C2, v = .agg #[.int .i64 (N : Int), .slice P2 (LL.set ((c.atV n)).toNat (p, cap, (Ch.woI n ((LL.getD (c.atV n).toNat eD).2.2.take k)))).length C2] ∧ SO S P2 C2 (LL.set ((c.atV n)).toNat (p, cap, (Ch.woI n ((LL.getD (c.atV n).toNat eD).2.2.take k)))) ∧ Inv _ S w' ∧ ∀ x ∈ S, Array.size (World.heap _) ≤ x.1) hf64 rfl rfl rfl rfl ca_59 ((rwith_walk (n0 := (N : Int)) (l := (c.atV n)) (q := p) (cq := cap) (xs := (Ch.woI n ((LL.getD (c.atV n).toNat eD).2.2.take k))) hc (VL.start_le (VL.start (SS := []) hlC hr0 hrd)) (VL.rows (VL.start (SS := []) hlC hr0 hrd) hI10 (fk_app (fresh_keys (ks := [b1, b2]) rfl (fk_cons hb1 (fk_cons hb2 fk_nil))) hx1.2.2) (fun _ h => by cases h)) (VL.rds (VL.start (SS := []) hlC hr0 hrd) hI10 (fk_app (fresh_keys (ks := [b1, b2]) rfl (fk_cons hb1 (fk_cons hb2 fk_nil))) hx1.2.2) (fun _ h => by cases h)) (Ch.mem_in (Ch.in_mem (show c.inn n = true by simpa using c17_1))).2.2.1).mono fun _ _ ⟨S, P2, C2, he, h1, h2, h3⟩ => ⟨_, he, S, P2, C2, rfl, h1, h2, h3⟩) fun ac59 v wd8 hR hf65 => ?_)
      obtain ⟨Sq3, q3, capq3, rfl, hsq3, hwq3, hzq3⟩ := hR
      have hyq3 := fk_le hI10.size hzq3
      have hI14 : Inv w ([(b1, #[.int .i64 (N : Int), .slice P LL.length C], 63), (b2, #[.int .i64 0, .slice none 0 0], 63)] ++ (S ++ Sq3)) _ := hI10.callN hwq3 hzq3
      refine seq_one (op_storeW (cells := #[.int .i64 (N : Int), .slice q3 ((LL.set ((c.atV n)).toNat (p, cap, (Ch.woI n ((LL.getD (c.atV n).toNat eD).2.2.take k)))).length) capq3]) 1 hf65 rfl rfl rfl rfl rfl sz_63 rfl rfl hI14 rfl rfl fun wd9 hI15 => ?_)
      have hI16 : Inv w ([(b1, #[.int .i64 (N : Int), .slice P LL.length C], 63), (b2, #[.int .i64 (N : Int), .slice q3 ((LL.set ((c.atV n)).toNat (p, cap, (Ch.woI n ((LL.getD (c.atV n).toNat eD).2.2.take k)))).length) capq3], 63)] ++ (S ++ Sq3)) wd9 := hI15
      refine seq_one (op_val (v := .bool true) hf65 rfl rfl rfl rfl rfl rfl (r_assign rfl) fun ac60 hf66 => ?_)
      refine seq_end ?_
      clear hf29 ac27 hf61 ac56 hf62 ac57 hf63 ac58 wd5 hf64 hI10 hwq3 hzq3 wd8 hI14 hI15 ac59 hf65
      refine then_normal ?_
      refine wp_ret ?_
      have hn := (show c.inn n = true by simpa using c17_1)
      exact postC1 rfl hf66 rfl ag_63 sz_63 (hI16.at 1 rfl) rfl rfl ⟨(S ++ Sq3), q3, capq3, (LL.set ((c.atV n)).toNat (p, cap, (Ch.woI n ((LL.getD (c.atV n).toNat eD).2.2.take k)))), (by rw [hn]), (Inv.keep (A := []) (N := [(b1, #[.int .i64 (N : Int), .slice P LL.length C], 63), (b2, #[.int .i64 (N : Int), .slice q3 ((LL.set ((c.atV n)).toNat (p, cap, (Ch.woI n ((LL.getD (c.atV n).toNat eD).2.2.take k)))).length) capq3], 63)]) (T := (S ++ Sq3)) hI16 (fresh_keys (ks := [b1, b2]) rfl (fk_cons hb1 (fk_cons hb2 fk_nil)))), (fk_app hx1.2.2 hyq3), (Ch.drop_lof hc hn (by have := of_decide_eq_false c26_2; omega)), fun w0 SB h => VL.set h hsq3 hx1.2.1⟩
end Go.Proofs.Ytjelaoblpchmmaa
