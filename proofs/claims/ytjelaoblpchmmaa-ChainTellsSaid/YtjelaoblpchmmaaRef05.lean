/-
  The reference of lists, first part: In and List.
-/
import Derived.Test.YtjelaoblpchmmaaPlain10
namespace Go.Proofs.Ytjelaoblpchmmaa
set_option linter.unusedVariables false
set_option linter.unusedSimpArgs false
set_option maxRecDepth 100000
open Go.RowKit
set_option maxHeartbeats 8000000 in
theorem rin_walk {N K : Nat} {c : Ch N K} {LL : List En} (hc : c.Lof LL) {P : Option Addr} {C : Nat} (hlC : LL.length ≤ C) {w : World} (hr0 : Rows_ w P 1 (rws LL)) (hrd : ∀ e ∈ LL, Rd w .i64 e.1 e.2.2) {n0 n : Int} : Calls Try.prog 42 [.agg #[.int .i64 n0, .slice P LL.length C], .int .i64 n].toArray w fun e w' => e = .returned (.tuple #[.int .i64 (c.atV n), .bool (c.inn n)]) ∧ Inv w [] w' := by
  have hk := hc.len
  have hK := c.hK
  have hN := c.hN
  have hI1 := Inv.start w
  refine enter (n := 36) Try.func42 rfl rfl rfl ?_
  intro ac1 hf1
  refine code_seq ?_
  refine seq_start (l := [0, 1, 2]) rfl ?_
  refine seq_one (op_box hf1 rfl rfl rfl rfl hI1 fun ac2 b1 wd1 hb1 hI2 hf2 => ?_)
  have hI3 : Inv w [(b1, #[.int .i64 n0, .slice P LL.length C], 63)] wd1 := hI2
  refine seq_one (op_val (v := .int .i64 0) hf2 rfl rfl rfl rfl rfl rfl (r_assign rfl) fun ac3 hf3 => ?_)
  refine seq_one (op_val (v := .bool false) hf3 rfl rfl rfl rfl rfl rfl (r_assign rfl) fun ac4 hf4 => ?_)
  refine seq_end ?_
  clear ac1 hI1 hf1 hI2 ac2 hf2 ac3 hf3
  refine then_normal ?_
  refine code_seq ?_
  refine code_seq ?_
  refine seq_start (l := [0]) rfl ?_
  refine seq_one (op_val (v := .int .i64 0) hf4 rfl rfl rfl rfl rfl rfl (r_assign rfl) fun ac5 hf5 => ?_)
  refine seq_end ?_
  clear ac4 hf4
  refine then_normal ?_
  refine wp_block ?_
  refine code_loop (α := Nat) (fun (i : Nat) => [(0, .agg #[.int .i64 n0, .slice P LL.length C]), (1, .int .i64 n), (2, .pointer (some ⟨b1, 0, none⟩)), (6, .int .i64 (i : Int))]) (fun (i : Nat) => fun wL => Inv w [(b1, #[.int .i64 n0, .slice P LL.length C], 63)] wL ∧ (i ≤ K ∧ ∀ j, j < i → ∀ m, m < (LL.getD j eD).2.2.length → (LL.getD j eD).2.2.getD m 0 ≠ n)) (fun (i : Nat) => K - i) 0 (hf5.cons 0 rfl (hf5.cons 1 rfl (hf5.cons 2 rfl (hf5.cons 6 rfl hf5.nil)))) ⟨hI3, ⟨Nat.zero_le _, fun _ h => absurd h (Nat.not_lt_zero _)⟩⟩ ?_
  intro i ac6 wd2 hf6 hL1
  obtain ⟨hI4, hx1⟩ := hL1
  clear ac5 wd1 hf5 hI3
  refine code_seq ?_
  refine code_seq ?_
  refine seq_start (l := [0, 1, 2, 3, 4]) rfl ?_
  refine seq_one (op_val (v := .int .i64 (i : Int)) hf6 rfl rfl rfl rfl rfl rfl (r_move rfl) fun ac7 hf7 => ?_)
  refine seq_one (op_val (v := .pointer (some ⟨b1, 1, none⟩)) hf7 rfl rfl rfl rfl rfl rfl (r_fieldAddr fi_63_1 rfl rfl) fun ac8 hf8 => ?_)
  refine seq_one (op_val (v := .slice P LL.length C) hf8 rfl rfl rfl rfl rfl rfl (r_load ag_61 rfl (hI4.at 0 rfl) rfl) fun ac9 hf9 => ?_)
  refine seq_one (op_val (v := .int .i64 ((LL.length : Nat) : Int)) hf9 rfl rfl rfl rfl rfl rfl (r_len sl_61 rfl) fun ac10 hf10 => ?_)
  refine seq_one (op_val (v := .bool (decide ((i : Int) < ((LL.length : Nat) : Int)))) hf10 rfl rfl rfl rfl rfl rfl (r_lss rfl rfl) fun ac11 hf11 => ?_)
  refine seq_end ?_
  clear ac6 hf6 ac7 hf7 ac8 hf8 ac9 hf9 ac10 hf10
  refine then_normal ?_
  refine code_if hf11 rfl (fun c12_1 => ?_) (fun c12_1 => ?_)
  · have hf12 := hf11.know 12 (u := .bool true) rfl (congrArg Value.bool c12_1)
    refine wp_skip ?_
    refine then_normal ?_
    refine code_seq ?_
    refine wp_block ?_
    refine code_seq ?_
    refine seq_start (l := [0]) rfl ?_
    refine seq_one (op_val (v := .int .i64 0) hf12 rfl rfl rfl rfl rfl rfl (r_assign rfl) fun ac12 hf13 => ?_)
    refine seq_end ?_
    clear hf11 ac11 hf12
    refine then_normal ?_
    refine wp_block ?_
    refine code_loop (α := Nat) (fun (k : Nat) => [(0, .agg #[.int .i64 n0, .slice P LL.length C]), (1, .int .i64 n), (2, .pointer (some ⟨b1, 0, none⟩)), (6, .int .i64 (i : Int)), (8, .int .i64 (i : Int)), (9, .pointer (some ⟨b1, 1, none⟩)), (10, .slice P LL.length C), (11, .int .i64 ((LL.length : Nat) : Int)), (12, .bool true), (7, .int .i64 (k : Int))]) (fun (k : Nat) => fun wL => Inv w [(b1, #[.int .i64 n0, .slice P LL.length C], 63)] wL ∧ (k ≤ (LL.getD i eD).2.2.length ∧ ∀ m, m < k → (LL.getD i eD).2.2.getD m 0 ≠ n)) (fun (k : Nat) => (LL.getD i eD).2.2.length - k) 0 (hf13.cons 0 rfl (hf13.cons 1 rfl (hf13.cons 2 rfl (hf13.cons 6 rfl (hf13.cons 8 rfl (hf13.cons 9 rfl (hf13.cons 10 rfl (hf13.cons 11 rfl (hf13.cons 12 rfl (hf13.cons 7 rfl hf13.nil)))))))))) ⟨hI4, ⟨Nat.zero_le _, fun _ h => absurd h (Nat.not_lt_zero _)⟩⟩ ?_
    intro k ac13 wd3 hf14 hL2
    obtain ⟨hI5, hx2⟩ := hL2
    clear ac12 wd2 hf13 hI4
    refine code_seq ?_
    refine code_seq ?_
    refine seq_start (l := [0, 1, 2, 3, 4, 5, 6, 7]) rfl ?_
    refine seq_one (op_val (v := .int .i64 (k : Int)) hf14 rfl rfl rfl rfl rfl rfl (r_move rfl) fun ac14 hf15 => ?_)
    refine seq_one (op_val (v := .pointer (some ⟨b1, 1, none⟩)) hf15 rfl rfl rfl rfl rfl rfl (r_fieldAddr fi_63_1 rfl rfl) fun ac15 hf16 => ?_)
    refine seq_one (op_val (v := .slice P LL.length C) hf16 rfl rfl rfl rfl rfl rfl (r_load ag_61 rfl (hI5.at 0 rfl) rfl) fun ac16 hf17 => ?_)
    refine seq_one (op_val (v := .int .i64 (i : Int)) hf17 rfl rfl rfl rfl rfl rfl (r_move rfl) fun ac17 hf18 => ?_)
    refine seq_one (op_val (v := .pointer (slAt P (i * 1))) hf18 rfl rfl rfl rfl rfl rfl (r_indexAddrR (i := i) (sz := 1) sl_61 rfl rfl rfl (by have := of_decide_eq_true c12_1; omega) rfl ⟨_, ((VL.rows (VL.start (SS := []) hlC hr0 hrd) hI5 (fresh_keys (ks := [b1]) rfl (fk_cons hb1 fk_nil)) (fun _ h => by cases h)) _ _ (rws_get (LL := LL) (j := i) (by have := of_decide_eq_true c12_1; omega))).choose_spec.1⟩) fun ac18 hf19 => ?_)
    refine seq_one (op_val (v := .slice ((LL.getD i eD).1) ((LL.getD i eD).2.2.length) ((LL.getD i eD).2.1)) hf19 rfl rfl rfl rfl rfl rfl (r_loadE ag_27 rfl (VL.rows (VL.start (SS := []) hlC hr0 hrd) hI5 (fresh_keys (ks := [b1]) rfl (fk_cons hb1 fk_nil)) (fun _ h => by cases h)) (rws_get (LL := LL) (j := i) (by have := of_decide_eq_true c12_1; omega)) rfl) fun ac19 hf20 => ?_)
    refine seq_one (op_val (v := .int .i64 ((LL.getD i eD).2.2.length : Int)) hf20 rfl rfl rfl rfl rfl rfl (r_len sl_27 rfl) fun ac20 hf21 => ?_)
    refine seq_one (op_val (v := .bool (decide ((k : Int) < ((LL.getD i eD).2.2.length : Int)))) hf21 rfl rfl rfl rfl rfl rfl (r_lss rfl rfl) fun ac21 hf22 => ?_)
    refine seq_end ?_
    clear ac13 hf14 ac14 hf15 ac15 hf16 ac16 hf17 ac17 hf18 ac18 hf19 ac19 hf20 ac20 hf21
    refine then_normal ?_
    refine code_if hf22 rfl (fun c22_2 => ?_) (fun c22_2 => ?_)
    · have hf23 := hf22.know 22 (u := .bool true) rfl (congrArg Value.bool c22_2)
      refine wp_skip ?_
      refine then_normal ?_
      refine code_seq ?_
      refine wp_block ?_
      refine code_seq ?_
      refine seq_start (l := [0, 1, 2, 3, 4, 5, 6, 7, 8, 9]) rfl ?_
      refine seq_one (op_val (v := .pointer (some ⟨b1, 1, none⟩)) hf23 rfl rfl rfl rfl rfl rfl (r_fieldAddr fi_63_1 rfl rfl) fun ac22 hf24 => ?_)
      refine seq_one (op_val (v := .slice P LL.length C) hf24 rfl rfl rfl rfl rfl rfl (r_load ag_61 rfl (hI5.at 0 rfl) rfl) fun ac23 hf25 => ?_)
      refine seq_one (op_val (v := .int .i64 (i : Int)) hf25 rfl rfl rfl rfl rfl rfl (r_move rfl) fun ac24 hf26 => ?_)
      refine seq_one (op_val (v := .pointer (slAt P (i * 1))) hf26 rfl rfl rfl rfl rfl rfl (r_indexAddrR (i := i) (sz := 1) sl_61 rfl rfl rfl (by have := of_decide_eq_true c12_1; omega) rfl ⟨_, ((VL.rows (VL.start (SS := []) hlC hr0 hrd) hI5 (fresh_keys (ks := [b1]) rfl (fk_cons hb1 fk_nil)) (fun _ h => by cases h)) _ _ (rws_get (LL := LL) (j := i) (by have := of_decide_eq_true c12_1; omega))).choose_spec.1⟩) fun ac25 hf27 => ?_)
      refine seq_one (op_val (v := .slice ((LL.getD i eD).1) ((LL.getD i eD).2.2.length) ((LL.getD i eD).2.1)) hf27 rfl rfl rfl rfl rfl rfl (r_loadE ag_27 rfl (VL.rows (VL.start (SS := []) hlC hr0 hrd) hI5 (fresh_keys (ks := [b1]) rfl (fk_cons hb1 fk_nil)) (fun _ h => by cases h)) (rws_get (LL := LL) (j := i) (by have := of_decide_eq_true c12_1; omega)) rfl) fun ac26 hf28 => ?_)
      refine seq_one (op_val (v := .int .i64 (k : Int)) hf28 rfl rfl rfl rfl rfl rfl (r_move rfl) fun ac27 hf29 => ?_)
      refine seq_one (op_val (v := .pointer (slAt ((LL.getD i eD).1) k)) hf29 rfl rfl rfl rfl rfl rfl (r_indexAddrV (i := k) sl_27 rfl rfl rfl (by have := of_decide_eq_true c22_2; omega) (let r := (VN.rd (VL.get (VL.start (SS := []) hlC hr0 hrd) (by have := of_decide_eq_true c12_1; omega)) hI5 (fresh_keys (ks := [b1]) rfl (fk_cons hb1 fk_nil)) (fun _ h => by cases h)) k (by have := of_decide_eq_true c22_2; omega); ⟨r.choose, r.choose_spec.1⟩)) fun ac28 hf30 => ?_)
      refine seq_one (op_val (v := .int .i64 (((LL.getD i eD).2.2).getD k 0)) hf30 rfl rfl rfl rfl rfl rfl (r_loadV ag_3 rfl (VN.rd (VL.get (VL.start (SS := []) hlC hr0 hrd) (by have := of_decide_eq_true c12_1; omega)) hI5 (fresh_keys (ks := [b1]) rfl (fk_cons hb1 fk_nil)) (fun _ h => by cases h)) (by have := of_decide_eq_true c22_2; omega)) fun ac29 hf31 => ?_)
      refine seq_one (op_val (v := .int .i64 n) hf31 rfl rfl rfl rfl rfl rfl (r_move rfl) fun ac30 hf32 => ?_)
      refine seq_one (op_val (v := .bool ((((LL.getD i eD).2.2).getD k 0) == n)) hf32 rfl rfl rfl rfl rfl rfl (r_eql rfl rfl) fun ac31 hf33 => ?_)
      refine seq_end ?_
      clear hf22 ac21 hf23 ac22 hf24 ac23 hf25 ac24 hf26 ac25 hf27 ac26 hf28 ac27 hf29 ac28 hf30 ac29 hf31 ac30 hf32
      refine then_normal ?_
      refine code_if hf33 rfl (fun c34_3 => ?_) (fun c34_3 => ?_)
      · have hf34 := hf33.know 34 (u := .bool true) rfl (congrArg Value.bool c34_3)
        refine code_seq ?_
        refine seq_start (l := [0, 1, 2]) rfl ?_
        refine seq_one (op_val (v := .int .i64 (i : Int)) hf34 rfl rfl rfl rfl rfl rfl (r_move rfl) fun ac32 hf35 => ?_)
        refine seq_one (op_val (v := .int .i64 (i : Int)) hf35 rfl rfl rfl rfl rfl rfl (r_assign rfl) fun ac33 hf36 => ?_)
        refine seq_one (op_val (v := .bool true) hf36 rfl rfl rfl rfl rfl rfl (r_assign rfl) fun ac34 hf37 => ?_)
        refine seq_end ?_
        clear hf33 ac31 hf34 ac32 hf35 ac33 hf36
        refine then_normal ?_
        refine wp_ret ?_
        refine block_ret ?_
        refine then_ret ?_
        refine then_ret ?_
        refine block_ret ?_
        refine block_ret ?_
        refine then_ret ?_
        refine then_ret ?_
        refine block_ret ?_
        refine then_ret ?_
        have hh := Ch.in_t hc (i := i) (k := k) (by have := of_decide_eq_true c12_1; omega) (by have := of_decide_eq_true c22_2; omega) (beq_iff_eq.1 c34_3)
        exact post2 rfl hf37 rfl rfl ⟨by rw [hh.1, hh.2], hI5.done (fresh_keys (ks := [b1]) rfl (fk_cons hb1 fk_nil))⟩
      · have hf38 := hf33.know 34 (u := .bool false) rfl (congrArg Value.bool c34_3)
        refine wp_skip ?_
        refine block_normal ?_
        refine then_normal ?_
        refine seq_start (l := [0, 1, 2]) rfl ?_
        refine seq_one (op_val (v := .int .i64 (k : Int)) hf38 rfl rfl rfl rfl rfl rfl (r_move rfl) fun ac35 hf39 => ?_)
        refine seq_one (op_val (v := .int .i64 ((k + 1 : Nat) : Int)) hf39 rfl rfl rfl rfl rfl rfl (r_add (c := ((k + 1 : Nat) : Int)) rfl rfl (wrap_i64 (by have := hx2.1; have := hc.le (j := i) (by have := of_decide_eq_true c12_1; omega); omega) (by have := hx2.1; have := hc.le (j := i) (by have := of_decide_eq_true c12_1; omega); omega))) fun ac36 hf40 => ?_)
        refine seq_one (op_val (v := .int .i64 ((k + 1 : Nat) : Int)) hf40 rfl rfl rfl rfl rfl rfl (r_assign rfl) fun ac37 hf41 => ?_)
        refine seq_end ?_
        clear hf33 ac31 hf38 ac35 hf39 ac36 hf40
        refine then_normal ?_
        exact ⟨k + 1, (hf41.cons 0 rfl (hf41.cons 1 rfl (hf41.cons 2 rfl (hf41.cons 6 rfl (hf41.cons 8 rfl (hf41.cons 9 rfl (hf41.cons 10 rfl (hf41.cons 11 rfl (hf41.cons 12 rfl (hf41.cons 7 rfl hf41.nil)))))))))), ⟨hI5, ⟨(by have := of_decide_eq_true c22_2; omega), fun m hm => by rcases Nat.lt_succ_iff_lt_or_eq.1 hm with h | h; exact hx2.2 m h; rw [h]; exact beq_eq_false_iff_ne.1 c34_3⟩⟩, (by have := of_decide_eq_true c22_2; show (LL.getD i eD).2.2.length - (k + 1) < (LL.getD i eD).2.2.length - k; omega)⟩
    · have hf42 := hf22.know 22 (u := .bool false) rfl (congrArg Value.bool c22_2)
      refine wp_exit ?_
      refine then_exit ?_
      refine then_exit ?_
      refine block_here ?_
      refine block_normal ?_
      refine then_normal ?_
      refine seq_start (l := [0, 1, 2]) rfl ?_
      refine seq_one (op_val (v := .int .i64 (i : Int)) hf42 rfl rfl rfl rfl rfl rfl (r_move rfl) fun ac38 hf43 => ?_)
      refine seq_one (op_val (v := .int .i64 ((i + 1 : Nat) : Int)) hf43 rfl rfl rfl rfl rfl rfl (r_add (c := ((i + 1 : Nat) : Int)) rfl rfl (wrap_i64 (by omega) (by have := hx1.1; omega))) fun ac39 hf44 => ?_)
      refine seq_one (op_val (v := .int .i64 ((i + 1 : Nat) : Int)) hf44 rfl rfl rfl rfl rfl rfl (r_assign rfl) fun ac40 hf45 => ?_)
      refine seq_end ?_
      clear hf22 ac21 hf42 ac38 hf43 ac39 hf44
      refine then_normal ?_
      exact ⟨i + 1, (hf45.cons 0 rfl (hf45.cons 1 rfl (hf45.cons 2 rfl (hf45.cons 6 rfl hf45.nil)))), ⟨hI5, ⟨(by have := of_decide_eq_true c12_1; omega), fun j hj => by rcases Nat.lt_succ_iff_lt_or_eq.1 hj with h | h; exact hx1.2 j h; rw [h]; exact fun m hm => hx2.2 m (by have := of_decide_eq_false c22_2; omega)⟩⟩, (by have := of_decide_eq_true c12_1; show K - (i + 1) < K - i; omega)⟩
  · have hf46 := hf11.know 12 (u := .bool false) rfl (congrArg Value.bool c12_1)
    refine wp_exit ?_
    refine then_exit ?_
    refine then_exit ?_
    refine block_here ?_
    refine then_normal ?_
    refine code_seq ?_
    refine seq_start (l := [0, 1]) rfl ?_
    refine seq_one (op_val (v := .int .i64 0) hf46 rfl rfl rfl rfl rfl rfl (r_assign rfl) fun ac41 hf47 => ?_)
    refine seq_one (op_val (v := .bool false) hf47 rfl rfl rfl rfl rfl rfl (r_assign rfl) fun ac42 hf48 => ?_)
    refine seq_end ?_
    clear hf11 ac11 hf46 ac41 hf47
    refine then_normal ?_
    refine wp_ret ?_
    have hh := Ch.in_f hc (fun j hj => hx1.2 j (by have := of_decide_eq_false c12_1; omega))
    exact post2 rfl hf48 rfl rfl ⟨by rw [hh.1, hh.2], hI4.done (fresh_keys (ks := [b1]) rfl (fk_cons hb1 fk_nil))⟩
set_option maxHeartbeats 8000000 in
theorem rlist_walk {N K : Nat} {c : Ch N K} {LL : List En} (hc : c.Lof LL) {P : Option Addr} {C : Nat} (hlC : LL.length ≤ C) {w : World} (hr0 : Rows_ w P 1 (rws LL)) (hrd : ∀ e ∈ LL, Rd w .i64 e.1 e.2.2) {n0 l : Int} : Calls Try.prog 39 [.agg #[.int .i64 n0, .slice P LL.length C], .int .i64 l].toArray w fun e w' => ∃ p cap, e = .returned (.slice p (c.lst l).length cap) ∧ (∀ w0 SB, VL w0 SB P C LL → VN w0 SB p (c.lst l)) ∧ Inv w [] w' := by
  have hk := hc.len
  have hK := c.hK
  have hN := c.hN
  have hI1 := Inv.start w
  refine enter (n := 19) Try.func39 rfl rfl rfl ?_
  intro ac1 hf1
  refine code_seq ?_
  refine seq_start (l := [0, 1]) rfl ?_
  refine seq_one (op_box hf1 rfl rfl rfl rfl hI1 fun ac2 b1 wd1 hb1 hI2 hf2 => ?_)
  have hI3 : Inv w [(b1, #[.int .i64 n0, .slice P LL.length C], 63)] wd1 := hI2
  refine seq_one (op_val (v := .slice none 0 0) hf2 rfl rfl rfl rfl rfl rfl (r_assign rfl) fun ac3 hf3 => ?_)
  refine seq_end ?_
  clear ac1 hI1 hf1 hI2 ac2 hf2
  refine then_normal ?_
  refine code_seq ?_
  refine code_seq ?_
  refine seq_start (l := [0, 1, 2, 3, 4, 5, 6, 7, 8]) rfl ?_
  refine seq_one (op_val (v := .int .i64 l) hf3 rfl rfl rfl rfl rfl rfl (r_move rfl) fun ac4 hf4 => ?_)
  refine seq_one (op_val (v := .bool (decide (l < 0))) hf4 rfl rfl rfl rfl rfl rfl (r_lss rfl rfl) fun ac5 hf5 => ?_)
  refine seq_one (op_val (v := .bool (decide (l < 0))) hf5 rfl rfl rfl rfl rfl rfl (r_move rfl) fun ac6 hf6 => ?_)
  rcases Bool.eq_false_or_eq_true (decide (l < 0) : Bool) with g7_1 | g7_1
  · have hf7 := hf6.know 7 (u := .bool true) rfl (congrArg Value.bool g7_1)
    refine seq_one (op_skip hf7 rfl rfl rfl rfl fun ac7 hf8 => ?_)
    refine seq_one (op_skip hf8 rfl rfl rfl rfl fun ac8 hf9 => ?_)
    refine seq_one (op_skip hf9 rfl rfl rfl rfl fun ac9 hf10 => ?_)
    refine seq_one (op_skip hf10 rfl rfl rfl rfl fun ac10 hf11 => ?_)
    refine seq_one (op_skip hf11 rfl rfl rfl rfl fun ac11 hf12 => ?_)
    refine seq_one (op_val (v := .bool true) hf12 rfl rfl rfl rfl rfl rfl (r_pickT rfl rfl) fun ac12 hf13 => ?_)
    refine seq_end ?_
    clear ac3 hf3 ac4 hf4 ac5 hf5 hf6 ac6 hf7 ac7 hf8 ac8 hf9 ac9 hf10 ac10 hf11 ac11 hf12
    refine then_normal ?_
    refine code_if_true hf13 rfl ?_
    refine code_seq ?_
    refine seq_start (l := [0]) rfl ?_
    refine seq_one (op_val (v := .slice none 0 0) hf13 rfl rfl rfl rfl rfl rfl (r_assign rfl) fun ac13 hf14 => ?_)
    refine seq_end ?_
    clear ac12 hf13
    refine then_normal ?_
    refine wp_ret ?_
    refine then_ret ?_
    have ho := Ch.lst_out (c := c) (l := l) (by have := of_decide_eq_true g7_1; omega)
    exact post1 rfl hf14 rfl ⟨none, 0, by rw [ho]; rfl, fun w0 SB h => by rw [ho]; exact VN.nil, hI3.done (fresh_keys (ks := [b1]) rfl (fk_cons hb1 fk_nil))⟩
  · have hf15 := hf6.know 7 (u := .bool false) rfl (congrArg Value.bool g7_1)
    refine seq_one (op_val (v := .int .i64 l) hf15 rfl rfl rfl rfl rfl rfl (r_move rfl) fun ac14 hf16 => ?_)
    refine seq_one (op_val (v := .pointer (some ⟨b1, 1, none⟩)) hf16 rfl rfl rfl rfl rfl rfl (r_fieldAddr fi_63_1 rfl rfl) fun ac15 hf17 => ?_)
    refine seq_one (op_val (v := .slice P LL.length C) hf17 rfl rfl rfl rfl rfl rfl (r_load ag_61 rfl (hI3.at 0 rfl) rfl) fun ac16 hf18 => ?_)
    refine seq_one (op_val (v := .int .i64 ((LL.length : Nat) : Int)) hf18 rfl rfl rfl rfl rfl rfl (r_len sl_61 rfl) fun ac17 hf19 => ?_)
    refine seq_one (op_val (v := .bool (decide (l ≥ ((LL.length : Nat) : Int)))) hf19 rfl rfl rfl rfl rfl rfl (r_geq rfl rfl) fun ac18 hf20 => ?_)
    refine seq_one (op_val (v := .bool (decide (l ≥ ((LL.length : Nat) : Int)))) hf20 rfl rfl rfl rfl rfl rfl (r_pickF rfl rfl) fun ac19 hf21 => ?_)
    refine seq_end ?_
    clear ac3 hf3 ac4 hf4 ac5 hf5 hf6 ac6 hf15 ac14 hf16 ac15 hf17 ac16 hf18 ac17 hf19 ac18 hf20
    refine then_normal ?_
    refine code_if hf21 rfl (fun c13_2 => ?_) (fun c13_2 => ?_)
    · have hf22 := hf21.know 13 (u := .bool true) rfl (congrArg Value.bool c13_2)
      refine code_seq ?_
      refine seq_start (l := [0]) rfl ?_
      refine seq_one (op_val (v := .slice none 0 0) hf22 rfl rfl rfl rfl rfl rfl (r_assign rfl) fun ac20 hf23 => ?_)
      refine seq_end ?_
      clear hf21 ac19 hf22
      refine then_normal ?_
      refine wp_ret ?_
      refine then_ret ?_
      have ho := Ch.lst_out (c := c) (l := l) (by have := of_decide_eq_true c13_2; omega)
      exact post1 rfl hf23 rfl ⟨none, 0, by rw [ho]; rfl, fun w0 SB h => by rw [ho]; exact VN.nil, hI3.done (fresh_keys (ks := [b1]) rfl (fk_cons hb1 fk_nil))⟩
    · have hf24 := hf21.know 13 (u := .bool false) rfl (congrArg Value.bool c13_2)
      refine wp_skip ?_
      refine then_normal ?_
      refine code_seq ?_
      refine seq_start (l := [0, 1, 2, 3, 4, 5]) rfl ?_
      refine seq_one (op_val (v := .pointer (some ⟨b1, 1, none⟩)) hf24 rfl rfl rfl rfl rfl rfl (r_fieldAddr fi_63_1 rfl rfl) fun ac21 hf25 => ?_)
      refine seq_one (op_val (v := .slice P LL.length C) hf25 rfl rfl rfl rfl rfl rfl (r_load ag_61 rfl (hI3.at 0 rfl) rfl) fun ac22 hf26 => ?_)
      refine seq_one (op_val (v := .int .i64 l) hf26 rfl rfl rfl rfl rfl rfl (r_move rfl) fun ac23 hf27 => ?_)
      refine seq_one (op_val (v := .pointer (slAt P (l.toNat * 1))) hf27 rfl rfl rfl rfl rfl rfl (r_indexAddrR (i := l.toNat) (sz := 1) sl_61 rfl rfl (by have := of_decide_eq_false g7_1; omega) (by have := of_decide_eq_false g7_1; have := of_decide_eq_false c13_2; omega) rfl ⟨_, ((VL.rows (VL.start (SS := []) hlC hr0 hrd) hI3 (fresh_keys (ks := [b1]) rfl (fk_cons hb1 fk_nil)) (fun _ h => by cases h)) _ _ (rws_get (LL := LL) (j := l.toNat) (by have := of_decide_eq_false g7_1; have := of_decide_eq_false c13_2; omega))).choose_spec.1⟩) fun ac24 hf28 => ?_)
      refine seq_one (op_val (v := .slice ((LL.getD l.toNat eD).1) ((LL.getD l.toNat eD).2.2.length) ((LL.getD l.toNat eD).2.1)) hf28 rfl rfl rfl rfl rfl rfl (r_loadE ag_27 rfl (VL.rows (VL.start (SS := []) hlC hr0 hrd) hI3 (fresh_keys (ks := [b1]) rfl (fk_cons hb1 fk_nil)) (fun _ h => by cases h)) (rws_get (LL := LL) (j := l.toNat) (by have := of_decide_eq_false g7_1; have := of_decide_eq_false c13_2; omega)) rfl) fun ac25 hf29 => ?_)
      refine seq_one (op_val (v := .slice ((LL.getD l.toNat eD).1) ((LL.getD l.toNat eD).2.2.length) ((LL.getD l.toNat eD).2.1)) hf29 rfl rfl rfl rfl rfl rfl (r_assign rfl) fun ac26 hf30 => ?_)
      refine seq_end ?_
      clear hf21 ac19 hf24 ac21 hf25 ac22 hf26 ac23 hf27 ac24 hf28 ac25 hf29
      refine then_normal ?_
      refine wp_ret ?_
      have hg := Ch.Lof.get' hc (l := l) (by have := of_decide_eq_false g7_1; have := of_decide_eq_false c13_2; omega)
      exact post1 rfl hf30 rfl ⟨_, _, by rw [← hg], fun w0 SB h => by rw [← hg]; exact h.get (by have := of_decide_eq_false g7_1; have := of_decide_eq_false c13_2; omega), hI3.done (fresh_keys (ks := [b1]) rfl (fk_cons hb1 fk_nil))⟩
end Go.Proofs.Ytjelaoblpchmmaa
