/-
  The reference of lists, second part: with.
-/
import Derived.Test.YtjelaoblpchmmaaRef05
namespace Go.Proofs.Ytjelaoblpchmmaa
set_option linter.unusedVariables false
set_option linter.unusedSimpArgs false
set_option maxRecDepth 100000
open Go.RowKit
set_option maxHeartbeats 8000000 in
theorem rwith_walk {N K : Nat} {c : Ch N K} {LL : List En} (hc : c.Lof LL) {P : Option Addr} {C : Nat} (hlC : LL.length ≤ C) {w : World} (hr0 : Rows_ w P 1 (rws LL)) (hrd : ∀ e ∈ LL, Rd w .i64 e.1 e.2.2) {n0 l : Int} (hl : 0 ≤ l ∧ l < (K : Int)) {q : Option Addr} {cq : Nat} {xs : List Int} : Calls Try.prog 59 [.agg #[.int .i64 n0, .slice P LL.length C], .int .i64 l, .slice q xs.length cq].toArray w fun e w' => ∃ S P2 C2, e = .returned (.agg #[.int .i64 n0, .slice P2 (LL.set l.toNat (q, cq, xs)).length C2]) ∧ SO S P2 C2 (LL.set l.toNat (q, cq, xs)) ∧ Inv w S w' ∧ ∀ x ∈ S, w.heap.size ≤ x.1 := by
  have hk := hc.len
  have hK := c.hK
  have hN := c.hN
  have hI1 := Inv.start w
  refine enter (n := 39) Try.func59 rfl rfl rfl ?_
  intro ac1 hf1
  refine code_seq ?_
  refine seq_start (l := [0, 1]) rfl ?_
  refine seq_one (op_box hf1 rfl rfl rfl rfl hI1 fun ac2 b1 wd1 hb1 hI2 hf2 => ?_)
  have hI3 : Inv w [(b1, #[.int .i64 n0, .slice P LL.length C], 63)] wd1 := hI2
  refine seq_one (op_alloc hf2 rfl rfl rfl ze_63 hI3 fun ac3 b2 wd2 hb2 hI4 hf3 => ?_)
  have hI5 : Inv w [(b1, #[.int .i64 n0, .slice P LL.length C], 63), (b2, #[.int .i64 0, .slice none 0 0], 63)] wd2 := hI4
  refine seq_end ?_
  clear ac1 hI1 hf1 hI2 ac2 wd1 hI3 hf2 hI4
  refine then_normal ?_
  refine code_seq ?_
  refine seq_start (l := [0, 1, 2, 3, 4]) rfl ?_
  refine seq_one (op_val (v := .pointer (some ⟨b1, 0, none⟩)) hf3 rfl rfl rfl rfl rfl rfl (r_fieldAddr fi_63_0 rfl rfl) fun ac4 hf4 => ?_)
  refine seq_one (op_val (v := .int .i64 n0) hf4 rfl rfl rfl rfl rfl rfl (r_load ag_3 rfl (hI5.at 0 rfl) rfl) fun ac5 hf5 => ?_)
  refine seq_one (op_val (v := .agg #[.int .i64 n0, .slice none 0 0]) hf5 rfl rfl rfl rfl rfl rfl (r_build (v := .agg #[.int .i64 n0, .slice none 0 0]) rfl (fun _ => by kernel_rfl)) fun ac6 hf6 => ?_)
  refine seq_one (op_alloc hf6 rfl rfl rfl ze_63 hI5 fun ac7 b3 wd3 hb3 hI6 hf7 => ?_)
  have hI7 : Inv w [(b1, #[.int .i64 n0, .slice P LL.length C], 63), (b2, #[.int .i64 0, .slice none 0 0], 63), (b3, #[.int .i64 0, .slice none 0 0], 63)] wd3 := hI6
  refine seq_one (op_storeW (cells := #[.int .i64 n0, .slice none 0 0]) 2 hf7 rfl rfl rfl rfl rfl sz_63 rfl rfl hI7 rfl rfl fun wd4 hI8 => ?_)
  have hI9 : Inv w [(b1, #[.int .i64 n0, .slice P LL.length C], 63), (b2, #[.int .i64 0, .slice none 0 0], 63), (b3, #[.int .i64 n0, .slice none 0 0], 63)] wd4 := hI8
  refine seq_end ?_
  clear ac3 hf3 ac4 hf4 ac5 hf5 ac6 wd2 hI5 hf6 hI6 wd3 hI7 hI8
  refine then_normal ?_
  refine code_seq ?_
  refine code_seq ?_
  refine seq_start (l := [0]) rfl ?_
  refine seq_one (op_val (v := .int .i64 0) hf7 rfl rfl rfl rfl rfl rfl (r_assign rfl) fun ac8 hf8 => ?_)
  refine seq_end ?_
  clear ac7 hf7
  refine then_normal ?_
  refine wp_block ?_
  have hI10 : Inv w ([(b1, #[.int .i64 n0, .slice P LL.length C], 63), (b2, #[.int .i64 0, .slice none 0 0], 63), (b3, #[.int .i64 n0, .slice none (((LL.set l.toNat (q, cq, xs)).take 0).length) 0], 63)] ++ []) wd4 := hI9.more
  refine code_loop (α := Nat × (Option Addr) × Nat × (List Blk)) (fun (x : Nat × (Option Addr) × Nat × (List Blk)) => match x with | (i, P2, C2, S) => [(0, .agg #[.int .i64 n0, .slice P LL.length C]), (1, .int .i64 l), (2, .slice q xs.length cq), (3, .pointer (some ⟨b1, 0, none⟩)), (6, .pointer (some ⟨b2, 0, none⟩)), (7, .pointer (some ⟨b3, 0, none⟩)), (9, .pointer (some ⟨b1, 0, none⟩)), (10, .int .i64 n0), (11, .agg #[.int .i64 n0, .slice none 0 0]), (8, .int .i64 (i : Int))]) (fun (x : Nat × (Option Addr) × Nat × (List Blk)) => match x with | (i, P2, C2, S) => fun wL => Inv w ([(b1, #[.int .i64 n0, .slice P LL.length C], 63), (b2, #[.int .i64 0, .slice none 0 0], 63), (b3, #[.int .i64 n0, .slice P2 (((LL.set l.toNat (q, cq, xs)).take i).length) C2], 63)] ++ S) wL ∧ (i ≤ K ∧ SO S P2 C2 ((LL.set l.toNat (q, cq, xs)).take i) ∧ ∀ x ∈ S, w.heap.size ≤ x.1)) (fun (x : Nat × (Option Addr) × Nat × (List Blk)) => match x with | (i, P2, C2, S) => K - i) (0, none, 0, []) (hf8.cons 0 rfl (hf8.cons 1 rfl (hf8.cons 2 rfl (hf8.cons 3 rfl (hf8.cons 6 rfl (hf8.cons 7 rfl (hf8.cons 9 rfl (hf8.cons 10 rfl (hf8.cons 11 rfl (hf8.cons 8 rfl hf8.nil)))))))))) ⟨hI10, ⟨Nat.zero_le _, SO.nil, fun _ h => by cases h⟩⟩ ?_
  intro ⟨i, P2, C2, S⟩ ac9 wd5 hf9 hL1
  obtain ⟨hI11, hx1⟩ := hL1
  dsimp only at hf9 hI11 hx1
  clear hI9 ac8 wd4 hf8 hI10
  refine code_seq ?_
  refine code_seq ?_
  refine seq_start (l := [0, 1, 2, 3, 4]) rfl ?_
  refine seq_one (op_val (v := .int .i64 (i : Int)) hf9 rfl rfl rfl rfl rfl rfl (r_move rfl) fun ac10 hf10 => ?_)
  refine seq_one (op_val (v := .pointer (some ⟨b1, 1, none⟩)) hf10 rfl rfl rfl rfl rfl rfl (r_fieldAddr fi_63_1 rfl rfl) fun ac11 hf11 => ?_)
  refine seq_one (op_val (v := .slice P LL.length C) hf11 rfl rfl rfl rfl rfl rfl (r_load ag_61 rfl (hI11.at 0 rfl) rfl) fun ac12 hf12 => ?_)
  refine seq_one (op_val (v := .int .i64 ((LL.length : Nat) : Int)) hf12 rfl rfl rfl rfl rfl rfl (r_len sl_61 rfl) fun ac13 hf13 => ?_)
  refine seq_one (op_val (v := .bool (decide ((i : Int) < ((LL.length : Nat) : Int)))) hf13 rfl rfl rfl rfl rfl rfl (r_lss rfl rfl) fun ac14 hf14 => ?_)
  refine seq_end ?_
  clear ac9 hf9 ac10 hf10 ac11 hf11 ac12 hf12 ac13 hf13
  refine then_normal ?_
  refine code_if hf14 rfl (fun c16_1 => ?_) (fun c16_1 => ?_)
  · have hf15 := hf14.know 16 (u := .bool true) rfl (congrArg Value.bool c16_1)
    refine wp_skip ?_
    refine then_normal ?_
    refine code_seq ?_
    refine wp_block ?_
    refine code_seq ?_
    refine seq_start (l := [0, 1, 2]) rfl ?_
    refine seq_one (op_val (v := .int .i64 (i : Int)) hf15 rfl rfl rfl rfl rfl rfl (r_move rfl) fun ac15 hf16 => ?_)
    refine seq_one (op_val (v := .int .i64 l) hf16 rfl rfl rfl rfl rfl rfl (r_move rfl) fun ac16 hf17 => ?_)
    refine seq_one (op_val (v := .bool ((i : Int) == l)) hf17 rfl rfl rfl rfl rfl rfl (r_eql rfl rfl) fun ac17 hf18 => ?_)
    refine seq_end ?_
    clear hf14 ac14 hf15 ac15 hf16 ac16 hf17
    refine then_normal ?_
    refine code_if hf18 rfl (fun c21_2 => ?_) (fun c21_2 => ?_)
    · have hf19 := hf18.know 21 (u := .bool true) rfl (congrArg Value.bool c21_2)
      refine seq_start (l := [0, 1, 2, 3, 4, 5, 6]) rfl ?_
      refine seq_one (op_val (v := .pointer (some ⟨b3, 1, none⟩)) hf19 rfl rfl rfl rfl rfl rfl (r_fieldAddr fi_63_1 rfl rfl) fun ac18 hf20 => ?_)
      refine seq_one (op_val (v := .slice P2 (((LL.set l.toNat (q, cq, xs)).take i).length) C2) hf20 rfl rfl rfl rfl rfl rfl (r_load ag_61 rfl (hI11.at 2 rfl) rfl) fun ac19 hf21 => ?_)
      refine seq_one (op_val (v := .slice q xs.length cq) hf21 rfl rfl rfl rfl rfl rfl (r_move rfl) fun ac20 hf22 => ?_)
      refine seq_one (op_bslice (s := 27) (cells := #[.slice q xs.length cq]) hf22 rfl rfl rfl rfl rfl (fun _ => by kernel_rfl) hI11 fun ac21 b4 wd6 hb4 hI12 hf23 => ?_)
      have hI13 : Inv w ([(b1, #[.int .i64 n0, .slice P LL.length C], 63), (b2, #[.int .i64 0, .slice none 0 0], 63), (b3, #[.int .i64 n0, .slice P2 (((LL.set l.toNat (q, cq, xs)).take i).length) C2], 63), (b4, #[.slice q xs.length cq], 27)] ++ S) wd6 := Inv.tail (A := [(b1, #[.int .i64 n0, .slice P LL.length C], 63), (b2, #[.int .i64 0, .slice none 0 0], 63), (b3, #[.int .i64 n0, .slice P2 (((LL.set l.toNat (q, cq, xs)).take i).length) C2], 63)]) (T := S) (N := [(b4, #[.slice q xs.length cq], 27)]) hI12
      refine seq_one (op_appendE (A := [(b1, #[.int .i64 n0, .slice P LL.length C], 63), (b2, #[.int .i64 0, .slice none 0 0], 63), (b3, #[.int .i64 n0, .slice P2 (((LL.set l.toNat (q, cq, xs)).take i).length) C2], 63), (b4, #[.slice q xs.length cq], 27)]) (S := S) (LL := ((LL.set l.toNat (q, cq, xs)).take i)) (u := (q, cq, xs)) hf23 rfl rfl rfl us_61 if3_27 rfl rfl hx1.2.1 rfl hI13 hx1.2.2 (List.mem_of_getElem? (i := 3) rfl) (by simp only [List.length_take, maxLen]; omega) (by simp only [List.length_take]; omega) fun ac22 p5 capp5 Sp5 wd7 hsp5 hzp5 hI14 hf24 => ?_)
      have hI15 : Inv w ([(b1, #[.int .i64 n0, .slice P LL.length C], 63), (b2, #[.int .i64 0, .slice none 0 0], 63), (b3, #[.int .i64 n0, .slice P2 (((LL.set l.toNat (q, cq, xs)).take i).length) C2], 63), (b4, #[.slice q xs.length cq], 27)] ++ Sp5) wd7 := hI14
      refine seq_one (op_val (v := .pointer (some ⟨b3, 1, none⟩)) hf24 rfl rfl rfl rfl rfl rfl (r_fieldAddr fi_63_1 rfl rfl) fun ac23 hf25 => ?_)
      refine seq_one (op_store (cs' := #[.int .i64 n0, .slice p5 ((((LL.set l.toNat (q, cq, xs)).take i) ++ [(q, cq, xs)]).length) capp5]) 2 hf25 rfl rfl rfl rfl rfl sz_61 hI15 rfl (ltb rfl) (by kernel_rfl) fun wd8 hI16 => ?_)
      have hI17 : Inv w ([(b1, #[.int .i64 n0, .slice P LL.length C], 63), (b2, #[.int .i64 0, .slice none 0 0], 63), (b3, #[.int .i64 n0, .slice p5 ((((LL.set l.toNat (q, cq, xs)).take i) ++ [(q, cq, xs)]).length) capp5], 63), (b4, #[.slice q xs.length cq], 27)] ++ Sp5) wd8 := hI16
      refine seq_end ?_
      clear hf18 ac17 hf19 ac18 hf20 ac19 hf21 ac20 wd5 hI11 hf22 hI12 ac21 wd6 hI13 hf23 hI14 ac22 hf24 wd7 hI15 hI16
      refine block_normal ?_
      refine then_normal ?_
      refine seq_start (l := [0, 1, 2]) rfl ?_
      refine seq_one (op_val (v := .int .i64 (i : Int)) hf25 rfl rfl rfl rfl rfl rfl (r_move rfl) fun ac24 hf26 => ?_)
      refine seq_one (op_val (v := .int .i64 ((i + 1 : Nat) : Int)) hf26 rfl rfl rfl rfl rfl rfl (r_add (c := ((i + 1 : Nat) : Int)) rfl rfl (wrap_i64 (by omega) (by have := hx1.1; omega))) fun ac25 hf27 => ?_)
      refine seq_one (op_val (v := .int .i64 ((i + 1 : Nat) : Int)) hf27 rfl rfl rfl rfl rfl rfl (r_assign rfl) fun ac26 hf28 => ?_)
      refine seq_end ?_
      clear ac23 hf25 ac24 hf26 ac25 hf27
      refine then_normal ?_
      have tk := take_set (LL := LL) (a := l.toNat) (e := (q, cq, xs)) (i := i) (by have := of_decide_eq_true c16_1; omega)
      rw [if_pos (by have := beq_iff_eq.1 c21_2; omega)] at tk
      rw [← tk] at hI17 hsp5
      exact ⟨(i + 1, p5, capp5, Sp5), (hf28.cons 0 rfl (hf28.cons 1 rfl (hf28.cons 2 rfl (hf28.cons 3 rfl (hf28.cons 6 rfl (hf28.cons 7 rfl (hf28.cons 9 rfl (hf28.cons 10 rfl (hf28.cons 11 rfl (hf28.cons 8 rfl hf28.nil)))))))))), ⟨(Inv.keep (A := [(b1, #[.int .i64 n0, .slice P LL.length C], 63), (b2, #[.int .i64 0, .slice none 0 0], 63), (b3, #[.int .i64 n0, .slice p5 (((LL.set l.toNat (q, cq, xs)).take (i + 1)).length) capp5], 63)]) (N := [(b4, #[.slice q xs.length cq], 27)]) (T := Sp5) hI17 (fresh_keys (ks := [b4]) rfl (fk_cons hb4 fk_nil))), ⟨(by have := of_decide_eq_true c16_1; omega), hsp5, hzp5⟩⟩, (by have := of_decide_eq_true c16_1; show K - (i + 1) < K - i; omega)⟩
    · have hf29 := hf18.know 21 (u := .bool false) rfl (congrArg Value.bool c21_2)
      have hrd4_0 := (VL.rows (VL.start (SS := []) hlC hr0 hrd) hI11 (fk_app (fresh_keys (ks := [b1, b2, b3]) rfl (fk_cons hb1 (fk_cons hb2 (fk_cons hb3 fk_nil)))) hx1.2.2) (fun _ h => by cases h))
      refine any_start (fun w => Has [(b1, #[.int .i64 n0, .slice P LL.length C], 63)] w ∧ Rows_ w P 1 (rws LL)) follows ⟨Has.drew (Has.cons (hI11.at 0 rfl) Has.nil), hrd4_0⟩ ?_
      have hS1 : Has [(b1, #[.int .i64 n0, .slice P LL.length C], 63)] _ ∧ Rows_ _ P 1 (rws LL) := ⟨Has.drew (Has.cons (hI11.at 0 rfl) Has.nil), hrd4_0⟩
      have hI18 := hI11.drew
      refine any_val (i := 0) (v := .pointer (some ⟨b3, 1, none⟩)) hf29 rfl rfl rfl rfl rfl rfl (fun _ _ _ h => h) (by kernel_rfl) (by kernel_rfl) (by kernel_rfl) (fun wd5 hS1 => (r_fieldAddr fi_63_1 rfl rfl)) hS1 fun ac27 hf30 => ?_
      refine any_val (i := 2) (v := .pointer (some ⟨b1, 1, none⟩)) hf30 rfl rfl rfl rfl rfl rfl (fun _ _ _ h => h) (by kernel_rfl) (by kernel_rfl) (by kernel_rfl) (fun wd5 hS1 => (r_fieldAddr fi_63_1 rfl rfl)) hS1 fun ac28 hf31 => ?_
      refine any_val (i := 3) (v := .slice P LL.length C) hf31 rfl rfl rfl rfl rfl rfl (fun _ _ _ h => h) (by kernel_rfl) (by kernel_rfl) (by kernel_rfl) (fun wd5 hS1 => (r_load ag_61 rfl (hS1.1.at 0 rfl) rfl)) hS1 fun ac29 hf32 => ?_
      refine any_val (i := 4) (v := .int .i64 (i : Int)) hf32 rfl rfl rfl rfl rfl rfl (fun _ _ _ h => h) (by kernel_rfl) (by kernel_rfl) (by kernel_rfl) (fun wd5 hS1 => (r_move rfl)) hS1 fun ac30 hf33 => ?_
      refine any_val (i := 5) (v := .pointer (slAt P (i * 1))) hf33 rfl rfl rfl rfl rfl rfl (fun _ _ _ h => h) (by kernel_rfl) (by kernel_rfl) (by kernel_rfl) (fun wd5 hS1 => (r_indexAddrR (i := i) (sz := 1) sl_61 rfl rfl rfl (by have := of_decide_eq_true c16_1; omega) rfl ⟨_, ((VL.rows (VL.start (SS := []) hlC hr0 hrd) hI18 (fk_app (fresh_keys (ks := [b1, b2, b3]) rfl (fk_cons hb1 (fk_cons hb2 (fk_cons hb3 fk_nil)))) hx1.2.2) (fun _ h => by cases h)) _ _ (rws_get (LL := LL) (j := i) (by have := of_decide_eq_true c16_1; omega))).choose_spec.1⟩)) hS1 fun ac31 hf34 => ?_
      refine any_val (i := 6) (v := .slice ((LL.getD i eD).1) ((LL.getD i eD).2.2.length) ((LL.getD i eD).2.1)) hf34 rfl rfl rfl rfl rfl rfl (fun _ _ _ h => h) (by kernel_rfl) (by kernel_rfl) (by kernel_rfl) (fun wd5 hS1 => (r_loadE ag_27 rfl hS1.2 (rws_get (LL := LL) (j := i) (by have := of_decide_eq_true c16_1; omega)) rfl)) hS1 fun ac32 hf35 => ?_
      refine any_two (i := 1) (j := 7) (by kernel_rfl) ?_ ?_
      ·
        refine op_val (v := .slice P2 (((LL.set l.toNat (q, cq, xs)).take i).length) C2) hf35 rfl rfl rfl rfl rfl rfl (r_load ag_61 rfl (hI18.at 2 rfl) rfl) fun ac33 hf36 => ⟨?_, ?_⟩
        · exact ⟨(Has.cons (hI18.at 0 rfl) Has.nil), (VL.rows (VL.start (SS := []) hlC hr0 hrd) hI18 (fk_app (fresh_keys (ks := [b1, b2, b3]) rfl (fk_cons hb1 (fk_cons hb2 (fk_cons hb3 fk_nil)))) hx1.2.2) (fun _ h => by cases h))⟩
        have hS2 : Has [(b1, #[.int .i64 n0, .slice P LL.length C], 63)] _ ∧ Rows_ _ P 1 (rws LL) := ⟨(Has.cons (hI18.at 0 rfl) Has.nil), (VL.rows (VL.start (SS := []) hlC hr0 hrd) hI18 (fk_app (fresh_keys (ks := [b1, b2, b3]) rfl (fk_cons hb1 (fk_cons hb2 (fk_cons hb3 fk_nil)))) hx1.2.2) (fun _ h => by cases h))⟩
        refine any_one (i := 7) (by kernel_rfl) ?_
        refine (op_bslice (s := 27) (cells := #[.slice ((LL.getD i eD).1) ((LL.getD i eD).2.2.length) ((LL.getD i eD).2.1)]) hf36 rfl rfl rfl rfl rfl (fun _ => by kernel_rfl) hI18 fun ac34 b5 wd9 hb5 hI19 hf37 => ⟨?_, ?_⟩)
        ·
          have hI20 : Inv w ([(b1, #[.int .i64 n0, .slice P LL.length C], 63), (b2, #[.int .i64 0, .slice none 0 0], 63), (b3, #[.int .i64 n0, .slice P2 (((LL.set l.toNat (q, cq, xs)).take i).length) C2], 63), (b5, #[.slice ((LL.getD i eD).1) ((LL.getD i eD).2.2.length) ((LL.getD i eD).2.1)], 27)] ++ S) wd9 := Inv.tail (A := [(b1, #[.int .i64 n0, .slice P LL.length C], 63), (b2, #[.int .i64 0, .slice none 0 0], 63), (b3, #[.int .i64 n0, .slice P2 (((LL.set l.toNat (q, cq, xs)).take i).length) C2], 63)]) (T := S) (N := [(b5, #[.slice ((LL.getD i eD).1) ((LL.getD i eD).2.2.length) ((LL.getD i eD).2.1)], 27)]) hI19
          exact ⟨(Has.cons (hI20.at 0 rfl) Has.nil), (VL.rows (VL.start (SS := []) hlC hr0 hrd) hI20 (fk_app (fresh_keys (ks := [b1, b2, b3, b5]) rfl (fk_cons hb1 (fk_cons hb2 (fk_cons hb3 (fk_cons hb5 fk_nil))))) hx1.2.2) (fun _ h => by cases h))⟩
        have hI21 : Inv w ([(b1, #[.int .i64 n0, .slice P LL.length C], 63), (b2, #[.int .i64 0, .slice none 0 0], 63), (b3, #[.int .i64 n0, .slice P2 (((LL.set l.toNat (q, cq, xs)).take i).length) C2], 63), (b5, #[.slice ((LL.getD i eD).1) ((LL.getD i eD).2.2.length) ((LL.getD i eD).2.1)], 27)] ++ S) wd9 := Inv.tail (A := [(b1, #[.int .i64 n0, .slice P LL.length C], 63), (b2, #[.int .i64 0, .slice none 0 0], 63), (b3, #[.int .i64 n0, .slice P2 (((LL.set l.toNat (q, cq, xs)).take i).length) C2], 63)]) (T := S) (N := [(b5, #[.slice ((LL.getD i eD).1) ((LL.getD i eD).2.2.length) ((LL.getD i eD).2.1)], 27)]) hI19
        have hS3 : Has [(b1, #[.int .i64 n0, .slice P LL.length C], 63)] _ ∧ Rows_ _ P 1 (rws LL) := ⟨(Has.cons (hI21.at 0 rfl) Has.nil), (VL.rows (VL.start (SS := []) hlC hr0 hrd) hI21 (fk_app (fresh_keys (ks := [b1, b2, b3, b5]) rfl (fk_cons hb1 (fk_cons hb2 (fk_cons hb3 (fk_cons hb5 fk_nil))))) hx1.2.2) (fun _ h => by cases h))⟩
        refine any_one (i := 8) (by kernel_rfl) ?_
        refine (op_appendE (A := [(b1, #[.int .i64 n0, .slice P LL.length C], 63), (b2, #[.int .i64 0, .slice none 0 0], 63), (b3, #[.int .i64 n0, .slice P2 (((LL.set l.toNat (q, cq, xs)).take i).length) C2], 63), (b5, #[.slice ((LL.getD i eD).1) ((LL.getD i eD).2.2.length) ((LL.getD i eD).2.1)], 27)]) (S := S) (LL := ((LL.set l.toNat (q, cq, xs)).take i)) (u := (LL.getD i eD)) hf37 rfl rfl rfl us_61 if3_27 rfl rfl hx1.2.1 rfl hI21 hx1.2.2 (List.mem_of_getElem? (i := 3) rfl) (by simp only [List.length_take, maxLen]; omega) (by simp only [List.length_take]; omega) fun ac35 p6 capp6 Sp6 wd10 hsp6 hzp6 hI22 hf38 => ⟨?_, ?_⟩)
        ·
          have hI23 : Inv w ([(b1, #[.int .i64 n0, .slice P LL.length C], 63), (b2, #[.int .i64 0, .slice none 0 0], 63), (b3, #[.int .i64 n0, .slice P2 (((LL.set l.toNat (q, cq, xs)).take i).length) C2], 63), (b5, #[.slice ((LL.getD i eD).1) ((LL.getD i eD).2.2.length) ((LL.getD i eD).2.1)], 27)] ++ Sp6) wd10 := hI22
          exact ⟨(Has.cons (hI23.at 0 rfl) Has.nil), (VL.rows (VL.start (SS := []) hlC hr0 hrd) hI23 (fk_app (fresh_keys (ks := [b1, b2, b3, b5]) rfl (fk_cons hb1 (fk_cons hb2 (fk_cons hb3 (fk_cons hb5 fk_nil))))) hzp6) (fun _ h => by cases h))⟩
        have hI24 : Inv w ([(b1, #[.int .i64 n0, .slice P LL.length C], 63), (b2, #[.int .i64 0, .slice none 0 0], 63), (b3, #[.int .i64 n0, .slice P2 (((LL.set l.toNat (q, cq, xs)).take i).length) C2], 63), (b5, #[.slice ((LL.getD i eD).1) ((LL.getD i eD).2.2.length) ((LL.getD i eD).2.1)], 27)] ++ Sp6) wd10 := hI22
        have hS4 : Has [(b1, #[.int .i64 n0, .slice P LL.length C], 63)] _ ∧ Rows_ _ P 1 (rws LL) := ⟨(Has.cons (hI24.at 0 rfl) Has.nil), (VL.rows (VL.start (SS := []) hlC hr0 hrd) hI24 (fk_app (fresh_keys (ks := [b1, b2, b3, b5]) rfl (fk_cons hb1 (fk_cons hb2 (fk_cons hb3 (fk_cons hb5 fk_nil))))) hzp6) (fun _ h => by cases h))⟩
        refine any_val (i := 9) (v := .pointer (some ⟨b3, 1, none⟩)) hf38 rfl rfl rfl rfl rfl rfl (fun _ _ _ h => h) (by kernel_rfl) (by kernel_rfl) (by kernel_rfl) (fun wd10 hS4 => (r_fieldAddr fi_63_1 rfl rfl)) hS4 fun ac36 hf39 => ?_
        refine any_one (i := 10) (by kernel_rfl) ?_
        refine (op_store (cs' := #[.int .i64 n0, .slice p6 ((((LL.set l.toNat (q, cq, xs)).take i) ++ [(LL.getD i eD)]).length) capp6]) 2 hf39 rfl rfl rfl rfl rfl sz_61 hI24 rfl (ltb rfl) (by kernel_rfl) fun wd11 hI25 => ⟨?_, ?_⟩)
        ·
          have hI26 : Inv w ([(b1, #[.int .i64 n0, .slice P LL.length C], 63), (b2, #[.int .i64 0, .slice none 0 0], 63), (b3, #[.int .i64 n0, .slice p6 ((((LL.set l.toNat (q, cq, xs)).take i) ++ [(LL.getD i eD)]).length) capp6], 63), (b5, #[.slice ((LL.getD i eD).1) ((LL.getD i eD).2.2.length) ((LL.getD i eD).2.1)], 27)] ++ Sp6) wd11 := hI25
          exact ⟨(Has.cons (hI26.at 0 rfl) Has.nil), (VL.rows (VL.start (SS := []) hlC hr0 hrd) hI26 (fk_app (fresh_keys (ks := [b1, b2, b3, b5]) rfl (fk_cons hb1 (fk_cons hb2 (fk_cons hb3 (fk_cons hb5 fk_nil))))) hzp6) (fun _ h => by cases h))⟩
        have hI27 : Inv w ([(b1, #[.int .i64 n0, .slice P LL.length C], 63), (b2, #[.int .i64 0, .slice none 0 0], 63), (b3, #[.int .i64 n0, .slice p6 ((((LL.set l.toNat (q, cq, xs)).take i) ++ [(LL.getD i eD)]).length) capp6], 63), (b5, #[.slice ((LL.getD i eD).1) ((LL.getD i eD).2.2.length) ((LL.getD i eD).2.1)], 27)] ++ Sp6) wd11 := hI25
        have hS5 : Has [(b1, #[.int .i64 n0, .slice P LL.length C], 63)] _ ∧ Rows_ _ P 1 (rws LL) := ⟨(Has.cons (hI27.at 0 rfl) Has.nil), (VL.rows (VL.start (SS := []) hlC hr0 hrd) hI27 (fk_app (fresh_keys (ks := [b1, b2, b3, b5]) rfl (fk_cons hb1 (fk_cons hb2 (fk_cons hb3 (fk_cons hb5 fk_nil))))) hzp6) (fun _ h => by cases h))⟩
        refine any_end (by kernel_rfl) ?_
        clear hf18 hrd4_0 hI11 ac17 hf29 ac27 hf30 ac28 hf31 ac29 hf32 ac30 hf33 ac31 hf34 ac32 hf35 hS1 ac33 wd5 hI18 hf36 hI19 hS2 ac34 wd9 hI21 hf37 hI22 hS3 ac35 hf38 wd10 hI24 hI25 hS4 hS5
        refine block_normal ?_
        refine then_normal ?_
        refine seq_start (l := [0, 1, 2]) rfl ?_
        refine seq_one (op_val (v := .int .i64 (i : Int)) hf39 rfl rfl rfl rfl rfl rfl (r_move rfl) fun ac37 hf40 => ?_)
        refine seq_one (op_val (v := .int .i64 ((i + 1 : Nat) : Int)) hf40 rfl rfl rfl rfl rfl rfl (r_add (c := ((i + 1 : Nat) : Int)) rfl rfl (wrap_i64 (by omega) (by have := hx1.1; omega))) fun ac38 hf41 => ?_)
        refine seq_one (op_val (v := .int .i64 ((i + 1 : Nat) : Int)) hf41 rfl rfl rfl rfl rfl rfl (r_assign rfl) fun ac39 hf42 => ?_)
        refine seq_end ?_
        clear ac36 hf39 ac37 hf40 ac38 hf41
        refine then_normal ?_
        have tk := take_set (LL := LL) (a := l.toNat) (e := (q, cq, xs)) (i := i) (by have := of_decide_eq_true c16_1; omega)
        rw [if_neg (by have := beq_eq_false_iff_ne.1 c21_2; omega)] at tk
        rw [← tk] at hI27 hsp6
        exact ⟨(i + 1, p6, capp6, Sp6), (hf42.cons 0 rfl (hf42.cons 1 rfl (hf42.cons 2 rfl (hf42.cons 3 rfl (hf42.cons 6 rfl (hf42.cons 7 rfl (hf42.cons 9 rfl (hf42.cons 10 rfl (hf42.cons 11 rfl (hf42.cons 8 rfl hf42.nil)))))))))), ⟨(Inv.keep (A := [(b1, #[.int .i64 n0, .slice P LL.length C], 63), (b2, #[.int .i64 0, .slice none 0 0], 63), (b3, #[.int .i64 n0, .slice p6 (((LL.set l.toNat (q, cq, xs)).take (i + 1)).length) capp6], 63)]) (N := [(b5, #[.slice ((LL.getD i eD).1) ((LL.getD i eD).2.2.length) ((LL.getD i eD).2.1)], 27)]) (T := Sp6) hI27 (fresh_keys (ks := [b5]) rfl (fk_cons hb5 fk_nil))), ⟨(by have := of_decide_eq_true c16_1; omega), hsp6, hzp6⟩⟩, (by have := of_decide_eq_true c16_1; show K - (i + 1) < K - i; omega)⟩
      ·
        refine (op_bslice (s := 27) (cells := #[.slice ((LL.getD i eD).1) ((LL.getD i eD).2.2.length) ((LL.getD i eD).2.1)]) hf35 rfl rfl rfl rfl rfl (fun _ => by kernel_rfl) hI18 fun ac40 b5 wd12 hb5 hI28 hf43 => ⟨?_, ?_⟩)
        ·
          have hI29 : Inv w ([(b1, #[.int .i64 n0, .slice P LL.length C], 63), (b2, #[.int .i64 0, .slice none 0 0], 63), (b3, #[.int .i64 n0, .slice P2 (((LL.set l.toNat (q, cq, xs)).take i).length) C2], 63), (b5, #[.slice ((LL.getD i eD).1) ((LL.getD i eD).2.2.length) ((LL.getD i eD).2.1)], 27)] ++ S) wd12 := Inv.tail (A := [(b1, #[.int .i64 n0, .slice P LL.length C], 63), (b2, #[.int .i64 0, .slice none 0 0], 63), (b3, #[.int .i64 n0, .slice P2 (((LL.set l.toNat (q, cq, xs)).take i).length) C2], 63)]) (T := S) (N := [(b5, #[.slice ((LL.getD i eD).1) ((LL.getD i eD).2.2.length) ((LL.getD i eD).2.1)], 27)]) hI28
          exact ⟨(Has.cons (hI29.at 0 rfl) Has.nil), (VL.rows (VL.start (SS := []) hlC hr0 hrd) hI29 (fk_app (fresh_keys (ks := [b1, b2, b3, b5]) rfl (fk_cons hb1 (fk_cons hb2 (fk_cons hb3 (fk_cons hb5 fk_nil))))) hx1.2.2) (fun _ h => by cases h))⟩
        have hI30 : Inv w ([(b1, #[.int .i64 n0, .slice P LL.length C], 63), (b2, #[.int .i64 0, .slice none 0 0], 63), (b3, #[.int .i64 n0, .slice P2 (((LL.set l.toNat (q, cq, xs)).take i).length) C2], 63), (b5, #[.slice ((LL.getD i eD).1) ((LL.getD i eD).2.2.length) ((LL.getD i eD).2.1)], 27)] ++ S) wd12 := Inv.tail (A := [(b1, #[.int .i64 n0, .slice P LL.length C], 63), (b2, #[.int .i64 0, .slice none 0 0], 63), (b3, #[.int .i64 n0, .slice P2 (((LL.set l.toNat (q, cq, xs)).take i).length) C2], 63)]) (T := S) (N := [(b5, #[.slice ((LL.getD i eD).1) ((LL.getD i eD).2.2.length) ((LL.getD i eD).2.1)], 27)]) hI28
        have hS6 : Has [(b1, #[.int .i64 n0, .slice P LL.length C], 63)] _ ∧ Rows_ _ P 1 (rws LL) := ⟨(Has.cons (hI30.at 0 rfl) Has.nil), (VL.rows (VL.start (SS := []) hlC hr0 hrd) hI30 (fk_app (fresh_keys (ks := [b1, b2, b3, b5]) rfl (fk_cons hb1 (fk_cons hb2 (fk_cons hb3 (fk_cons hb5 fk_nil))))) hx1.2.2) (fun _ h => by cases h))⟩
        refine any_one (i := 1) (by kernel_rfl) ?_
        refine op_val (v := .slice P2 (((LL.set l.toNat (q, cq, xs)).take i).length) C2) hf43 rfl rfl rfl rfl rfl rfl (r_load ag_61 rfl (hI30.at 2 rfl) rfl) fun ac41 hf44 => ⟨?_, ?_⟩
        · exact ⟨(Has.cons (hI30.at 0 rfl) Has.nil), (VL.rows (VL.start (SS := []) hlC hr0 hrd) hI30 (fk_app (fresh_keys (ks := [b1, b2, b3, b5]) rfl (fk_cons hb1 (fk_cons hb2 (fk_cons hb3 (fk_cons hb5 fk_nil))))) hx1.2.2) (fun _ h => by cases h))⟩
        have hS7 : Has [(b1, #[.int .i64 n0, .slice P LL.length C], 63)] _ ∧ Rows_ _ P 1 (rws LL) := ⟨(Has.cons (hI30.at 0 rfl) Has.nil), (VL.rows (VL.start (SS := []) hlC hr0 hrd) hI30 (fk_app (fresh_keys (ks := [b1, b2, b3, b5]) rfl (fk_cons hb1 (fk_cons hb2 (fk_cons hb3 (fk_cons hb5 fk_nil))))) hx1.2.2) (fun _ h => by cases h))⟩
        refine any_one (i := 8) (by kernel_rfl) ?_
        refine (op_appendE (A := [(b1, #[.int .i64 n0, .slice P LL.length C], 63), (b2, #[.int .i64 0, .slice none 0 0], 63), (b3, #[.int .i64 n0, .slice P2 (((LL.set l.toNat (q, cq, xs)).take i).length) C2], 63), (b5, #[.slice ((LL.getD i eD).1) ((LL.getD i eD).2.2.length) ((LL.getD i eD).2.1)], 27)]) (S := S) (LL := ((LL.set l.toNat (q, cq, xs)).take i)) (u := (LL.getD i eD)) hf44 rfl rfl rfl us_61 if3_27 rfl rfl hx1.2.1 rfl hI30 hx1.2.2 (List.mem_of_getElem? (i := 3) rfl) (by simp only [List.length_take, maxLen]; omega) (by simp only [List.length_take]; omega) fun ac42 p6 capp6 Sp6 wd13 hsp6 hzp6 hI31 hf45 => ⟨?_, ?_⟩)
        ·
          have hI32 : Inv w ([(b1, #[.int .i64 n0, .slice P LL.length C], 63), (b2, #[.int .i64 0, .slice none 0 0], 63), (b3, #[.int .i64 n0, .slice P2 (((LL.set l.toNat (q, cq, xs)).take i).length) C2], 63), (b5, #[.slice ((LL.getD i eD).1) ((LL.getD i eD).2.2.length) ((LL.getD i eD).2.1)], 27)] ++ Sp6) wd13 := hI31
          exact ⟨(Has.cons (hI32.at 0 rfl) Has.nil), (VL.rows (VL.start (SS := []) hlC hr0 hrd) hI32 (fk_app (fresh_keys (ks := [b1, b2, b3, b5]) rfl (fk_cons hb1 (fk_cons hb2 (fk_cons hb3 (fk_cons hb5 fk_nil))))) hzp6) (fun _ h => by cases h))⟩
        have hI33 : Inv w ([(b1, #[.int .i64 n0, .slice P LL.length C], 63), (b2, #[.int .i64 0, .slice none 0 0], 63), (b3, #[.int .i64 n0, .slice P2 (((LL.set l.toNat (q, cq, xs)).take i).length) C2], 63), (b5, #[.slice ((LL.getD i eD).1) ((LL.getD i eD).2.2.length) ((LL.getD i eD).2.1)], 27)] ++ Sp6) wd13 := hI31
        have hS8 : Has [(b1, #[.int .i64 n0, .slice P LL.length C], 63)] _ ∧ Rows_ _ P 1 (rws LL) := ⟨(Has.cons (hI33.at 0 rfl) Has.nil), (VL.rows (VL.start (SS := []) hlC hr0 hrd) hI33 (fk_app (fresh_keys (ks := [b1, b2, b3, b5]) rfl (fk_cons hb1 (fk_cons hb2 (fk_cons hb3 (fk_cons hb5 fk_nil))))) hzp6) (fun _ h => by cases h))⟩
        refine any_val (i := 9) (v := .pointer (some ⟨b3, 1, none⟩)) hf45 rfl rfl rfl rfl rfl rfl (fun _ _ _ h => h) (by kernel_rfl) (by kernel_rfl) (by kernel_rfl) (fun wd13 hS8 => (r_fieldAddr fi_63_1 rfl rfl)) hS8 fun ac43 hf46 => ?_
        refine any_one (i := 10) (by kernel_rfl) ?_
        refine (op_store (cs' := #[.int .i64 n0, .slice p6 ((((LL.set l.toNat (q, cq, xs)).take i) ++ [(LL.getD i eD)]).length) capp6]) 2 hf46 rfl rfl rfl rfl rfl sz_61 hI33 rfl (ltb rfl) (by kernel_rfl) fun wd14 hI34 => ⟨?_, ?_⟩)
        ·
          have hI35 : Inv w ([(b1, #[.int .i64 n0, .slice P LL.length C], 63), (b2, #[.int .i64 0, .slice none 0 0], 63), (b3, #[.int .i64 n0, .slice p6 ((((LL.set l.toNat (q, cq, xs)).take i) ++ [(LL.getD i eD)]).length) capp6], 63), (b5, #[.slice ((LL.getD i eD).1) ((LL.getD i eD).2.2.length) ((LL.getD i eD).2.1)], 27)] ++ Sp6) wd14 := hI34
          exact ⟨(Has.cons (hI35.at 0 rfl) Has.nil), (VL.rows (VL.start (SS := []) hlC hr0 hrd) hI35 (fk_app (fresh_keys (ks := [b1, b2, b3, b5]) rfl (fk_cons hb1 (fk_cons hb2 (fk_cons hb3 (fk_cons hb5 fk_nil))))) hzp6) (fun _ h => by cases h))⟩
        have hI36 : Inv w ([(b1, #[.int .i64 n0, .slice P LL.length C], 63), (b2, #[.int .i64 0, .slice none 0 0], 63), (b3, #[.int .i64 n0, .slice p6 ((((LL.set l.toNat (q, cq, xs)).take i) ++ [(LL.getD i eD)]).length) capp6], 63), (b5, #[.slice ((LL.getD i eD).1) ((LL.getD i eD).2.2.length) ((LL.getD i eD).2.1)], 27)] ++ Sp6) wd14 := hI34
        have hS9 : Has [(b1, #[.int .i64 n0, .slice P LL.length C], 63)] _ ∧ Rows_ _ P 1 (rws LL) := ⟨(Has.cons (hI36.at 0 rfl) Has.nil), (VL.rows (VL.start (SS := []) hlC hr0 hrd) hI36 (fk_app (fresh_keys (ks := [b1, b2, b3, b5]) rfl (fk_cons hb1 (fk_cons hb2 (fk_cons hb3 (fk_cons hb5 fk_nil))))) hzp6) (fun _ h => by cases h))⟩
        refine any_end (by kernel_rfl) ?_
        clear hf18 hrd4_0 hI11 ac17 hf29 ac27 hf30 ac28 hf31 ac29 hf32 ac30 hf33 ac31 hf34 ac32 wd5 hI18 hf35 hI28 hS1 ac40 hf43 hS6 ac41 wd12 hI30 hf44 hI31 hS7 ac42 hf45 wd13 hI33 hI34 hS8 hS9
        refine block_normal ?_
        refine then_normal ?_
        refine seq_start (l := [0, 1, 2]) rfl ?_
        refine seq_one (op_val (v := .int .i64 (i : Int)) hf46 rfl rfl rfl rfl rfl rfl (r_move rfl) fun ac44 hf47 => ?_)
        refine seq_one (op_val (v := .int .i64 ((i + 1 : Nat) : Int)) hf47 rfl rfl rfl rfl rfl rfl (r_add (c := ((i + 1 : Nat) : Int)) rfl rfl (wrap_i64 (by omega) (by have := hx1.1; omega))) fun ac45 hf48 => ?_)
        refine seq_one (op_val (v := .int .i64 ((i + 1 : Nat) : Int)) hf48 rfl rfl rfl rfl rfl rfl (r_assign rfl) fun ac46 hf49 => ?_)
        refine seq_end ?_
        clear ac43 hf46 ac44 hf47 ac45 hf48
        refine then_normal ?_
        have tk := take_set (LL := LL) (a := l.toNat) (e := (q, cq, xs)) (i := i) (by have := of_decide_eq_true c16_1; omega)
        rw [if_neg (by have := beq_eq_false_iff_ne.1 c21_2; omega)] at tk
        rw [← tk] at hI36 hsp6
        exact ⟨(i + 1, p6, capp6, Sp6), (hf49.cons 0 rfl (hf49.cons 1 rfl (hf49.cons 2 rfl (hf49.cons 3 rfl (hf49.cons 6 rfl (hf49.cons 7 rfl (hf49.cons 9 rfl (hf49.cons 10 rfl (hf49.cons 11 rfl (hf49.cons 8 rfl hf49.nil)))))))))), ⟨(Inv.keep (A := [(b1, #[.int .i64 n0, .slice P LL.length C], 63), (b2, #[.int .i64 0, .slice none 0 0], 63), (b3, #[.int .i64 n0, .slice p6 (((LL.set l.toNat (q, cq, xs)).take (i + 1)).length) capp6], 63)]) (N := [(b5, #[.slice ((LL.getD i eD).1) ((LL.getD i eD).2.2.length) ((LL.getD i eD).2.1)], 27)]) (T := Sp6) hI36 (fresh_keys (ks := [b5]) rfl (fk_cons hb5 fk_nil))), ⟨(by have := of_decide_eq_true c16_1; omega), hsp6, hzp6⟩⟩, (by have := of_decide_eq_true c16_1; show K - (i + 1) < K - i; omega)⟩
  · have hf50 := hf14.know 16 (u := .bool false) rfl (congrArg Value.bool c16_1)
    refine wp_exit ?_
    refine then_exit ?_
    refine then_exit ?_
    refine block_here ?_
    refine then_normal ?_
    refine code_seq ?_
    refine seq_start (l := [0, 1]) rfl ?_
    refine seq_one (op_val (v := .agg #[.int .i64 n0, .slice P2 (((LL.set l.toNat (q, cq, xs)).take i).length) C2]) hf50 rfl rfl rfl rfl rfl rfl (r_loadW ag_63 sz_63 rfl (hI11.at 2 rfl) rfl) fun ac47 hf51 => ?_)
    refine seq_one (op_storeW (cells := #[.int .i64 n0, .slice P2 (((LL.set l.toNat (q, cq, xs)).take i).length) C2]) 1 hf51 rfl rfl rfl rfl rfl sz_63 rfl rfl hI11 rfl rfl fun wd15 hI37 => ?_)
    have hI38 : Inv w ([(b1, #[.int .i64 n0, .slice P LL.length C], 63), (b2, #[.int .i64 n0, .slice P2 (((LL.set l.toNat (q, cq, xs)).take i).length) C2], 63), (b3, #[.int .i64 n0, .slice P2 (((LL.set l.toNat (q, cq, xs)).take i).length) C2], 63)] ++ S) wd15 := hI37
    refine seq_end ?_
    clear hf14 ac14 hf50 wd5 hI11 hI37
    refine then_normal ?_
    refine wp_ret ?_
    have he : ((LL.set l.toNat (q, cq, xs)).take i) = (LL.set l.toNat (q, cq, xs)) := List.take_of_length_le (by rw [List.length_set]; have := of_decide_eq_false c16_1; omega)
    rw [he] at hI38 hx1
    exact postC rfl hf51 rfl ag_63 sz_63 (hI38.at 1 rfl) rfl ⟨S, P2, C2, rfl, hx1.2.1, (Inv.keep (A := []) (N := [(b1, #[.int .i64 n0, .slice P LL.length C], 63), (b2, #[.int .i64 n0, .slice P2 ((LL.set l.toNat (q, cq, xs)).length) C2], 63), (b3, #[.int .i64 n0, .slice P2 ((LL.set l.toNat (q, cq, xs)).length) C2], 63)]) (T := S) hI38 (fresh_keys (ks := [b1, b2, b3]) rfl (fk_cons hb1 (fk_cons hb2 (fk_cons hb3 fk_nil))))), hx1.2.2⟩
end Go.Proofs.Ytjelaoblpchmmaa
