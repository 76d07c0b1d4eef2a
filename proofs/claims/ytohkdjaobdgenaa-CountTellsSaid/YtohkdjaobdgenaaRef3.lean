/-
  Since, of count and of the reference; Get: what each call comes to.
-/
import Derived.Test.YtohkdjaobdgenaaRef2
import Derived.Test.YtohkdjaobdgenaaOpen
namespace Go.Proofs.Ytohkdjaobdgenaa
set_option linter.unusedVariables false
set_option linter.unusedSimpArgs false
set_option maxRecDepth 100000
open Go.RowKit
theorem nt {b : Bool} (h : (!b) = false) : b = true := by simpa using h
set_option maxHeartbeats 8000000 in
theorem sinceR_ok {rb cap n k : Nat} {xs : List Int} (hl : xs.length = n) {q : Option Addr} {m caq : Nat} {ws : List Int} (hw : ws.length = m) (hm : m = n) (hn2 : n ≤ 256) (hxs : ∀ j, j < n → 0 ≤ xs.getD j 0 ∧ xs.getD j 0 < 18446744073709551616) (hws : InK .u64 ws) (hok : ∀ j, j < n → (aheadF (xs.getD j 0) (ws.getD j 0) (k : Int)).2 = 0) {w : World} (hr : Rd w .u64 (some ⟨rb, 0, none⟩) xs) (hq : Rd w .u64 q ws) : Calls Try.prog 19 [.agg #[.int .i64 (k : Int), .slice (some ⟨rb, 0, none⟩) n cap], .slice q m caq].toArray w fun e w' => ∃ S p cp, e = .returned (.tuple #[.slice p (sinceL xs ws k n).length cp, .bool true]) ∧ Sl 24 .u64 S p cp (sinceL xs ws k n) ∧ Inv w S w' ∧ ∀ x ∈ S, w.heap.size ≤ x.1 := by
  have hI1 := Inv.start w
  refine enter (n := 44) Try.func19 rfl rfl rfl ?_
  intro ac1 hf1
  refine code_seq ?_
  refine seq_start (l := [0, 1, 2]) rfl ?_
  refine seq_one (op_box hf1 rfl rfl rfl rfl hI1 fun ac2 b1 wd1 hb1 hI2 hf2 => ?_)
  have hI3 : Inv w [(b1, #[.int .i64 (k : Int), .slice (some ⟨rb, 0, none⟩) n cap], 34)] wd1 := hI2
  refine seq_one (op_val (v := .slice none 0 0) hf2 rfl rfl rfl rfl rfl rfl (r_assign rfl) fun ac3 hf3 => ?_)
  refine seq_one (op_val (v := .bool false) hf3 rfl rfl rfl rfl rfl rfl (r_assign rfl) fun ac4 hf4 => ?_)
  refine seq_end ?_
  clear ac1 hI1 hf1 hI2 ac2 hf2 ac3 hf3
  refine then_normal ?_
  refine code_seq ?_
  refine code_seq ?_
  refine seq_start (l := [0, 1, 2, 3, 4, 5]) rfl ?_
  refine seq_one (op_val (v := .slice q m caq) hf4 rfl rfl rfl rfl rfl rfl (r_move rfl) fun ac5 hf5 => ?_)
  refine seq_one (op_val (v := .int .i64 (m : Int)) hf5 rfl rfl rfl rfl rfl rfl (r_len sl_23 rfl) fun ac6 hf6 => ?_)
  refine seq_one (op_val (v := .pointer (some ⟨b1, 1, none⟩)) hf6 rfl rfl rfl rfl rfl rfl (r_fieldAddr fi_34_1 rfl rfl) fun ac7 hf7 => ?_)
  refine seq_one (op_val (v := .slice (some ⟨rb, 0, none⟩) n cap) hf7 rfl rfl rfl rfl rfl rfl (r_load ag_23 rfl (hI3.at 0 rfl) rfl) fun ac8 hf8 => ?_)
  refine seq_one (op_val (v := .int .i64 (n : Int)) hf8 rfl rfl rfl rfl rfl rfl (r_len sl_23 rfl) fun ac9 hf9 => ?_)
  refine seq_one (op_val (v := .bool ((m : Int) != (n : Int))) hf9 rfl rfl rfl rfl rfl rfl (r_neq rfl rfl) fun ac10 hf10 => ?_)
  refine seq_end ?_
  clear ac4 hf4 ac5 hf5 ac6 hf6 ac7 hf7 ac8 hf8 ac9 hf9
  refine then_normal ?_
  have hf11 := hf10.know 15 (u := .bool false) rfl (congrArg Value.bool (bne_eq_false_iff_eq.2 (by omega)))
  refine code_if_false hf11 rfl ?_
  refine wp_skip ?_
  refine then_normal ?_
  refine code_seq ?_
  refine seq_start (l := [0]) rfl ?_
  refine seq_one (op_val (v := .slice none 0 0) hf11 rfl rfl rfl rfl rfl rfl (r_assign rfl) fun ac11 hf12 => ?_)
  refine seq_end ?_
  clear hf10 ac10 hf11
  refine then_normal ?_
  refine code_seq ?_
  refine code_seq ?_
  refine seq_start (l := [0]) rfl ?_
  refine seq_one (op_val (v := .int .i64 0) hf12 rfl rfl rfl rfl rfl rfl (r_assign rfl) fun ac12 hf13 => ?_)
  refine seq_end ?_
  clear ac11 hf12
  refine then_normal ?_
  refine wp_block ?_
  refine code_loop (α := Nat × (Option Addr) × Nat × (List Blk)) (fun (x : Nat × (Option Addr) × Nat × (List Blk)) => match x with | (i, p, cp, S) => [(0, .agg #[.int .i64 (k : Int), .slice (some ⟨rb, 0, none⟩) n cap]), (1, .slice q m caq), (2, .pointer (some ⟨b1, 0, none⟩)), (10, .slice q m caq), (11, .int .i64 (m : Int)), (12, .pointer (some ⟨b1, 1, none⟩)), (13, .slice (some ⟨rb, 0, none⟩) n cap), (14, .int .i64 (n : Int)), (15, .bool false), (6, .slice p ((sinceL xs ws k i).length) cp), (7, .int .i64 (i : Int))]) (fun (x : Nat × (Option Addr) × Nat × (List Blk)) => match x with | (i, p, cp, S) => fun wL => Inv w ([(b1, #[.int .i64 (k : Int), .slice (some ⟨rb, 0, none⟩) n cap], 34)] ++ S) wL ∧ (Sl 24 .u64 S p cp (sinceL xs ws k i) ∧ (∀ x ∈ S, w.heap.size ≤ x.1) ∧ i ≤ n)) (fun (x : Nat × (Option Addr) × Nat × (List Blk)) => match x with | (i, p, cp, S) => n - i) (0, none, 0, []) (hf13.cons 0 rfl (hf13.cons 1 rfl (hf13.cons 2 rfl (hf13.cons 10 rfl (hf13.cons 11 rfl (hf13.cons 12 rfl (hf13.cons 13 rfl (hf13.cons 14 rfl (hf13.cons 15 rfl (hf13.cons 6 rfl (hf13.cons 7 rfl hf13.nil))))))))))) ⟨hI3, ⟨Sl.nil, (fun _ h => by cases h), Nat.zero_le _⟩⟩ ?_
  intro ⟨i, p, cp, S⟩ ac13 wd2 hf14 hL1
  obtain ⟨hI4, hx1⟩ := hL1
  dsimp only at hf14 hI4 hx1
  clear ac12 wd1 hf13 hI3
  obtain ⟨hs1, hz1, hi1⟩ := hx1
  refine code_seq ?_
  refine code_seq ?_
  refine seq_start (l := [0, 1, 2, 3]) rfl ?_
  refine seq_one (op_val (v := .int .i64 (i : Int)) hf14 rfl rfl rfl rfl rfl rfl (r_move rfl) fun ac14 hf15 => ?_)
  refine seq_one (op_val (v := .slice q m caq) hf15 rfl rfl rfl rfl rfl rfl (r_move rfl) fun ac15 hf16 => ?_)
  refine seq_one (op_val (v := .int .i64 (m : Int)) hf16 rfl rfl rfl rfl rfl rfl (r_len sl_23 rfl) fun ac16 hf17 => ?_)
  refine seq_one (op_val (v := .bool (decide ((i : Int) < (m : Int)))) hf17 rfl rfl rfl rfl rfl rfl (r_lss rfl rfl) fun ac17 hf18 => ?_)
  refine seq_end ?_
  clear ac13 hf14 ac14 hf15 ac15 hf16 ac16 hf17
  refine then_normal ?_
  refine code_if hf18 rfl (fun c19_1 => ?_) (fun c19_1 => ?_)
  · have hf19 := hf18.know 19 (u := .bool true) rfl (congrArg Value.bool c19_1)
    refine wp_skip ?_
    refine then_normal ?_
    refine code_seq ?_
    refine wp_block ?_
    refine code_seq ?_
    have hrd2_0 := (hq.old hI4 (fk_app (fresh_keys (ks := [b1]) rfl (fk_cons hb1 fk_nil)) hz1))
    refine any_start (fun w => Has [(b1, #[.int .i64 (k : Int), .slice (some ⟨rb, 0, none⟩) n cap], 34)] w ∧ Rd w .u64 q ws) follows ⟨Has.drew (Has.cons (hI4.at 0 rfl) Has.nil), hrd2_0⟩ ?_
    have hS1 : Has [(b1, #[.int .i64 (k : Int), .slice (some ⟨rb, 0, none⟩) n cap], 34)] _ ∧ Rd _ .u64 q ws := ⟨Has.drew (Has.cons (hI4.at 0 rfl) Has.nil), hrd2_0⟩
    have hI5 := hI4.drew
    refine any_val (i := 0) (v := .pointer (some ⟨b1, 1, none⟩)) hf19 rfl rfl rfl rfl rfl rfl (fun _ _ _ h => h) (by kernel_rfl) (by kernel_rfl) (by kernel_rfl) (fun wd2 hS1 => (r_fieldAddr fi_34_1 rfl rfl)) hS1 fun ac18 hf20 => ?_
    refine any_val (i := 1) (v := .slice (some ⟨rb, 0, none⟩) n cap) hf20 rfl rfl rfl rfl rfl rfl (fun _ _ _ h => h) (by kernel_rfl) (by kernel_rfl) (by kernel_rfl) (fun wd2 hS1 => (r_load ag_23 rfl (hS1.1.at 0 rfl) rfl)) hS1 fun ac19 hf21 => ?_
    refine any_val (i := 2) (v := .int .i64 (i : Int)) hf21 rfl rfl rfl rfl rfl rfl (fun _ _ _ h => h) (by kernel_rfl) (by kernel_rfl) (by kernel_rfl) (fun wd2 hS1 => (r_move rfl)) hS1 fun ac20 hf22 => ?_
    refine any_val (i := 3) (v := .pointer (slAt (some ⟨rb, 0, none⟩) i)) hf22 rfl rfl rfl rfl rfl rfl (fun _ _ _ h => h) (by kernel_rfl) (by kernel_rfl) (by kernel_rfl) (fun wd2 hS1 => (r_indexAddrV (i := i) sl_23 rfl rfl rfl (by have := of_decide_eq_true c19_1; omega) (let r := (hr.old hI5 (fk_app (fresh_keys (ks := [b1]) rfl (fk_cons hb1 fk_nil)) hz1)) i (by have := of_decide_eq_true c19_1; omega); ⟨r.choose, r.choose_spec.1⟩))) hS1 fun ac21 hf23 => ?_
    refine any_val (i := 5) (v := .slice q m caq) hf23 rfl rfl rfl rfl rfl rfl (fun _ _ _ h => h) (by kernel_rfl) (by kernel_rfl) (by kernel_rfl) (fun wd2 hS1 => (r_move rfl)) hS1 fun ac22 hf24 => ?_
    refine any_val (i := 6) (v := .int .i64 (i : Int)) hf24 rfl rfl rfl rfl rfl rfl (fun _ _ _ h => h) (by kernel_rfl) (by kernel_rfl) (by kernel_rfl) (fun wd2 hS1 => (r_move rfl)) hS1 fun ac23 hf25 => ?_
    refine any_val (i := 7) (v := .pointer (slAt q i)) hf25 rfl rfl rfl rfl rfl rfl (fun _ _ _ h => h) (by kernel_rfl) (by kernel_rfl) (by kernel_rfl) (fun wd2 hS1 => (r_indexAddrV (i := i) sl_23 rfl rfl rfl (by have := of_decide_eq_true c19_1; omega) (let r := (hq.old hI5 (fk_app (fresh_keys (ks := [b1]) rfl (fk_cons hb1 fk_nil)) hz1)) i (by have := of_decide_eq_true c19_1; omega); ⟨r.choose, r.choose_spec.1⟩))) hS1 fun ac24 hf26 => ?_
    refine any_val (i := 8) (v := .int .u64 (ws.getD i 0)) hf26 rfl rfl rfl rfl rfl rfl (fun _ _ _ h => h) (by kernel_rfl) (by kernel_rfl) (by kernel_rfl) (fun wd2 hS1 => (r_loadV ag_24 rfl hS1.2 (by have := of_decide_eq_true c19_1; omega))) hS1 fun ac25 hf27 => ?_
    refine any_val (i := 9) (v := .pointer (some ⟨b1, 0, none⟩)) hf27 rfl rfl rfl rfl rfl rfl (fun _ _ _ h => h) (by kernel_rfl) (by kernel_rfl) (by kernel_rfl) (fun wd2 hS1 => (r_fieldAddr fi_34_0 rfl rfl)) hS1 fun ac26 hf28 => ?_
    refine any_val (i := 10) (v := .int .i64 (k : Int)) hf28 rfl rfl rfl rfl rfl rfl (fun _ _ _ h => h) (by kernel_rfl) (by kernel_rfl) (by kernel_rfl) (fun wd2 hS1 => (r_load ag_3 rfl (hS1.1.at 0 rfl) rfl)) hS1 fun ac27 hf29 => ?_
    refine any_one (i := 4) (by kernel_rfl) ?_
    refine op_val (v := .int .u64 (xs.getD i 0)) hf29 rfl rfl rfl rfl rfl rfl (r_loadV ag_24 rfl (hr.old hI5 (fk_app (fresh_keys (ks := [b1]) rfl (fk_cons hb1 fk_nil)) hz1)) (by have := of_decide_eq_true c19_1; omega)) fun ac28 hf30 => ⟨?_, ?_⟩
    · exact ⟨(Has.cons (hI5.at 0 rfl) Has.nil), (hq.old hI5 (fk_app (fresh_keys (ks := [b1]) rfl (fk_cons hb1 fk_nil)) hz1))⟩
    have hS2 : Has [(b1, #[.int .i64 (k : Int), .slice (some ⟨rb, 0, none⟩) n cap], 34)] _ ∧ Rd _ .u64 q ws := ⟨(Has.cons (hI5.at 0 rfl) Has.nil), (hq.old hI5 (fk_app (fresh_keys (ks := [b1]) rfl (fk_cons hb1 fk_nil)) hz1))⟩
    refine any_one (i := 11) (by kernel_rfl) ?_
    refine (op_pure hf30 rfl rfl rfl rfl ca_10 (aheadR_pur (k : Int) (hxs i (by have := of_decide_eq_true c19_1; omega)) (bounds64 (hws.getD (by have := of_decide_eq_true c19_1; omega)))) hI5 fun ac29 wd3 hI6 hf31 => ⟨?_, ?_⟩)
    · exact ⟨(Has.cons (hI6.at 0 rfl) Has.nil), (hq.old hI6 (fk_app (fresh_keys (ks := [b1]) rfl (fk_cons hb1 fk_nil)) hz1))⟩
    have hS3 : Has [(b1, #[.int .i64 (k : Int), .slice (some ⟨rb, 0, none⟩) n cap], 34)] _ ∧ Rd _ .u64 q ws := ⟨(Has.cons (hI6.at 0 rfl) Has.nil), (hq.old hI6 (fk_app (fresh_keys (ks := [b1]) rfl (fk_cons hb1 fk_nil)) hz1))⟩
    refine any_val (i := 12) (v := .tuple #[.int .u64 ((aheadF (xs.getD i 0) (ws.getD i 0) (k : Int)).1), .bool ((aheadF (xs.getD i 0) (ws.getD i 0) (k : Int)).2 == 0)]) hf31 rfl rfl rfl rfl rfl rfl (fun _ _ _ h => h) (by kernel_rfl) (by kernel_rfl) (by kernel_rfl) (fun wd3 hS3 => (r_move rfl)) hS3 fun ac30 hf32 => ?_
    refine any_val (i := 13) (v := .int .u64 ((aheadF (xs.getD i 0) (ws.getD i 0) (k : Int)).1)) hf32 rfl rfl rfl rfl rfl rfl (fun _ _ _ h => h) (by kernel_rfl) (by kernel_rfl) (by kernel_rfl) (fun wd3 hS3 => (r_extract rfl rfl)) hS3 fun ac31 hf33 => ?_
    refine any_val (i := 14) (v := .bool ((aheadF (xs.getD i 0) (ws.getD i 0) (k : Int)).2 == 0)) hf33 rfl rfl rfl rfl rfl rfl (fun _ _ _ h => h) (by kernel_rfl) (by kernel_rfl) (by kernel_rfl) (fun wd3 hS3 => (r_extract rfl rfl)) hS3 fun ac32 hf34 => ?_
    refine any_val (i := 15) (v := .int .u64 ((aheadF (xs.getD i 0) (ws.getD i 0) (k : Int)).1)) hf34 rfl rfl rfl rfl rfl rfl (fun _ _ _ h => h) (by kernel_rfl) (by kernel_rfl) (by kernel_rfl) (fun wd3 hS3 => (r_assign rfl)) hS3 fun ac33 hf35 => ?_
    refine any_val (i := 16) (v := .bool ((aheadF (xs.getD i 0) (ws.getD i 0) (k : Int)).2 == 0)) hf35 rfl rfl rfl rfl rfl rfl (fun _ _ _ h => h) (by kernel_rfl) (by kernel_rfl) (by kernel_rfl) (fun wd3 hS3 => (r_assign rfl)) hS3 fun ac34 hf36 => ?_
    refine any_end (by kernel_rfl) ?_
    clear hf18 hrd2_0 hI4 ac17 hf19 ac18 hf20 ac19 hf21 ac20 hf22 ac21 hf23 ac22 hf24 ac23 hf25 ac24 hf26 ac25 hf27 ac26 hf28 ac27 hf29 hS1 ac28 wd2 hI5 hf30 hS2 ac29 hf31 ac30 hf32 ac31 hf33 ac32 hf34 ac33 hf35 hS3
    refine then_normal ?_
    refine code_seq ?_
    refine code_seq ?_
    refine seq_start (l := [0, 1]) rfl ?_
    refine seq_one (op_val (v := .bool ((aheadF (xs.getD i 0) (ws.getD i 0) (k : Int)).2 == 0)) hf36 rfl rfl rfl rfl rfl rfl (r_move rfl) fun ac35 hf37 => ?_)
    refine seq_one (op_val (v := .bool (!((aheadF (xs.getD i 0) (ws.getD i 0) (k : Int)).2 == 0))) hf37 rfl rfl rfl rfl rfl rfl (r_not rfl) fun ac36 hf38 => ?_)
    refine seq_end ?_
    clear ac34 hf36 ac35 hf37
    refine then_normal ?_
    have h38 : (aheadF (xs.getD i 0) (ws.getD i 0) (k : Int)).2 = 0 := hok i (by have := of_decide_eq_true c19_1; omega)
    have hf39 := hf38.know 38 (u := .bool false) rfl (congrArg Value.bool (by rw [h38]; rfl))
    refine code_if_false hf39 rfl ?_
    refine wp_skip ?_
    refine then_normal ?_
    refine seq_start (l := [0, 1, 2, 3, 4]) rfl ?_
    refine seq_one (op_val (v := .slice p ((sinceL xs ws k i).length) cp) hf39 rfl rfl rfl rfl rfl rfl (r_move rfl) fun ac37 hf40 => ?_)
    refine seq_one (op_val (v := .int .u64 ((aheadF (xs.getD i 0) (ws.getD i 0) (k : Int)).1)) hf40 rfl rfl rfl rfl rfl rfl (r_move rfl) fun ac38 hf41 => ?_)
    refine seq_one (op_bslice (s := 24) (cells := #[.int .u64 ((aheadF (xs.getD i 0) (ws.getD i 0) (k : Int)).1)]) hf41 rfl rfl rfl rfl rfl (fun _ => by kernel_rfl) hI6 fun ac39 b3 wd4 hb3 hI7 hf42 => ?_)
    have hI8 : Inv w ([(b1, #[.int .i64 (k : Int), .slice (some ⟨rb, 0, none⟩) n cap], 34), (b3, #[.int .u64 ((aheadF (xs.getD i 0) (ws.getD i 0) (k : Int)).1)], 24)] ++ S) wd4 := Inv.tail (A := [(b1, #[.int .i64 (k : Int), .slice (some ⟨rb, 0, none⟩) n cap], 34)]) (T := S) (N := [(b3, #[.int .u64 ((aheadF (xs.getD i 0) (ws.getD i 0) (k : Int)).1)], 24)]) hI7
    refine seq_one (op_append1 (A := [(b1, #[.int .i64 (k : Int), .slice (some ⟨rb, 0, none⟩) n cap], 34), (b3, #[.int .u64 ((aheadF (xs.getD i 0) (ws.getD i 0) (k : Int)).1)], 24)]) (S := S) hf42 rfl rfl rfl us_23 if_24 rfl hs1 rfl hI8 hz1 (List.mem_of_getElem? (i := 1) rfl) rfl (by rw [since_len]; simp only [maxLen]; omega) (by rw [since_len]; omega) fun ac40 p4 capp4 Sp4 wd5 hsp4 hzp4 hI9 hf43 => ?_)
    rw [← since_app h38] at hsp4 hf43
    refine seq_one (op_val (v := .slice p4 ((sinceL xs ws k (i + 1)).length) capp4) hf43 rfl rfl rfl rfl rfl rfl (r_assign rfl) fun ac41 hf44 => ?_)
    refine seq_end ?_
    clear hf38 ac36 hf39 ac37 hf40 ac38 wd3 hI6 hf41 hI7 ac39 wd4 hI8 hf42 ac40 hf43
    refine block_normal ?_
    refine then_normal ?_
    refine seq_start (l := [0, 1, 2]) rfl ?_
    refine seq_one (op_val (v := .int .i64 (i : Int)) hf44 rfl rfl rfl rfl rfl rfl (r_move rfl) fun ac42 hf45 => ?_)
    refine seq_one (op_val (v := .int .i64 ((i + 1 : Nat) : Int)) hf45 rfl rfl rfl rfl rfl rfl (r_add (c := ((i + 1 : Nat) : Int)) rfl rfl (wrap_i64 (by omega) (by omega))) fun ac43 hf46 => ?_)
    refine seq_one (op_val (v := .int .i64 ((i + 1 : Nat) : Int)) hf46 rfl rfl rfl rfl rfl rfl (r_assign rfl) fun ac44 hf47 => ?_)
    refine seq_end ?_
    clear ac41 hf44 ac42 hf45 ac43 hf46
    refine then_normal ?_
    exact ⟨(i + 1, p4, capp4, Sp4), (hf47.cons 0 rfl (hf47.cons 1 rfl (hf47.cons 2 rfl (hf47.cons 10 rfl (hf47.cons 11 rfl (hf47.cons 12 rfl (hf47.cons 13 rfl (hf47.cons 14 rfl (hf47.cons 15 rfl (hf47.cons 6 rfl (hf47.cons 7 rfl hf47.nil))))))))))), ⟨(Inv.keep (A := [(b1, #[.int .i64 (k : Int), .slice (some ⟨rb, 0, none⟩) n cap], 34)]) (N := [(b3, #[.int .u64 ((aheadF (xs.getD i 0) (ws.getD i 0) (k : Int)).1)], 24)]) (T := Sp4) hI9 (fresh_keys (ks := [b3]) rfl (fk_cons hb3 fk_nil))), ⟨hsp4, hzp4, by have := of_decide_eq_true c19_1; omega⟩⟩, (by have := of_decide_eq_true c19_1; show n - (i + 1) < n - i; omega)⟩
  · have hf48 := hf18.know 19 (u := .bool false) rfl (congrArg Value.bool c19_1)
    refine wp_exit ?_
    refine then_exit ?_
    refine then_exit ?_
    refine block_here ?_
    refine then_normal ?_
    refine code_seq ?_
    refine seq_start (l := [0, 1, 2]) rfl ?_
    refine seq_one (op_val (v := .slice p ((sinceL xs ws k i).length) cp) hf48 rfl rfl rfl rfl rfl rfl (r_move rfl) fun ac45 hf49 => ?_)
    refine seq_one (op_val (v := .slice p ((sinceL xs ws k i).length) cp) hf49 rfl rfl rfl rfl rfl rfl (r_assign rfl) fun ac46 hf50 => ?_)
    refine seq_one (op_val (v := .bool true) hf50 rfl rfl rfl rfl rfl rfl (r_assign rfl) fun ac47 hf51 => ?_)
    refine seq_end ?_
    clear hf18 ac17 hf48 ac45 hf49 ac46 hf50
    refine then_normal ?_
    refine wp_ret ?_
    have en : n = i := by have := of_decide_eq_false c19_1; omega
    subst en
    exact post2 rfl hf51 rfl rfl ⟨S, p, cp, rfl, hs1, hI4.forget (List.sublist_append_right _ _) (fun x hx => (List.mem_append.1 hx).elim (fun h => .inr ((fresh_keys (ks := [b1]) rfl (fk_cons hb1 fk_nil)) x h)) .inl), hz1⟩
set_option maxHeartbeats 8000000 in
theorem sinceR_bad {rb cap n k : Nat} {xs : List Int} (hl : xs.length = n) {q : Option Addr} {m caq : Nat} {ws : List Int} (hw : ws.length = m) (hm : m = n) (hn2 : n ≤ 256) (hxs : ∀ j, j < n → 0 ≤ xs.getD j 0 ∧ xs.getD j 0 < 18446744073709551616) (hws : InK .u64 ws) (hbad : ∃ j, j < n ∧ (aheadF (xs.getD j 0) (ws.getD j 0) (k : Int)).2 ≠ 0) {w : World} (hr : Rd w .u64 (some ⟨rb, 0, none⟩) xs) (hq : Rd w .u64 q ws) : Calls Try.prog 19 [.agg #[.int .i64 (k : Int), .slice (some ⟨rb, 0, none⟩) n cap], .slice q m caq].toArray w fun e w' => e = .returned (.tuple #[.slice none 0 0, .bool false]) ∧ Inv w [] w' := by
  have hI1 := Inv.start w
  refine enter (n := 44) Try.func19 rfl rfl rfl ?_
  intro ac1 hf1
  refine code_seq ?_
  refine seq_start (l := [0, 1, 2]) rfl ?_
  refine seq_one (op_box hf1 rfl rfl rfl rfl hI1 fun ac2 b1 wd1 hb1 hI2 hf2 => ?_)
  have hI3 : Inv w [(b1, #[.int .i64 (k : Int), .slice (some ⟨rb, 0, none⟩) n cap], 34)] wd1 := hI2
  refine seq_one (op_val (v := .slice none 0 0) hf2 rfl rfl rfl rfl rfl rfl (r_assign rfl) fun ac3 hf3 => ?_)
  refine seq_one (op_val (v := .bool false) hf3 rfl rfl rfl rfl rfl rfl (r_assign rfl) fun ac4 hf4 => ?_)
  refine seq_end ?_
  clear ac1 hI1 hf1 hI2 ac2 hf2 ac3 hf3
  refine then_normal ?_
  refine code_seq ?_
  refine code_seq ?_
  refine seq_start (l := [0, 1, 2, 3, 4, 5]) rfl ?_
  refine seq_one (op_val (v := .slice q m caq) hf4 rfl rfl rfl rfl rfl rfl (r_move rfl) fun ac5 hf5 => ?_)
  refine seq_one (op_val (v := .int .i64 (m : Int)) hf5 rfl rfl rfl rfl rfl rfl (r_len sl_23 rfl) fun ac6 hf6 => ?_)
  refine seq_one (op_val (v := .pointer (some ⟨b1, 1, none⟩)) hf6 rfl rfl rfl rfl rfl rfl (r_fieldAddr fi_34_1 rfl rfl) fun ac7 hf7 => ?_)
  refine seq_one (op_val (v := .slice (some ⟨rb, 0, none⟩) n cap) hf7 rfl rfl rfl rfl rfl rfl (r_load ag_23 rfl (hI3.at 0 rfl) rfl) fun ac8 hf8 => ?_)
  refine seq_one (op_val (v := .int .i64 (n : Int)) hf8 rfl rfl rfl rfl rfl rfl (r_len sl_23 rfl) fun ac9 hf9 => ?_)
  refine seq_one (op_val (v := .bool ((m : Int) != (n : Int))) hf9 rfl rfl rfl rfl rfl rfl (r_neq rfl rfl) fun ac10 hf10 => ?_)
  refine seq_end ?_
  clear ac4 hf4 ac5 hf5 ac6 hf6 ac7 hf7 ac8 hf8 ac9 hf9
  refine then_normal ?_
  have hf11 := hf10.know 15 (u := .bool false) rfl (congrArg Value.bool (bne_eq_false_iff_eq.2 (by omega)))
  refine code_if_false hf11 rfl ?_
  refine wp_skip ?_
  refine then_normal ?_
  refine code_seq ?_
  refine seq_start (l := [0]) rfl ?_
  refine seq_one (op_val (v := .slice none 0 0) hf11 rfl rfl rfl rfl rfl rfl (r_assign rfl) fun ac11 hf12 => ?_)
  refine seq_end ?_
  clear hf10 ac10 hf11
  refine then_normal ?_
  refine code_seq ?_
  refine code_seq ?_
  refine seq_start (l := [0]) rfl ?_
  refine seq_one (op_val (v := .int .i64 0) hf12 rfl rfl rfl rfl rfl rfl (r_assign rfl) fun ac12 hf13 => ?_)
  refine seq_end ?_
  clear ac11 hf12
  refine then_normal ?_
  refine wp_block ?_
  refine code_loop (α := Nat × (Option Addr) × Nat × (List Blk)) (fun (x : Nat × (Option Addr) × Nat × (List Blk)) => match x with | (i, p, cp, S) => [(0, .agg #[.int .i64 (k : Int), .slice (some ⟨rb, 0, none⟩) n cap]), (1, .slice q m caq), (2, .pointer (some ⟨b1, 0, none⟩)), (10, .slice q m caq), (11, .int .i64 (m : Int)), (12, .pointer (some ⟨b1, 1, none⟩)), (13, .slice (some ⟨rb, 0, none⟩) n cap), (14, .int .i64 (n : Int)), (15, .bool false), (6, .slice p ((sinceL xs ws k i).length) cp), (7, .int .i64 (i : Int))]) (fun (x : Nat × (Option Addr) × Nat × (List Blk)) => match x with | (i, p, cp, S) => fun wL => Inv w ([(b1, #[.int .i64 (k : Int), .slice (some ⟨rb, 0, none⟩) n cap], 34)] ++ S) wL ∧ (Sl 24 .u64 S p cp (sinceL xs ws k i) ∧ (∀ x ∈ S, w.heap.size ≤ x.1) ∧ i ≤ n ∧ (∀ j, j < i → (aheadF (xs.getD j 0) (ws.getD j 0) (k : Int)).2 = 0))) (fun (x : Nat × (Option Addr) × Nat × (List Blk)) => match x with | (i, p, cp, S) => n - i) (0, none, 0, []) (hf13.cons 0 rfl (hf13.cons 1 rfl (hf13.cons 2 rfl (hf13.cons 10 rfl (hf13.cons 11 rfl (hf13.cons 12 rfl (hf13.cons 13 rfl (hf13.cons 14 rfl (hf13.cons 15 rfl (hf13.cons 6 rfl (hf13.cons 7 rfl hf13.nil))))))))))) ⟨hI3, ⟨Sl.nil, (fun _ h => by cases h), Nat.zero_le _, fun j h => absurd h (Nat.not_lt_zero j)⟩⟩ ?_
  intro ⟨i, p, cp, S⟩ ac13 wd2 hf14 hL1
  obtain ⟨hI4, hx1⟩ := hL1
  dsimp only at hf14 hI4 hx1
  clear ac12 wd1 hf13 hI3
  obtain ⟨hs1, hz1, hi1, ho1⟩ := hx1
  refine code_seq ?_
  refine code_seq ?_
  refine seq_start (l := [0, 1, 2, 3]) rfl ?_
  refine seq_one (op_val (v := .int .i64 (i : Int)) hf14 rfl rfl rfl rfl rfl rfl (r_move rfl) fun ac14 hf15 => ?_)
  refine seq_one (op_val (v := .slice q m caq) hf15 rfl rfl rfl rfl rfl rfl (r_move rfl) fun ac15 hf16 => ?_)
  refine seq_one (op_val (v := .int .i64 (m : Int)) hf16 rfl rfl rfl rfl rfl rfl (r_len sl_23 rfl) fun ac16 hf17 => ?_)
  refine seq_one (op_val (v := .bool (decide ((i : Int) < (m : Int)))) hf17 rfl rfl rfl rfl rfl rfl (r_lss rfl rfl) fun ac17 hf18 => ?_)
  refine seq_end ?_
  clear ac13 hf14 ac14 hf15 ac15 hf16 ac16 hf17
  refine then_normal ?_
  refine code_if hf18 rfl (fun c19_1 => ?_) (fun c19_1 => ?_)
  · have hf19 := hf18.know 19 (u := .bool true) rfl (congrArg Value.bool c19_1)
    refine wp_skip ?_
    refine then_normal ?_
    refine code_seq ?_
    refine wp_block ?_
    refine code_seq ?_
    have hrd2_0 := (hq.old hI4 (fk_app (fresh_keys (ks := [b1]) rfl (fk_cons hb1 fk_nil)) hz1))
    refine any_start (fun w => Has [(b1, #[.int .i64 (k : Int), .slice (some ⟨rb, 0, none⟩) n cap], 34)] w ∧ Rd w .u64 q ws) follows ⟨Has.drew (Has.cons (hI4.at 0 rfl) Has.nil), hrd2_0⟩ ?_
    have hS1 : Has [(b1, #[.int .i64 (k : Int), .slice (some ⟨rb, 0, none⟩) n cap], 34)] _ ∧ Rd _ .u64 q ws := ⟨Has.drew (Has.cons (hI4.at 0 rfl) Has.nil), hrd2_0⟩
    have hI5 := hI4.drew
    refine any_val (i := 0) (v := .pointer (some ⟨b1, 1, none⟩)) hf19 rfl rfl rfl rfl rfl rfl (fun _ _ _ h => h) (by kernel_rfl) (by kernel_rfl) (by kernel_rfl) (fun wd2 hS1 => (r_fieldAddr fi_34_1 rfl rfl)) hS1 fun ac18 hf20 => ?_
    refine any_val (i := 1) (v := .slice (some ⟨rb, 0, none⟩) n cap) hf20 rfl rfl rfl rfl rfl rfl (fun _ _ _ h => h) (by kernel_rfl) (by kernel_rfl) (by kernel_rfl) (fun wd2 hS1 => (r_load ag_23 rfl (hS1.1.at 0 rfl) rfl)) hS1 fun ac19 hf21 => ?_
    refine any_val (i := 2) (v := .int .i64 (i : Int)) hf21 rfl rfl rfl rfl rfl rfl (fun _ _ _ h => h) (by kernel_rfl) (by kernel_rfl) (by kernel_rfl) (fun wd2 hS1 => (r_move rfl)) hS1 fun ac20 hf22 => ?_
    refine any_val (i := 3) (v := .pointer (slAt (some ⟨rb, 0, none⟩) i)) hf22 rfl rfl rfl rfl rfl rfl (fun _ _ _ h => h) (by kernel_rfl) (by kernel_rfl) (by kernel_rfl) (fun wd2 hS1 => (r_indexAddrV (i := i) sl_23 rfl rfl rfl (by have := of_decide_eq_true c19_1; omega) (let r := (hr.old hI5 (fk_app (fresh_keys (ks := [b1]) rfl (fk_cons hb1 fk_nil)) hz1)) i (by have := of_decide_eq_true c19_1; omega); ⟨r.choose, r.choose_spec.1⟩))) hS1 fun ac21 hf23 => ?_
    refine any_val (i := 5) (v := .slice q m caq) hf23 rfl rfl rfl rfl rfl rfl (fun _ _ _ h => h) (by kernel_rfl) (by kernel_rfl) (by kernel_rfl) (fun wd2 hS1 => (r_move rfl)) hS1 fun ac22 hf24 => ?_
    refine any_val (i := 6) (v := .int .i64 (i : Int)) hf24 rfl rfl rfl rfl rfl rfl (fun _ _ _ h => h) (by kernel_rfl) (by kernel_rfl) (by kernel_rfl) (fun wd2 hS1 => (r_move rfl)) hS1 fun ac23 hf25 => ?_
    refine any_val (i := 7) (v := .pointer (slAt q i)) hf25 rfl rfl rfl rfl rfl rfl (fun _ _ _ h => h) (by kernel_rfl) (by kernel_rfl) (by kernel_rfl) (fun wd2 hS1 => (r_indexAddrV (i := i) sl_23 rfl rfl rfl (by have := of_decide_eq_true c19_1; omega) (let r := (hq.old hI5 (fk_app (fresh_keys (ks := [b1]) rfl (fk_cons hb1 fk_nil)) hz1)) i (by have := of_decide_eq_true c19_1; omega); ⟨r.choose, r.choose_spec.1⟩))) hS1 fun ac24 hf26 => ?_
    refine any_val (i := 8) (v := .int .u64 (ws.getD i 0)) hf26 rfl rfl rfl rfl rfl rfl (fun _ _ _ h => h) (by kernel_rfl) (by kernel_rfl) (by kernel_rfl) (fun wd2 hS1 => (r_loadV ag_24 rfl hS1.2 (by have := of_decide_eq_true c19_1; omega))) hS1 fun ac25 hf27 => ?_
    refine any_val (i := 9) (v := .pointer (some ⟨b1, 0, none⟩)) hf27 rfl rfl rfl rfl rfl rfl (fun _ _ _ h => h) (by kernel_rfl) (by kernel_rfl) (by kernel_rfl) (fun wd2 hS1 => (r_fieldAddr fi_34_0 rfl rfl)) hS1 fun ac26 hf28 => ?_
    refine any_val (i := 10) (v := .int .i64 (k : Int)) hf28 rfl rfl rfl rfl rfl rfl (fun _ _ _ h => h) (by kernel_rfl) (by kernel_rfl) (by kernel_rfl) (fun wd2 hS1 => (r_load ag_3 rfl (hS1.1.at 0 rfl) rfl)) hS1 fun ac27 hf29 => ?_
    refine any_one (i := 4) (by kernel_rfl) ?_
    refine op_val (v := .int .u64 (xs.getD i 0)) hf29 rfl rfl rfl rfl rfl rfl (r_loadV ag_24 rfl (hr.old hI5 (fk_app (fresh_keys (ks := [b1]) rfl (fk_cons hb1 fk_nil)) hz1)) (by have := of_decide_eq_true c19_1; omega)) fun ac28 hf30 => ⟨?_, ?_⟩
    · exact ⟨(Has.cons (hI5.at 0 rfl) Has.nil), (hq.old hI5 (fk_app (fresh_keys (ks := [b1]) rfl (fk_cons hb1 fk_nil)) hz1))⟩
    have hS2 : Has [(b1, #[.int .i64 (k : Int), .slice (some ⟨rb, 0, none⟩) n cap], 34)] _ ∧ Rd _ .u64 q ws := ⟨(Has.cons (hI5.at 0 rfl) Has.nil), (hq.old hI5 (fk_app (fresh_keys (ks := [b1]) rfl (fk_cons hb1 fk_nil)) hz1))⟩
    refine any_one (i := 11) (by kernel_rfl) ?_
    refine (op_pure hf30 rfl rfl rfl rfl ca_10 (aheadR_pur (k : Int) (hxs i (by have := of_decide_eq_true c19_1; omega)) (bounds64 (hws.getD (by have := of_decide_eq_true c19_1; omega)))) hI5 fun ac29 wd3 hI6 hf31 => ⟨?_, ?_⟩)
    · exact ⟨(Has.cons (hI6.at 0 rfl) Has.nil), (hq.old hI6 (fk_app (fresh_keys (ks := [b1]) rfl (fk_cons hb1 fk_nil)) hz1))⟩
    have hS3 : Has [(b1, #[.int .i64 (k : Int), .slice (some ⟨rb, 0, none⟩) n cap], 34)] _ ∧ Rd _ .u64 q ws := ⟨(Has.cons (hI6.at 0 rfl) Has.nil), (hq.old hI6 (fk_app (fresh_keys (ks := [b1]) rfl (fk_cons hb1 fk_nil)) hz1))⟩
    refine any_val (i := 12) (v := .tuple #[.int .u64 ((aheadF (xs.getD i 0) (ws.getD i 0) (k : Int)).1), .bool ((aheadF (xs.getD i 0) (ws.getD i 0) (k : Int)).2 == 0)]) hf31 rfl rfl rfl rfl rfl rfl (fun _ _ _ h => h) (by kernel_rfl) (by kernel_rfl) (by kernel_rfl) (fun wd3 hS3 => (r_move rfl)) hS3 fun ac30 hf32 => ?_
    refine any_val (i := 13) (v := .int .u64 ((aheadF (xs.getD i 0) (ws.getD i 0) (k : Int)).1)) hf32 rfl rfl rfl rfl rfl rfl (fun _ _ _ h => h) (by kernel_rfl) (by kernel_rfl) (by kernel_rfl) (fun wd3 hS3 => (r_extract rfl rfl)) hS3 fun ac31 hf33 => ?_
    refine any_val (i := 14) (v := .bool ((aheadF (xs.getD i 0) (ws.getD i 0) (k : Int)).2 == 0)) hf33 rfl rfl rfl rfl rfl rfl (fun _ _ _ h => h) (by kernel_rfl) (by kernel_rfl) (by kernel_rfl) (fun wd3 hS3 => (r_extract rfl rfl)) hS3 fun ac32 hf34 => ?_
    refine any_val (i := 15) (v := .int .u64 ((aheadF (xs.getD i 0) (ws.getD i 0) (k : Int)).1)) hf34 rfl rfl rfl rfl rfl rfl (fun _ _ _ h => h) (by kernel_rfl) (by kernel_rfl) (by kernel_rfl) (fun wd3 hS3 => (r_assign rfl)) hS3 fun ac33 hf35 => ?_
    refine any_val (i := 16) (v := .bool ((aheadF (xs.getD i 0) (ws.getD i 0) (k : Int)).2 == 0)) hf35 rfl rfl rfl rfl rfl rfl (fun _ _ _ h => h) (by kernel_rfl) (by kernel_rfl) (by kernel_rfl) (fun wd3 hS3 => (r_assign rfl)) hS3 fun ac34 hf36 => ?_
    refine any_end (by kernel_rfl) ?_
    clear hf18 hrd2_0 hI4 ac17 hf19 ac18 hf20 ac19 hf21 ac20 hf22 ac21 hf23 ac22 hf24 ac23 hf25 ac24 hf26 ac25 hf27 ac26 hf28 ac27 hf29 hS1 ac28 wd2 hI5 hf30 hS2 ac29 hf31 ac30 hf32 ac31 hf33 ac32 hf34 ac33 hf35 hS3
    refine then_normal ?_
    refine code_seq ?_
    refine code_seq ?_
    refine seq_start (l := [0, 1]) rfl ?_
    refine seq_one (op_val (v := .bool ((aheadF (xs.getD i 0) (ws.getD i 0) (k : Int)).2 == 0)) hf36 rfl rfl rfl rfl rfl rfl (r_move rfl) fun ac35 hf37 => ?_)
    refine seq_one (op_val (v := .bool (!((aheadF (xs.getD i 0) (ws.getD i 0) (k : Int)).2 == 0))) hf37 rfl rfl rfl rfl rfl rfl (r_not rfl) fun ac36 hf38 => ?_)
    refine seq_end ?_
    clear ac34 hf36 ac35 hf37
    refine then_normal ?_
    refine code_if hf38 rfl (fun c38_2 => ?_) (fun c38_2 => ?_)
    · have hf39 := hf38.know 38 (u := .bool true) rfl (congrArg Value.bool c38_2)
      refine code_seq ?_
      refine seq_start (l := [0, 1]) rfl ?_
      refine seq_one (op_val (v := .slice none 0 0) hf39 rfl rfl rfl rfl rfl rfl (r_assign rfl) fun ac37 hf40 => ?_)
      refine seq_one (op_val (v := .bool false) hf40 rfl rfl rfl rfl rfl rfl (r_assign rfl) fun ac38 hf41 => ?_)
      refine seq_end ?_
      clear hf38 ac36 hf39 ac37 hf40
      refine then_normal ?_
      refine wp_ret ?_
      refine then_ret ?_
      refine block_ret ?_
      refine then_ret ?_
      refine then_ret ?_
      refine block_ret ?_
      refine then_ret ?_
      exact post2 rfl hf41 rfl rfl ⟨rfl, hI6.done (fk_app (fresh_keys (ks := [b1]) rfl (fk_cons hb1 fk_nil)) hz1)⟩
    · have hf42 := hf38.know 38 (u := .bool false) rfl (congrArg Value.bool c38_2)
      refine wp_skip ?_
      refine then_normal ?_
      refine seq_start (l := [0, 1, 2, 3, 4]) rfl ?_
      refine seq_one (op_val (v := .slice p ((sinceL xs ws k i).length) cp) hf42 rfl rfl rfl rfl rfl rfl (r_move rfl) fun ac39 hf43 => ?_)
      refine seq_one (op_val (v := .int .u64 ((aheadF (xs.getD i 0) (ws.getD i 0) (k : Int)).1)) hf43 rfl rfl rfl rfl rfl rfl (r_move rfl) fun ac40 hf44 => ?_)
      refine seq_one (op_bslice (s := 24) (cells := #[.int .u64 ((aheadF (xs.getD i 0) (ws.getD i 0) (k : Int)).1)]) hf44 rfl rfl rfl rfl rfl (fun _ => by kernel_rfl) hI6 fun ac41 b3 wd4 hb3 hI7 hf45 => ?_)
      have hI8 : Inv w ([(b1, #[.int .i64 (k : Int), .slice (some ⟨rb, 0, none⟩) n cap], 34), (b3, #[.int .u64 ((aheadF (xs.getD i 0) (ws.getD i 0) (k : Int)).1)], 24)] ++ S) wd4 := Inv.tail (A := [(b1, #[.int .i64 (k : Int), .slice (some ⟨rb, 0, none⟩) n cap], 34)]) (T := S) (N := [(b3, #[.int .u64 ((aheadF (xs.getD i 0) (ws.getD i 0) (k : Int)).1)], 24)]) hI7
      refine seq_one (op_append1 (A := [(b1, #[.int .i64 (k : Int), .slice (some ⟨rb, 0, none⟩) n cap], 34), (b3, #[.int .u64 ((aheadF (xs.getD i 0) (ws.getD i 0) (k : Int)).1)], 24)]) (S := S) hf45 rfl rfl rfl us_23 if_24 rfl hs1 rfl hI8 hz1 (List.mem_of_getElem? (i := 1) rfl) rfl (by rw [since_len]; simp only [maxLen]; omega) (by rw [since_len]; omega) fun ac42 p4 capp4 Sp4 wd5 hsp4 hzp4 hI9 hf46 => ?_)
      rw [← since_app (beq_iff_eq.1 (nt c38_2))] at hsp4 hf46
      refine seq_one (op_val (v := .slice p4 ((sinceL xs ws k (i + 1)).length) capp4) hf46 rfl rfl rfl rfl rfl rfl (r_assign rfl) fun ac43 hf47 => ?_)
      refine seq_end ?_
      clear hf38 ac36 hf42 ac39 hf43 ac40 wd3 hI6 hf44 hI7 ac41 wd4 hI8 hf45 ac42 hf46
      refine block_normal ?_
      refine then_normal ?_
      refine seq_start (l := [0, 1, 2]) rfl ?_
      refine seq_one (op_val (v := .int .i64 (i : Int)) hf47 rfl rfl rfl rfl rfl rfl (r_move rfl) fun ac44 hf48 => ?_)
      refine seq_one (op_val (v := .int .i64 ((i + 1 : Nat) : Int)) hf48 rfl rfl rfl rfl rfl rfl (r_add (c := ((i + 1 : Nat) : Int)) rfl rfl (wrap_i64 (by omega) (by omega))) fun ac45 hf49 => ?_)
      refine seq_one (op_val (v := .int .i64 ((i + 1 : Nat) : Int)) hf49 rfl rfl rfl rfl rfl rfl (r_assign rfl) fun ac46 hf50 => ?_)
      refine seq_end ?_
      clear ac43 hf47 ac44 hf48 ac45 hf49
      refine then_normal ?_
      exact ⟨(i + 1, p4, capp4, Sp4), (hf50.cons 0 rfl (hf50.cons 1 rfl (hf50.cons 2 rfl (hf50.cons 10 rfl (hf50.cons 11 rfl (hf50.cons 12 rfl (hf50.cons 13 rfl (hf50.cons 14 rfl (hf50.cons 15 rfl (hf50.cons 6 rfl (hf50.cons 7 rfl hf50.nil))))))))))), ⟨(Inv.keep (A := [(b1, #[.int .i64 (k : Int), .slice (some ⟨rb, 0, none⟩) n cap], 34)]) (N := [(b3, #[.int .u64 ((aheadF (xs.getD i 0) (ws.getD i 0) (k : Int)).1)], 24)]) (T := Sp4) hI9 (fresh_keys (ks := [b3]) rfl (fk_cons hb3 fk_nil))), ⟨hsp4, hzp4, by have := of_decide_eq_true c19_1; omega, fun j hj => by rcases Nat.lt_succ_iff_lt_or_eq.1 hj with h | rfl; exact ho1 j h; exact beq_iff_eq.1 (nt c38_2)⟩⟩, (by have := of_decide_eq_true c19_1; show n - (i + 1) < n - i; omega)⟩
  · have hf51 := hf18.know 19 (u := .bool false) rfl (congrArg Value.bool c19_1)
    refine wp_exit ?_
    refine then_exit ?_
    refine then_exit ?_
    refine block_here ?_
    refine then_normal ?_
    refine code_seq ?_
    refine seq_start (l := [0, 1, 2]) rfl ?_
    refine seq_one (op_val (v := .slice p ((sinceL xs ws k i).length) cp) hf51 rfl rfl rfl rfl rfl rfl (r_move rfl) fun ac47 hf52 => ?_)
    refine seq_one (op_val (v := .slice p ((sinceL xs ws k i).length) cp) hf52 rfl rfl rfl rfl rfl rfl (r_assign rfl) fun ac48 hf53 => ?_)
    refine seq_one (op_val (v := .bool true) hf53 rfl rfl rfl rfl rfl rfl (r_assign rfl) fun ac49 hf54 => ?_)
    refine seq_end ?_
    clear hf18 ac17 hf51 ac47 hf52 ac48 hf53
    refine then_normal ?_
    refine wp_ret ?_
    exfalso
    obtain ⟨j, h1, h2⟩ := hbad
    have := of_decide_eq_false c19_1
    exact h2 (ho1 j (by omega))
set_option maxHeartbeats 8000000 in
theorem sinceR_n {rb cap n k : Nat} {xs : List Int} (hl : xs.length = n) {q : Option Addr} {m caq : Nat} {ws : List Int} (hw : ws.length = m) (hm : m ≠ n) (hn2 : n ≤ 256) (hxs : ∀ j, j < n → 0 ≤ xs.getD j 0 ∧ xs.getD j 0 < 18446744073709551616) (hws : InK .u64 ws)  {w : World} (hr : Rd w .u64 (some ⟨rb, 0, none⟩) xs) (hq : Rd w .u64 q ws) : Calls Try.prog 19 [.agg #[.int .i64 (k : Int), .slice (some ⟨rb, 0, none⟩) n cap], .slice q m caq].toArray w fun e w' => e = .returned (.tuple #[.slice none 0 0, .bool false]) ∧ Inv w [] w' := by
  have hI1 := Inv.start w
  refine enter (n := 44) Try.func19 rfl rfl rfl ?_
  intro ac1 hf1
  refine code_seq ?_
  refine seq_start (l := [0, 1, 2]) rfl ?_
  refine seq_one (op_box hf1 rfl rfl rfl rfl hI1 fun ac2 b1 wd1 hb1 hI2 hf2 => ?_)
  have hI3 : Inv w [(b1, #[.int .i64 (k : Int), .slice (some ⟨rb, 0, none⟩) n cap], 34)] wd1 := hI2
  refine seq_one (op_val (v := .slice none 0 0) hf2 rfl rfl rfl rfl rfl rfl (r_assign rfl) fun ac3 hf3 => ?_)
  refine seq_one (op_val (v := .bool false) hf3 rfl rfl rfl rfl rfl rfl (r_assign rfl) fun ac4 hf4 => ?_)
  refine seq_end ?_
  clear ac1 hI1 hf1 hI2 ac2 hf2 ac3 hf3
  refine then_normal ?_
  refine code_seq ?_
  refine code_seq ?_
  refine seq_start (l := [0, 1, 2, 3, 4, 5]) rfl ?_
  refine seq_one (op_val (v := .slice q m caq) hf4 rfl rfl rfl rfl rfl rfl (r_move rfl) fun ac5 hf5 => ?_)
  refine seq_one (op_val (v := .int .i64 (m : Int)) hf5 rfl rfl rfl rfl rfl rfl (r_len sl_23 rfl) fun ac6 hf6 => ?_)
  refine seq_one (op_val (v := .pointer (some ⟨b1, 1, none⟩)) hf6 rfl rfl rfl rfl rfl rfl (r_fieldAddr fi_34_1 rfl rfl) fun ac7 hf7 => ?_)
  refine seq_one (op_val (v := .slice (some ⟨rb, 0, none⟩) n cap) hf7 rfl rfl rfl rfl rfl rfl (r_load ag_23 rfl (hI3.at 0 rfl) rfl) fun ac8 hf8 => ?_)
  refine seq_one (op_val (v := .int .i64 (n : Int)) hf8 rfl rfl rfl rfl rfl rfl (r_len sl_23 rfl) fun ac9 hf9 => ?_)
  refine seq_one (op_val (v := .bool ((m : Int) != (n : Int))) hf9 rfl rfl rfl rfl rfl rfl (r_neq rfl rfl) fun ac10 hf10 => ?_)
  refine seq_end ?_
  clear ac4 hf4 ac5 hf5 ac6 hf6 ac7 hf7 ac8 hf8 ac9 hf9
  refine then_normal ?_
  have hf11 := hf10.know 15 (u := .bool true) rfl (congrArg Value.bool (bne_iff_ne.2 (by omega)))
  refine code_if_true hf11 rfl ?_
  refine code_seq ?_
  refine seq_start (l := [0, 1]) rfl ?_
  refine seq_one (op_val (v := .slice none 0 0) hf11 rfl rfl rfl rfl rfl rfl (r_assign rfl) fun ac11 hf12 => ?_)
  refine seq_one (op_val (v := .bool false) hf12 rfl rfl rfl rfl rfl rfl (r_assign rfl) fun ac12 hf13 => ?_)
  refine seq_end ?_
  clear hf10 ac10 hf11 ac11 hf12
  refine then_normal ?_
  refine wp_ret ?_
  refine then_ret ?_
  exact post2 rfl hf13 rfl rfl ⟨rfl, hI3.done (fresh_keys (ks := [b1]) rfl (fk_cons hb1 fk_nil))⟩
theorem since_any {lb cb : Nat} {xs : List Int} {n k : Nat} (hl : xs.length = n) {q : Option Addr} {m caq : Nat} {ws : List Int} (hw : ws.length = m) (hn2 : n ≤ 256) (hne : lb ≠ cb) {w : World} (h0_ : Has [(lb, arr .u64 xs, 24), (cb, #[.slice (some ⟨lb, 0, none⟩) n n, .int .i64 (k : Int)], 58)] w) (hq : Rd w .u64 q ws) : Calls Try.prog 18 [.pointer (some ⟨cb, 0, none⟩), .slice q m caq].toArray w fun e w' => ∃ S p cp, e = .returned (.tuple #[.slice p (sinceR xs ws n m k).1.length cp, .int .i64 (sinceR xs ws n m k).2]) ∧ Sl 24 .u64 S p cp (sinceR xs ws n m k).1 ∧ Inv w S w' ∧ ∀ x ∈ S, w.heap.size ≤ x.1 := by
  unfold sinceR
  by_cases hm : m = n
  · rw [if_neg (by simpa using hm)]
    by_cases hk : (List.range n).all (fun j => (aheadF (xs.getD j 0) (ws.getD j 0) (k : Int)).2 == 0) = true
    · rw [if_pos hk]; exact since_ok hl hw hm hn2 (all_ok hk) hne h0_ hq
    · rw [if_neg hk]; exact (since_bad hl hw hm hn2 (not_ok hk) hne h0_ hq).mono fun e w' h => ⟨[], none, 0, h.1, Sl.nil, h.2, fun _ h => by cases h⟩
  · rw [if_pos hm]; exact (since_n hl hm hne h0_).mono fun e w' h => ⟨[], none, 0, h.1, Sl.nil, h.2, fun _ h => by cases h⟩
theorem sinceR_any {rb cap n k : Nat} {xs : List Int} (hl : xs.length = n) {q : Option Addr} {m caq : Nat} {ws : List Int} (hw : ws.length = m) (hn2 : n ≤ 256) (hxs : ∀ j, j < n → 0 ≤ xs.getD j 0 ∧ xs.getD j 0 < 18446744073709551616) (hws : InK .u64 ws) {w : World} (hr : Rd w .u64 (some ⟨rb, 0, none⟩) xs) (hq : Rd w .u64 q ws) : Calls Try.prog 19 [.agg #[.int .i64 (k : Int), .slice (some ⟨rb, 0, none⟩) n cap], .slice q m caq].toArray w fun e w' => ∃ S p cp, e = .returned (.tuple #[.slice p (sinceR xs ws n m k).1.length cp, .bool ((sinceR xs ws n m k).2 == 0)]) ∧ Sl 24 .u64 S p cp (sinceR xs ws n m k).1 ∧ Inv w S w' ∧ ∀ x ∈ S, w.heap.size ≤ x.1 := by
  unfold sinceR
  by_cases hm : m = n
  · rw [if_neg (by simpa using hm)]
    by_cases hk : (List.range n).all (fun j => (aheadF (xs.getD j 0) (ws.getD j 0) (k : Int)).2 == 0) = true
    · rw [if_pos hk]; exact sinceR_ok hl hw hm hn2 hxs hws (all_ok hk) hr hq
    · rw [if_neg hk]; exact (sinceR_bad hl hw hm hn2 hxs hws (not_ok hk) hr hq).mono fun e w' h => ⟨[], none, 0, h.1, Sl.nil, h.2, fun _ h => by cases h⟩
  · rw [if_pos hm]; exact (sinceR_n hl hw hm hn2 hxs hws hr hq).mono fun e w' h => ⟨[], none, 0, h.1, Sl.nil, h.2, fun _ h => by cases h⟩
theorem get_any {lb cb : Nat} {xs : List Int} {n : Nat} {k : Int} (hl : xs.length = n) {i : Int} (hne : lb ≠ cb) {w : World} (h0_ : Has [(lb, arr .u64 xs, 24), (cb, #[.slice (some ⟨lb, 0, none⟩) n n, .int .i64 k], 58)] w) : Calls Try.prog 21 [.pointer (some ⟨cb, 0, none⟩), .int .i64 i].toArray w fun e w' => e = .returned (.tuple #[.int .u64 (getV xs n i), .bool (decide (0 ≤ i ∧ i < (n : Int)))]) ∧ Inv w [] w' := by
  unfold getV
  by_cases hi : 0 ≤ i ∧ i < (n : Int)
  · rw [if_pos hi, decide_eq_true hi]
    obtain ⟨j, rfl⟩ := Int.eq_ofNat_of_zero_le hi.1
    rw [Int.toNat_natCast]
    exact get_in hl (by omega) hne h0_
  · rw [if_neg hi, decide_eq_false hi]
    exact get_out hl (by omega) hne h0_
end Go.Proofs.Ytohkdjaobdgenaa
