/-
  Drain of count, and the law's own same: what each call comes to.
-/
import Derived.Test.YtohkdjaobdgenaaFns
namespace Go.Proofs.Ytohkdjaobdgenaa
set_option linter.unusedVariables false
set_option linter.unusedSimpArgs false
set_option maxRecDepth 100000
open Go.RowKit
set_option maxHeartbeats 8000000 in
theorem same_walk {p q : Option Addr} {cap caq n m : Nat} {xs ys : List Int} (hl : xs.length = n) (hm : ys.length = m) (hlx : n ≤ 1000000) {w : World} (hp : Rd w .u64 p xs) (hq : Rd w .u64 q ys) : Calls Try.prog 15 [.slice p n cap, .slice q m caq].toArray w fun e w' => e = .returned (.bool (xs == ys)) ∧ Inv w [] w' := by
  subst hl
  subst hm
  have hI1 := Inv.start w
  refine enter (n := 26) Try.func15 rfl rfl rfl ?_
  intro ac1 hf1
  refine code_seq ?_
  refine seq_start (l := [0]) rfl ?_
  refine seq_one (op_val (v := .bool false) hf1 rfl rfl rfl rfl rfl rfl (r_assign rfl) fun ac2 hf2 => ?_)
  refine seq_end ?_
  clear ac1 hf1
  refine then_normal ?_
  refine code_seq ?_
  refine code_seq ?_
  refine seq_start (l := [0, 1, 2, 3, 4]) rfl ?_
  refine seq_one (op_val (v := .slice p xs.length cap) hf2 rfl rfl rfl rfl rfl rfl (r_move rfl) fun ac3 hf3 => ?_)
  refine seq_one (op_val (v := .int .i64 (xs.length : Int)) hf3 rfl rfl rfl rfl rfl rfl (r_len sl_23 rfl) fun ac4 hf4 => ?_)
  refine seq_one (op_val (v := .slice q ys.length caq) hf4 rfl rfl rfl rfl rfl rfl (r_move rfl) fun ac5 hf5 => ?_)
  refine seq_one (op_val (v := .int .i64 (ys.length : Int)) hf5 rfl rfl rfl rfl rfl rfl (r_len sl_23 rfl) fun ac6 hf6 => ?_)
  refine seq_one (op_val (v := .bool ((xs.length : Int) != (ys.length : Int))) hf6 rfl rfl rfl rfl rfl rfl (r_neq rfl rfl) fun ac7 hf7 => ?_)
  refine seq_end ?_
  clear ac2 hf2 ac3 hf3 ac4 hf4 ac5 hf5 ac6 hf6
  refine then_normal ?_
  refine code_if hf7 rfl (fun c10_1 => ?_) (fun c10_1 => ?_)
  · have hf8 := hf7.know 10 (u := .bool true) rfl (congrArg Value.bool c10_1)
    refine code_seq ?_
    refine seq_start (l := [0]) rfl ?_
    refine seq_one (op_val (v := .bool false) hf8 rfl rfl rfl rfl rfl rfl (r_assign rfl) fun ac8 hf9 => ?_)
    refine seq_end ?_
    clear hf7 ac7 hf8
    refine then_normal ?_
    refine wp_ret ?_
    refine then_ret ?_
    refine post1 rfl hf9 rfl ⟨?_, hI1⟩
    rw [same_n (bne_iff_ne.1 c10_1)]
  · have hf10 := hf7.know 10 (u := .bool false) rfl (congrArg Value.bool c10_1)
    refine wp_skip ?_
    refine then_normal ?_
    refine code_seq ?_
    refine code_seq ?_
    refine seq_start (l := [0, 1, 2]) rfl ?_
    refine seq_one (op_val (v := .slice p xs.length cap) hf10 rfl rfl rfl rfl rfl rfl (r_move rfl) fun ac9 hf11 => ?_)
    refine seq_one (op_val (v := .int .i64 (xs.length : Int)) hf11 rfl rfl rfl rfl rfl rfl (r_len sl_23 rfl) fun ac10 hf12 => ?_)
    refine seq_one (op_val (v := .int .i64 0) hf12 rfl rfl rfl rfl rfl rfl (r_move rfl) fun ac11 hf13 => ?_)
    refine seq_end ?_
    clear hf7 ac7 hf10 ac9 hf11 ac10 hf12
    refine then_normal ?_
    refine wp_block ?_
    refine code_loop (α := Nat) (fun (i : Nat) => [(0, .slice p xs.length cap), (1, .slice q ys.length caq), (6, .slice p xs.length cap), (7, .int .i64 (xs.length : Int)), (8, .slice q ys.length caq), (9, .int .i64 (ys.length : Int)), (10, .bool false), (11, .slice p xs.length cap), (12, .int .i64 (xs.length : Int)), (13, .int .i64 (i : Int))]) (fun (i : Nat) => fun wL => Inv w [] wL ∧ (i ≤ xs.length ∧ xs.take i = ys.take i)) (fun (i : Nat) => xs.length - i) 0 (hf13.cons 0 rfl (hf13.cons 1 rfl (hf13.cons 6 rfl (hf13.cons 7 rfl (hf13.cons 8 rfl (hf13.cons 9 rfl (hf13.cons 10 rfl (hf13.cons 11 rfl (hf13.cons 12 rfl (hf13.cons 13 rfl hf13.nil)))))))))) ⟨hI1, ⟨Nat.zero_le _, rfl⟩⟩ ?_
    intro i ac12 wd1 hf14 hL1
    obtain ⟨hI2, hx1⟩ := hL1
    clear ac11 hf13 hI1
    have hn : xs.length = ys.length := by have := bne_eq_false_iff_eq.1 c10_1; omega
    refine code_seq ?_
    refine seq_start (l := [0]) rfl ?_
    refine seq_one (op_val (v := .bool (decide ((i : Int) < (xs.length : Int)))) hf14 rfl rfl rfl rfl rfl rfl (r_lss rfl rfl) fun ac13 hf15 => ?_)
    refine seq_end ?_
    clear ac12 hf14
    refine then_normal ?_
    refine code_seq ?_
    refine code_if hf15 rfl (fun c14_2 => ?_) (fun c14_2 => ?_)
    · have hf16 := hf15.know 14 (u := .bool true) rfl (congrArg Value.bool c14_2)
      refine wp_skip ?_
      refine then_normal ?_
      refine code_seq ?_
      refine wp_block ?_
      refine code_seq ?_
      refine seq_start (l := [0, 1]) rfl ?_
      refine seq_one (op_val (v := .int .i64 (i : Int)) hf16 rfl rfl rfl rfl rfl rfl (r_move rfl) fun ac14 hf17 => ?_)
      refine seq_one (op_val (v := .int .i64 (i : Int)) hf17 rfl rfl rfl rfl rfl rfl (r_assign rfl) fun ac15 hf18 => ?_)
      refine seq_end ?_
      clear hf15 ac13 hf16 ac14 hf17
      refine then_normal ?_
      refine code_seq ?_
      refine any_start (fun w => Has [] w) follows (Has.drew Has.nil) ?_
      have hS1 : ∀ {w : World}, Has [] w := Has.nil
      have hI3 := hI2.drew
      refine any_val (i := 0) (v := .slice p xs.length cap) hf18 rfl rfl rfl rfl rfl rfl (fun _ _ _ h => h) (by kernel_rfl) (by kernel_rfl) (by kernel_rfl) (fun wd1 hS1 => (r_move rfl)) hS1 fun ac16 hf19 => ?_
      refine any_val (i := 1) (v := .int .i64 (i : Int)) hf19 rfl rfl rfl rfl rfl rfl (fun _ _ _ h => h) (by kernel_rfl) (by kernel_rfl) (by kernel_rfl) (fun wd1 hS1 => (r_move rfl)) hS1 fun ac17 hf20 => ?_
      refine any_val (i := 2) (v := .pointer (slAt p i)) hf20 rfl rfl rfl rfl rfl rfl (fun _ _ _ h => h) (by kernel_rfl) (by kernel_rfl) (by kernel_rfl) (fun wd1 hS1 => (r_indexAddrV (i := i) sl_23 rfl rfl rfl (by have := of_decide_eq_true c14_2; omega) (let r := (hp.old hI3 (fun _ h => by cases h)) i (by have := of_decide_eq_true c14_2; omega); ⟨r.choose, r.choose_spec.1⟩))) hS1 fun ac18 hf21 => ?_
      refine any_val (i := 4) (v := .slice q ys.length caq) hf21 rfl rfl rfl rfl rfl rfl (fun _ _ _ h => h) (by kernel_rfl) (by kernel_rfl) (by kernel_rfl) (fun wd1 hS1 => (r_move rfl)) hS1 fun ac19 hf22 => ?_
      refine any_val (i := 5) (v := .int .i64 (i : Int)) hf22 rfl rfl rfl rfl rfl rfl (fun _ _ _ h => h) (by kernel_rfl) (by kernel_rfl) (by kernel_rfl) (fun wd1 hS1 => (r_move rfl)) hS1 fun ac20 hf23 => ?_
      refine any_val (i := 6) (v := .pointer (slAt q i)) hf23 rfl rfl rfl rfl rfl rfl (fun _ _ _ h => h) (by kernel_rfl) (by kernel_rfl) (by kernel_rfl) (fun wd1 hS1 => (r_indexAddrV (i := i) sl_23 rfl rfl rfl (by have := of_decide_eq_true c14_2; omega) (let r := (hq.old hI3 (fun _ h => by cases h)) i (by have := of_decide_eq_true c14_2; omega); ⟨r.choose, r.choose_spec.1⟩))) hS1 fun ac21 hf24 => ?_
      refine any_two (i := 3) (j := 7) (by kernel_rfl) ?_ ?_
      ·
        refine op_val (v := .int .u64 (xs.getD i 0)) hf24 rfl rfl rfl rfl rfl rfl (r_loadV ag_24 rfl (hp.old hI3 (fun _ h => by cases h)) (by have := of_decide_eq_true c14_2; omega)) fun ac22 hf25 => ⟨?_, ?_⟩
        · exact Has.nil
        have hS2 : ∀ {w : World}, Has [] w := Has.nil
        refine any_one (i := 7) (by kernel_rfl) ?_
        refine op_val (v := .int .u64 (ys.getD i 0)) hf25 rfl rfl rfl rfl rfl rfl (r_loadV ag_24 rfl (hq.old hI3 (fun _ h => by cases h)) (by have := of_decide_eq_true c14_2; omega)) fun ac23 hf26 => ⟨?_, ?_⟩
        · exact Has.nil
        have hS3 : ∀ {w : World}, Has [] w := Has.nil
        refine any_val (i := 8) (v := .bool ((xs.getD i 0) != (ys.getD i 0))) hf26 rfl rfl rfl rfl rfl rfl (fun _ _ _ h => h) (by kernel_rfl) (by kernel_rfl) (by kernel_rfl) (fun wd1 hS3 => (r_neq rfl rfl)) hS3 fun ac24 hf27 => ?_
        refine any_end (by kernel_rfl) ?_
        clear hI2 ac15 hf18 ac16 hf19 ac17 hf20 ac18 hf21 ac19 hf22 ac20 hf23 ac21 hf24 hS1 ac22 hf25 hS2 ac23 hf26 hS3
        refine then_normal ?_
        refine code_if hf27 rfl (fun c24_3 => ?_) (fun c24_3 => ?_)
        · have hf28 := hf27.know 24 (u := .bool true) rfl (congrArg Value.bool c24_3)
          refine code_seq ?_
          refine seq_start (l := [0]) rfl ?_
          refine seq_one (op_val (v := .bool false) hf28 rfl rfl rfl rfl rfl rfl (r_assign rfl) fun ac25 hf29 => ?_)
          refine seq_end ?_
          clear hf27 ac24 hf28
          refine then_normal ?_
          refine wp_ret ?_
          refine block_ret ?_
          refine then_ret ?_
          refine then_ret ?_
          refine block_ret ?_
          refine then_ret ?_
          refine post1 rfl hf29 rfl ⟨?_, hI3⟩
          rw [same_f (by have := of_decide_eq_true c14_2; omega) (bne_iff_ne.1 c24_3)]
        · have hf30 := hf27.know 24 (u := .bool false) rfl (congrArg Value.bool c24_3)
          refine wp_skip ?_
          refine block_normal ?_
          refine then_normal ?_
          refine seq_start (l := [0, 1]) rfl ?_
          refine seq_one (op_val (v := .int .i64 ((i + 1 : Nat) : Int)) hf30 rfl rfl rfl rfl rfl rfl (r_add (c := ((i + 1 : Nat) : Int)) rfl rfl (wrap_i64 (by omega) (by have := hx1.1; have := hlx; omega))) fun ac26 hf31 => ?_)
          refine seq_one (op_val (v := .int .i64 ((i + 1 : Nat) : Int)) hf31 rfl rfl rfl rfl rfl rfl (r_move rfl) fun ac27 hf32 => ?_)
          refine seq_end ?_
          clear hf27 ac24 hf30 ac26 hf31
          refine then_normal ?_
          exact ⟨i + 1, (hf32.cons 0 rfl (hf32.cons 1 rfl (hf32.cons 6 rfl (hf32.cons 7 rfl (hf32.cons 8 rfl (hf32.cons 9 rfl (hf32.cons 10 rfl (hf32.cons 11 rfl (hf32.cons 12 rfl (hf32.cons 13 rfl hf32.nil)))))))))), ⟨hI3, ⟨by have := of_decide_eq_true c14_2; omega, same_s hx1.2 (bne_eq_false_iff_eq.1 c24_3) (by have := of_decide_eq_true c14_2; omega) (by have := of_decide_eq_true c14_2; omega)⟩⟩, (by have := of_decide_eq_true c14_2; show xs.length - (i + 1) < xs.length - i; omega)⟩
      ·
        refine op_val (v := .int .u64 (ys.getD i 0)) hf24 rfl rfl rfl rfl rfl rfl (r_loadV ag_24 rfl (hq.old hI3 (fun _ h => by cases h)) (by have := of_decide_eq_true c14_2; omega)) fun ac28 hf33 => ⟨?_, ?_⟩
        · exact Has.nil
        have hS4 : ∀ {w : World}, Has [] w := Has.nil
        refine any_one (i := 3) (by kernel_rfl) ?_
        refine op_val (v := .int .u64 (xs.getD i 0)) hf33 rfl rfl rfl rfl rfl rfl (r_loadV ag_24 rfl (hp.old hI3 (fun _ h => by cases h)) (by have := of_decide_eq_true c14_2; omega)) fun ac29 hf34 => ⟨?_, ?_⟩
        · exact Has.nil
        have hS5 : ∀ {w : World}, Has [] w := Has.nil
        refine any_val (i := 8) (v := .bool ((xs.getD i 0) != (ys.getD i 0))) hf34 rfl rfl rfl rfl rfl rfl (fun _ _ _ h => h) (by kernel_rfl) (by kernel_rfl) (by kernel_rfl) (fun wd1 hS5 => (r_neq rfl rfl)) hS5 fun ac30 hf35 => ?_
        refine any_end (by kernel_rfl) ?_
        clear hI2 ac15 hf18 ac16 hf19 ac17 hf20 ac18 hf21 ac19 hf22 ac20 hf23 ac21 hf24 hS1 ac28 hf33 hS4 ac29 hf34 hS5
        refine then_normal ?_
        refine code_if hf35 rfl (fun c24_4 => ?_) (fun c24_4 => ?_)
        · have hf36 := hf35.know 24 (u := .bool true) rfl (congrArg Value.bool c24_4)
          refine code_seq ?_
          refine seq_start (l := [0]) rfl ?_
          refine seq_one (op_val (v := .bool false) hf36 rfl rfl rfl rfl rfl rfl (r_assign rfl) fun ac31 hf37 => ?_)
          refine seq_end ?_
          clear hf35 ac30 hf36
          refine then_normal ?_
          refine wp_ret ?_
          refine block_ret ?_
          refine then_ret ?_
          refine then_ret ?_
          refine block_ret ?_
          refine then_ret ?_
          refine post1 rfl hf37 rfl ⟨?_, hI3⟩
          rw [same_f (by have := of_decide_eq_true c14_2; omega) (bne_iff_ne.1 c24_4)]
        · have hf38 := hf35.know 24 (u := .bool false) rfl (congrArg Value.bool c24_4)
          refine wp_skip ?_
          refine block_normal ?_
          refine then_normal ?_
          refine seq_start (l := [0, 1]) rfl ?_
          refine seq_one (op_val (v := .int .i64 ((i + 1 : Nat) : Int)) hf38 rfl rfl rfl rfl rfl rfl (r_add (c := ((i + 1 : Nat) : Int)) rfl rfl (wrap_i64 (by omega) (by have := hx1.1; have := hlx; omega))) fun ac32 hf39 => ?_)
          refine seq_one (op_val (v := .int .i64 ((i + 1 : Nat) : Int)) hf39 rfl rfl rfl rfl rfl rfl (r_move rfl) fun ac33 hf40 => ?_)
          refine seq_end ?_
          clear hf35 ac30 hf38 ac32 hf39
          refine then_normal ?_
          exact ⟨i + 1, (hf40.cons 0 rfl (hf40.cons 1 rfl (hf40.cons 6 rfl (hf40.cons 7 rfl (hf40.cons 8 rfl (hf40.cons 9 rfl (hf40.cons 10 rfl (hf40.cons 11 rfl (hf40.cons 12 rfl (hf40.cons 13 rfl hf40.nil)))))))))), ⟨hI3, ⟨by have := of_decide_eq_true c14_2; omega, same_s hx1.2 (bne_eq_false_iff_eq.1 c24_4) (by have := of_decide_eq_true c14_2; omega) (by have := of_decide_eq_true c14_2; omega)⟩⟩, (by have := of_decide_eq_true c14_2; show xs.length - (i + 1) < xs.length - i; omega)⟩
    · have hf41 := hf15.know 14 (u := .bool false) rfl (congrArg Value.bool c14_2)
      refine wp_exit ?_
      refine then_exit ?_
      refine then_exit ?_
      refine block_here ?_
      refine then_normal ?_
      refine code_seq ?_
      refine seq_start (l := [0]) rfl ?_
      refine seq_one (op_val (v := .bool true) hf41 rfl rfl rfl rfl rfl rfl (r_assign rfl) fun ac34 hf42 => ?_)
      refine seq_end ?_
      clear hf15 ac13 hf41
      refine then_normal ?_
      refine wp_ret ?_
      refine post1 rfl hf42 rfl ⟨?_, hI2⟩
      rw [same_t (hx1.2) (by have := of_decide_eq_false c14_2; omega) hn]
set_option maxHeartbeats 8000000 in
theorem drain_walk {lb cb : Nat} {xs : List Int} {n : Nat} {k : Int} (hl : xs.length = n) (hn1 : 1 ≤ n) (hn2 : n ≤ 256) (hne : lb ≠ cb) {w : World} (h0_ : Has [(lb, arr .u64 xs, 24), (cb, #[.slice (some ⟨lb, 0, none⟩) n n, .int .i64 k], 58)] w) : Calls Try.prog 14 [.pointer (some ⟨cb, 0, none⟩)].toArray w fun e w' => ∃ b m, w.heap.size ≤ b ∧ n + m ≤ maxLen ∧ e = .returned (.slice (some ⟨b, 0, none⟩) n (n + m)) ∧ Inv w [(lb, arr .u64 (List.replicate n 0), 24), (cb, #[.slice (some ⟨lb, 0, none⟩) n n, .int .i64 k], 58), (b, arr .u64 (xs ++ List.replicate m 0), 24)] w' := by
  have hI1 := Inv.startS h0_ (by simp [hne])
  refine enter (n := 14) Try.func14 rfl rfl rfl ?_
  intro ac1 hf1
  refine code_seq ?_
  refine seq_start (l := [0]) rfl ?_
  refine seq_one (op_val (v := .slice none 0 0) hf1 rfl rfl rfl rfl rfl rfl (r_assign rfl) fun ac2 hf2 => ?_)
  refine seq_end ?_
  clear ac1 hf1
  refine then_normal ?_
  refine code_seq ?_
  refine seq_start (l := [0, 1, 2]) rfl ?_
  refine seq_one (op_val (v := .pointer (some ⟨cb, 0, none⟩)) hf2 rfl rfl rfl rfl rfl rfl (r_move rfl) fun ac3 hf3 => ?_)
  refine seq_one (op_call (R := fun v w' => ∃ b m, Array.size (World.heap _) ≤ b ∧ n + m ≤ maxLen ∧ v = .slice (some ⟨b, 0, none⟩) n (n + m) ∧ Inv _ [(b, arr .u64 (xs ++ List.replicate m 0), 24)] w') hf3 rfl rfl rfl rfl ca_20 ((all_walk hl hn1 hn2 (hI1.ne (i := 0) (j := 1) rfl rfl (by decide)) (Has.cons (hI1.at 0 rfl) (Has.cons (hI1.at 1 rfl) Has.nil))).mono fun e w' ⟨b, m, h1, h2, h3, h4⟩ => ⟨_, h3, b, m, h1, h2, rfl, h4⟩) fun ac4 v wd1 hR hf4 => ?_)
  obtain ⟨b1, m1, hqb1, hm1, rfl, hwb1⟩ := hR
  have hb1 := Nat.le_trans hI1.size hqb1
  have hI2 : Inv w [(lb, arr .u64 xs, 24), (cb, #[.slice (some ⟨lb, 0, none⟩) n n, .int .i64 k], 58), (b1, arr .u64 (xs ++ List.replicate m1 0), 24)] _ := hI1.callN hwb1 (fun x hx => by simp only [List.mem_singleton] at hx; subst hx; exact hqb1)
  refine seq_one (op_val (v := .slice (some ⟨b1, 0, none⟩) n (n + m1)) hf4 rfl rfl rfl rfl rfl rfl (r_assign rfl) fun ac5 hf5 => ?_)
  refine seq_end ?_
  clear ac2 hf2 ac3 hf3 hI1 hwb1 hqb1 ac4 hf4
  refine then_normal ?_
  refine code_seq ?_
  refine code_seq ?_
  refine seq_start (l := [0, 1, 2]) rfl ?_
  refine seq_one (op_val (v := .pointer (some ⟨cb, 0, none⟩)) hf5 rfl rfl rfl rfl rfl rfl (r_move rfl) fun ac6 hf6 => ?_)
  refine seq_one (op_pureW hf6 rfl rfl rfl rfl ca_25 (none_walk hl (hI2.ne (i := 0) (j := 1) rfl rfl (by decide)) (Has.cons (hI2.at 0 rfl) (Has.cons (hI2.at 1 rfl) Has.nil))) hI2 fun ac7 wd2 hI3 hf7 => ?_)
  refine seq_one (op_val (v := .bool true) hf7 rfl rfl rfl rfl rfl rfl ((r_not (b := false) rfl).trans rfl) fun ac8 hf8 => ?_)
  refine seq_end ?_
  clear ac5 hf5 ac6 wd1 hI2 hf6 ac7 hf7
  refine then_normal ?_
  refine code_if_true hf8 rfl ?_
  refine seq_start (l := [0, 1, 2, 3, 4]) rfl ?_
  refine seq_one (op_val (v := .pointer (some ⟨cb, 0, none⟩)) hf8 rfl rfl rfl rfl rfl rfl (r_move rfl) fun ac9 hf9 => ?_)
  refine seq_one (op_val (v := .pointer (some ⟨cb, 0, none⟩)) hf9 rfl rfl rfl rfl rfl rfl (r_nilCheck rfl) fun ac10 hf10 => ?_)
  refine seq_one (op_val (v := .pointer (some ⟨cb, 0, none⟩)) hf10 rfl rfl rfl rfl rfl rfl (r_fieldAddr fi_58_0 rfl rfl) fun ac11 hf11 => ?_)
  refine seq_one (op_val (v := .slice (some ⟨lb, 0, none⟩) n n) hf11 rfl rfl rfl rfl rfl rfl (r_load ag_23 rfl (hI3.at 1 rfl) rfl) fun ac12 hf12 => ?_)
  refine seq_one (op_clear (m := n) (xs := xs) 0 hf12 rfl rfl us_23 if_24 rfl hn1 hl hI3 rfl fun wd3 hI4 => ?_)
  have hI5 : Inv w [(lb, arr .u64 (List.replicate n 0), 24), (cb, #[.slice (some ⟨lb, 0, none⟩) n n, .int .i64 k], 58), (b1, arr .u64 (xs ++ List.replicate m1 0), 24)] wd3 := hI4
  refine seq_end ?_
  clear ac8 hf8 ac9 hf9 ac10 hf10 ac11 hf11 wd2 hI3 hI4
  refine then_normal ?_
  refine code_seq ?_
  refine seq_start (l := [0, 1]) rfl ?_
  refine seq_one (op_val (v := .slice (some ⟨b1, 0, none⟩) n (n + m1)) hf12 rfl rfl rfl rfl rfl rfl (r_move rfl) fun ac13 hf13 => ?_)
  refine seq_one (op_val (v := .slice (some ⟨b1, 0, none⟩) n (n + m1)) hf13 rfl rfl rfl rfl rfl rfl (r_assign rfl) fun ac14 hf14 => ?_)
  refine seq_end ?_
  clear ac12 hf12 ac13 hf13
  refine then_normal ?_
  refine wp_ret ?_
  exact post1 rfl hf14 rfl ⟨b1, m1, hb1, hm1, rfl, hI5⟩
end Go.Proofs.Ytohkdjaobdgenaa
