/-
  What is done to a counter: what each call comes to.
-/
import Derived.Test.YtohkdjaobdgenaaFns2
namespace Go.Proofs.Ytohkdjaobdgenaa
set_option linter.unusedVariables false
set_option linter.unusedSimpArgs false
set_option maxRecDepth 100000
open Go.RowKit
set_option maxHeartbeats 8000000 in
theorem addc_walk {lb cb pb vb n k j : Nat} {xs : List Int} {am : Int} (hl : xs.length = n) (hj : j < n) (hk1 : 1 ≤ k) (hk2 : k ≤ 64) (hnd : ([(lb, arr .u64 xs, 24), (cb, #[.slice (some ⟨lb, 0, none⟩) n n, .int .i64 (k : Int)], 58), (pb, #[.pointer (some ⟨cb, 0, none⟩)], 30), (vb, #[.int .u64 am], 24)] : List Blk).Pairwise fun x y => x.1 ≠ y.1) {w : World} (h0_ : Has [(lb, arr .u64 xs, 24), (cb, #[.slice (some ⟨lb, 0, none⟩) n n, .int .i64 (k : Int)], 58), (pb, #[.pointer (some ⟨cb, 0, none⟩)], 30), (vb, #[.int .u64 am], 24)] w) : Calls Try.prog 27 [.pointer (some ⟨lb, j, none⟩), .pointer (some ⟨vb, 0, none⟩), .pointer (some ⟨pb, 0, none⟩)].toArray w fun e w' => e = .returned (.tuple #[]) ∧ Inv w [(lb, arr .u64 (xs.set j ((xs.getD j 0 + am) % pw k)), 24), (cb, #[.slice (some ⟨lb, 0, none⟩) n n, .int .i64 (k : Int)], 58), (pb, #[.pointer (some ⟨cb, 0, none⟩)], 30), (vb, #[.int .u64 am], 24)] w' := by
  have hI1 := Inv.startS h0_ hnd
  refine enter (n := 17) Try.func27 rfl rfl rfl ?_
  intro ac1 hf1
  refine any_start (fun w => Has [(pb, #[.pointer (some ⟨cb, 0, none⟩)], 30), (vb, #[.int .u64 am], 24)] w) follows (Has.drew (Has.cons (hI1.at 2 rfl) (Has.cons (hI1.at 3 rfl) Has.nil))) ?_
  have hS1 : Has [(pb, #[.pointer (some ⟨cb, 0, none⟩)], 30), (vb, #[.int .u64 am], 24)] _ := Has.drew (Has.cons (hI1.at 2 rfl) (Has.cons (hI1.at 3 rfl) Has.nil))
  have hI2 := hI1.drew
  refine any_val (i := 0) (v := .pointer (some ⟨lb, j, none⟩)) hf1 rfl rfl rfl rfl rfl rfl (fun _ _ _ h => h) (by kernel_rfl) (by kernel_rfl) (by kernel_rfl) (fun w hS1 => (r_move rfl)) hS1 fun ac2 hf2 => ?_
  refine any_val (i := 1) (v := .pointer (some ⟨lb, j, none⟩)) hf2 rfl rfl rfl rfl rfl rfl (fun _ _ _ h => h) (by kernel_rfl) (by kernel_rfl) (by kernel_rfl) (fun w hS1 => (r_move rfl)) hS1 fun ac3 hf3 => ?_
  refine any_val (i := 2) (v := .pointer (some ⟨lb, j, none⟩)) hf3 rfl rfl rfl rfl rfl rfl (fun _ _ _ h => h) (by kernel_rfl) (by kernel_rfl) (by kernel_rfl) (fun w hS1 => (r_nilCheck rfl)) hS1 fun ac4 hf4 => ?_
  refine any_val (i := 4) (v := .int .u64 am) hf4 rfl rfl rfl rfl rfl rfl (fun _ _ _ h => h) (by kernel_rfl) (by kernel_rfl) (by kernel_rfl) (fun w hS1 => (r_load ag_24 rfl (hS1.at 1 rfl) rfl)) hS1 fun ac5 hf5 => ?_
  refine any_val (i := 6) (v := .pointer (some ⟨cb, 0, none⟩)) hf5 rfl rfl rfl rfl rfl rfl (fun _ _ _ h => h) (by kernel_rfl) (by kernel_rfl) (by kernel_rfl) (fun w hS1 => (r_load ag_30 rfl (hS1.at 0 rfl) rfl)) hS1 fun ac6 hf6 => ?_
  refine any_val (i := 7) (v := .pointer (some ⟨cb, 0, none⟩)) hf6 rfl rfl rfl rfl rfl rfl (fun _ _ _ h => h) (by kernel_rfl) (by kernel_rfl) (by kernel_rfl) (fun w hS1 => (r_nilCheck rfl)) hS1 fun ac7 hf7 => ?_
  refine any_val (i := 8) (v := .pointer (some ⟨cb, 1, none⟩)) hf7 rfl rfl rfl rfl rfl rfl (fun _ _ _ h => h) (by kernel_rfl) (by kernel_rfl) (by kernel_rfl) (fun w hS1 => (r_fieldAddr fi_58_1 rfl rfl)) hS1 fun ac8 hf8 => ?_
  refine any_two (i := 3) (j := 9) (by kernel_rfl) ?_ ?_
  ·
    refine op_val (v := .int .u64 (xs.getD j 0)) hf8 rfl rfl rfl rfl rfl rfl (r_load ag_24 rfl (hI2.at 0 rfl) (arr_get (Nat.lt_of_lt_of_eq hj (Eq.symm hl)))) fun ac9 hf9 => ⟨?_, ?_⟩
    · exact (Has.cons (hI2.at 2 rfl) (Has.cons (hI2.at 3 rfl) Has.nil))
    have hS2 : Has [(pb, #[.pointer (some ⟨cb, 0, none⟩)], 30), (vb, #[.int .u64 am], 24)] _ := (Has.cons (hI2.at 2 rfl) (Has.cons (hI2.at 3 rfl) Has.nil))
    refine any_val (i := 5) (v := .int .u64 (IntKind.wrap .u64 ((xs.getD j 0) + am))) hf9 rfl rfl rfl rfl rfl rfl (fun _ _ _ h => h) (by kernel_rfl) (by kernel_rfl) (by kernel_rfl) (fun w hS2 => (r_add rfl rfl rfl)) hS2 fun ac10 hf10 => ?_
    refine any_one (i := 9) (by kernel_rfl) ?_
    refine op_val (v := .int .i64 (k : Int)) hf10 rfl rfl rfl rfl rfl rfl (r_load ag_3 rfl (hI2.at 1 rfl) rfl) fun ac11 hf11 => ⟨?_, ?_⟩
    · exact (Has.cons (hI2.at 2 rfl) (Has.cons (hI2.at 3 rfl) Has.nil))
    have hS3 : Has [(pb, #[.pointer (some ⟨cb, 0, none⟩)], 30), (vb, #[.int .u64 am], 24)] _ := (Has.cons (hI2.at 2 rfl) (Has.cons (hI2.at 3 rfl) Has.nil))
    refine any_one (i := 10) (by kernel_rfl) ?_
    refine (op_pure hf11 rfl rfl rfl rfl ca_23 (top_pur (k := k) hk1 hk2) hI2 fun ac12 wd1 hI3 hf12 => ⟨?_, ?_⟩)
    · exact (Has.cons (hI3.at 2 rfl) (Has.cons (hI3.at 3 rfl) Has.nil))
    have hS4 : Has [(pb, #[.pointer (some ⟨cb, 0, none⟩)], 30), (vb, #[.int .u64 am], 24)] _ := (Has.cons (hI3.at 2 rfl) (Has.cons (hI3.at 3 rfl) Has.nil))
    refine any_val (i := 11) (v := .int .u64 ((xs.getD j 0 + am) % pw k)) hf12 rfl rfl rfl rfl rfl rfl (fun _ _ _ h => h) (by kernel_rfl) (by kernel_rfl) (by kernel_rfl) (fun wd1 hS4 => (r_and (c := ((xs.getD j 0 + am) % pw k)) rfl rfl (and_wr hk1 hk2))) hS4 fun ac13 hf13 => ?_
    refine any_val (i := 12) (v := .pointer (some ⟨lb, j, none⟩)) hf13 rfl rfl rfl rfl rfl rfl (fun _ _ _ h => h) (by kernel_rfl) (by kernel_rfl) (by kernel_rfl) (fun wd1 hS4 => (r_nilCheck rfl)) hS4 fun ac14 hf14 => ?_
    refine any_one (i := 13) (by kernel_rfl) ?_
    refine (op_store (cs' := arr .u64 (xs.set j ((xs.getD j 0 + am) % pw k))) 0 hf14 rfl rfl rfl rfl rfl sz_24 hI3 rfl (Nat.lt_of_lt_of_eq hj (Eq.symm (arr_size hl))) arr_set fun wd2 hI4 => ⟨?_, ?_⟩)
    · exact (Has.cons (hI4.at 2 rfl) (Has.cons (hI4.at 3 rfl) Has.nil))
    have hI5 : Inv w [(lb, arr .u64 (xs.set j ((xs.getD j 0 + am) % pw k)), 24), (cb, #[.slice (some ⟨lb, 0, none⟩) n n, .int .i64 (k : Int)], 58), (pb, #[.pointer (some ⟨cb, 0, none⟩)], 30), (vb, #[.int .u64 am], 24)] wd2 := hI4
    have hS5 : Has [(pb, #[.pointer (some ⟨cb, 0, none⟩)], 30), (vb, #[.int .u64 am], 24)] _ := (Has.cons (hI5.at 2 rfl) (Has.cons (hI5.at 3 rfl) Has.nil))
    refine any_end (by kernel_rfl) ?_
    clear hI1 ac1 hf1 ac2 hf2 ac3 hf3 ac4 hf4 ac5 hf5 ac6 hf6 ac7 hf7 ac8 hf8 hS1 ac9 hf9 ac10 hf10 hS2 ac11 hI2 hf11 hS3 ac12 hf12 ac13 hf13 wd1 hI3 hI4 hS4 hS5
    exact post0 rfl hf14 ⟨rfl, hI5⟩
  ·
    refine op_val (v := .int .i64 (k : Int)) hf8 rfl rfl rfl rfl rfl rfl (r_load ag_3 rfl (hI2.at 1 rfl) rfl) fun ac15 hf15 => ⟨?_, ?_⟩
    · exact (Has.cons (hI2.at 2 rfl) (Has.cons (hI2.at 3 rfl) Has.nil))
    have hS6 : Has [(pb, #[.pointer (some ⟨cb, 0, none⟩)], 30), (vb, #[.int .u64 am], 24)] _ := (Has.cons (hI2.at 2 rfl) (Has.cons (hI2.at 3 rfl) Has.nil))
    refine any_two (i := 3) (j := 10) (by kernel_rfl) ?_ ?_
    ·
      refine op_val (v := .int .u64 (xs.getD j 0)) hf15 rfl rfl rfl rfl rfl rfl (r_load ag_24 rfl (hI2.at 0 rfl) (arr_get (Nat.lt_of_lt_of_eq hj (Eq.symm hl)))) fun ac16 hf16 => ⟨?_, ?_⟩
      · exact (Has.cons (hI2.at 2 rfl) (Has.cons (hI2.at 3 rfl) Has.nil))
      have hS7 : Has [(pb, #[.pointer (some ⟨cb, 0, none⟩)], 30), (vb, #[.int .u64 am], 24)] _ := (Has.cons (hI2.at 2 rfl) (Has.cons (hI2.at 3 rfl) Has.nil))
      refine any_val (i := 5) (v := .int .u64 (IntKind.wrap .u64 ((xs.getD j 0) + am))) hf16 rfl rfl rfl rfl rfl rfl (fun _ _ _ h => h) (by kernel_rfl) (by kernel_rfl) (by kernel_rfl) (fun w hS7 => (r_add rfl rfl rfl)) hS7 fun ac17 hf17 => ?_
      refine any_one (i := 10) (by kernel_rfl) ?_
      refine (op_pure hf17 rfl rfl rfl rfl ca_23 (top_pur (k := k) hk1 hk2) hI2 fun ac18 wd3 hI6 hf18 => ⟨?_, ?_⟩)
      · exact (Has.cons (hI6.at 2 rfl) (Has.cons (hI6.at 3 rfl) Has.nil))
      have hS8 : Has [(pb, #[.pointer (some ⟨cb, 0, none⟩)], 30), (vb, #[.int .u64 am], 24)] _ := (Has.cons (hI6.at 2 rfl) (Has.cons (hI6.at 3 rfl) Has.nil))
      refine any_val (i := 11) (v := .int .u64 ((xs.getD j 0 + am) % pw k)) hf18 rfl rfl rfl rfl rfl rfl (fun _ _ _ h => h) (by kernel_rfl) (by kernel_rfl) (by kernel_rfl) (fun wd3 hS8 => (r_and (c := ((xs.getD j 0 + am) % pw k)) rfl rfl (and_wr hk1 hk2))) hS8 fun ac19 hf19 => ?_
      refine any_val (i := 12) (v := .pointer (some ⟨lb, j, none⟩)) hf19 rfl rfl rfl rfl rfl rfl (fun _ _ _ h => h) (by kernel_rfl) (by kernel_rfl) (by kernel_rfl) (fun wd3 hS8 => (r_nilCheck rfl)) hS8 fun ac20 hf20 => ?_
      refine any_one (i := 13) (by kernel_rfl) ?_
      refine (op_store (cs' := arr .u64 (xs.set j ((xs.getD j 0 + am) % pw k))) 0 hf20 rfl rfl rfl rfl rfl sz_24 hI6 rfl (Nat.lt_of_lt_of_eq hj (Eq.symm (arr_size hl))) arr_set fun wd4 hI7 => ⟨?_, ?_⟩)
      · exact (Has.cons (hI7.at 2 rfl) (Has.cons (hI7.at 3 rfl) Has.nil))
      have hI8 : Inv w [(lb, arr .u64 (xs.set j ((xs.getD j 0 + am) % pw k)), 24), (cb, #[.slice (some ⟨lb, 0, none⟩) n n, .int .i64 (k : Int)], 58), (pb, #[.pointer (some ⟨cb, 0, none⟩)], 30), (vb, #[.int .u64 am], 24)] wd4 := hI7
      have hS9 : Has [(pb, #[.pointer (some ⟨cb, 0, none⟩)], 30), (vb, #[.int .u64 am], 24)] _ := (Has.cons (hI8.at 2 rfl) (Has.cons (hI8.at 3 rfl) Has.nil))
      refine any_end (by kernel_rfl) ?_
      clear hI1 ac1 hf1 ac2 hf2 ac3 hf3 ac4 hf4 ac5 hf5 ac6 hf6 ac7 hf7 ac8 hf8 hS1 ac15 hf15 hS6 ac16 hf16 ac17 hI2 hf17 hS7 ac18 hf18 ac19 hf19 wd3 hI6 hI7 hS8 hS9
      exact post0 rfl hf20 ⟨rfl, hI8⟩
    ·
      refine (op_pure hf15 rfl rfl rfl rfl ca_23 (top_pur (k := k) hk1 hk2) hI2 fun ac21 wd5 hI9 hf21 => ⟨?_, ?_⟩)
      · exact (Has.cons (hI9.at 2 rfl) (Has.cons (hI9.at 3 rfl) Has.nil))
      have hS10 : Has [(pb, #[.pointer (some ⟨cb, 0, none⟩)], 30), (vb, #[.int .u64 am], 24)] _ := (Has.cons (hI9.at 2 rfl) (Has.cons (hI9.at 3 rfl) Has.nil))
      refine any_one (i := 3) (by kernel_rfl) ?_
      refine op_val (v := .int .u64 (xs.getD j 0)) hf21 rfl rfl rfl rfl rfl rfl (r_load ag_24 rfl (hI9.at 0 rfl) (arr_get (Nat.lt_of_lt_of_eq hj (Eq.symm hl)))) fun ac22 hf22 => ⟨?_, ?_⟩
      · exact (Has.cons (hI9.at 2 rfl) (Has.cons (hI9.at 3 rfl) Has.nil))
      have hS11 : Has [(pb, #[.pointer (some ⟨cb, 0, none⟩)], 30), (vb, #[.int .u64 am], 24)] _ := (Has.cons (hI9.at 2 rfl) (Has.cons (hI9.at 3 rfl) Has.nil))
      refine any_val (i := 5) (v := .int .u64 (IntKind.wrap .u64 ((xs.getD j 0) + am))) hf22 rfl rfl rfl rfl rfl rfl (fun _ _ _ h => h) (by kernel_rfl) (by kernel_rfl) (by kernel_rfl) (fun wd5 hS11 => (r_add rfl rfl rfl)) hS11 fun ac23 hf23 => ?_
      refine any_val (i := 11) (v := .int .u64 ((xs.getD j 0 + am) % pw k)) hf23 rfl rfl rfl rfl rfl rfl (fun _ _ _ h => h) (by kernel_rfl) (by kernel_rfl) (by kernel_rfl) (fun wd5 hS11 => (r_and (c := ((xs.getD j 0 + am) % pw k)) rfl rfl (and_wr hk1 hk2))) hS11 fun ac24 hf24 => ?_
      refine any_val (i := 12) (v := .pointer (some ⟨lb, j, none⟩)) hf24 rfl rfl rfl rfl rfl rfl (fun _ _ _ h => h) (by kernel_rfl) (by kernel_rfl) (by kernel_rfl) (fun wd5 hS11 => (r_nilCheck rfl)) hS11 fun ac25 hf25 => ?_
      refine any_one (i := 13) (by kernel_rfl) ?_
      refine (op_store (cs' := arr .u64 (xs.set j ((xs.getD j 0 + am) % pw k))) 0 hf25 rfl rfl rfl rfl rfl sz_24 hI9 rfl (Nat.lt_of_lt_of_eq hj (Eq.symm (arr_size hl))) arr_set fun wd6 hI10 => ⟨?_, ?_⟩)
      · exact (Has.cons (hI10.at 2 rfl) (Has.cons (hI10.at 3 rfl) Has.nil))
      have hI11 : Inv w [(lb, arr .u64 (xs.set j ((xs.getD j 0 + am) % pw k)), 24), (cb, #[.slice (some ⟨lb, 0, none⟩) n n, .int .i64 (k : Int)], 58), (pb, #[.pointer (some ⟨cb, 0, none⟩)], 30), (vb, #[.int .u64 am], 24)] wd6 := hI10
      have hS12 : Has [(pb, #[.pointer (some ⟨cb, 0, none⟩)], 30), (vb, #[.int .u64 am], 24)] _ := (Has.cons (hI11.at 2 rfl) (Has.cons (hI11.at 3 rfl) Has.nil))
      refine any_end (by kernel_rfl) ?_
      clear hI1 ac1 hf1 ac2 hf2 ac3 hf3 ac4 hf4 ac5 hf5 ac6 hf6 ac7 hf7 ac8 hf8 hS1 ac15 hI2 hf15 hS6 ac21 hf21 hS10 ac22 hf22 ac23 hf23 ac24 hf24 wd5 hI9 hI10 hS11 hS12
      exact post0 rfl hf25 ⟨rfl, hI11⟩
set_option maxHeartbeats 8000000 in
theorem getc_walk {lb cb ob n j : Nat} {k : Int} {xs : List Int} (hl : xs.length = n) (hj : j < n) (hnd : ([(lb, arr .u64 xs, 24), (cb, #[.slice (some ⟨lb, 0, none⟩) n n, .int .i64 k], 58), (ob, #[.int .u64 0], 24)] : List Blk).Pairwise fun x y => x.1 ≠ y.1) {w : World} (h0_ : Has [(lb, arr .u64 xs, 24), (cb, #[.slice (some ⟨lb, 0, none⟩) n n, .int .i64 k], 58), (ob, #[.int .u64 0], 24)] w) : Calls Try.prog 30 [.pointer (some ⟨lb, j, none⟩), .pointer (some ⟨ob, 0, none⟩)].toArray w fun e w' => e = .returned (.tuple #[]) ∧ Inv w [(lb, arr .u64 xs, 24), (cb, #[.slice (some ⟨lb, 0, none⟩) n n, .int .i64 k], 58), (ob, #[.int .u64 (xs.getD j 0)], 24)] w' := by
  have hI1 := Inv.startS h0_ hnd
  refine enter (n := 6) Try.func30 rfl rfl rfl ?_
  intro ac1 hf1
  refine seq_start (l := [0, 1, 2, 3]) rfl ?_
  refine seq_one (op_val (v := .pointer (some ⟨lb, j, none⟩)) hf1 rfl rfl rfl rfl rfl rfl (r_move rfl) fun ac2 hf2 => ?_)
  refine seq_one (op_val (v := .pointer (some ⟨lb, j, none⟩)) hf2 rfl rfl rfl rfl rfl rfl (r_nilCheck rfl) fun ac3 hf3 => ?_)
  refine seq_one (op_val (v := .int .u64 (xs.getD j 0)) hf3 rfl rfl rfl rfl rfl rfl (r_load ag_24 rfl (hI1.at 0 rfl) (arr_get (Nat.lt_of_lt_of_eq hj (Eq.symm hl)))) fun ac4 hf4 => ?_)
  refine seq_one (op_store (cs' := #[.int .u64 (xs.getD j 0)]) 2 hf4 rfl rfl rfl rfl rfl sz_24 hI1 rfl (ltb rfl) (by kernel_rfl) fun wd1 hI2 => ?_)
  have hI3 : Inv w [(lb, arr .u64 xs, 24), (cb, #[.slice (some ⟨lb, 0, none⟩) n n, .int .i64 k], 58), (ob, #[.int .u64 (xs.getD j 0)], 24)] wd1 := hI2
  refine seq_end ?_
  clear ac1 hf1 ac2 hf2 ac3 hf3 hI1 hI2
  exact post0 rfl hf4 ⟨rfl, hI3⟩
end Go.Proofs.Ytohkdjaobdgenaa
