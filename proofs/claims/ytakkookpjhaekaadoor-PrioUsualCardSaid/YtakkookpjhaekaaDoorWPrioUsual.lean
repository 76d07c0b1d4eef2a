/-
  The walk of PrioUsual.
-/
import Derived.Test.YtakkookpjhaekaaDoorPlain
namespace Go.Proofs.YtakkookpjhaekaaDoor
set_option linter.unusedVariables false
set_option linter.unusedSimpArgs false
set_option maxRecDepth 100000
open Go.RowKit
set_option maxHeartbeats 8000000 in
theorem prioUsual_walk (p n : Int) (q : Nat) (hq : q < 16) (hp : p.tmod 16 = (q : Int)) (wfn : (Lit.int .u8 n).wf = true) (tt : TypeId) (w : World) (h0 : Has [(0, arr .u8 usualL, tt)] w) : Calls Tryd.prog 6 [.int .u8 p, .int .u8 n].toArray w fun e w' => e = .returned (.bool true) ∧ Inv w [] w' := by
  have hI1 := Inv.startS h0 (List.pairwise_singleton _ _)
  refine enter (n := 47) Tryd.func6 rfl rfl rfl ?_
  intro ac1 hf1
  refine code_seq ?_
  refine seq_start (l := [0]) rfl ?_
  refine seq_one (op_val (v := .bool false) hf1 rfl rfl rfl rfl rfl rfl (r_assign rfl) fun ac2 hf2 => ?_)
  refine seq_end ?_
  clear ac1 hf1
  refine then_normal ?_
  refine code_seq ?_
  refine seq_start (l := [0, 1, 2]) rfl ?_
  refine seq_one (op_pureW hf2 rfl rfl rfl rfl ca_19 (usual_walk tt _ (Has.cons (hI1.at 0 rfl) Has.nil)) hI1 fun ac3 wd1 hI2 hf3 => ?_)
  refine seq_one (op_alloc hf3 rfl rfl rfl ze_22 hI2 fun ac4 b1 wd2 hb1 hI3 hf4 => ?_)
  have hI4 : Inv w [(0, arr .u8 usualL, tt), (b1, #[.int .u8 0, .int .u8 0, .int .u8 0, .int .u8 0, .int .u8 0, .int .u8 0, .int .u8 0, .int .u8 0, .int .u8 0, .int .u8 0, .int .u8 0, .int .u8 0, .int .u8 0, .int .u8 0, .int .u8 0, .int .u8 0], 22)] wd2 := hI3
  refine seq_one (op_storeW (cells := arr .u8 usualL) 1 hf4 rfl rfl rfl rfl rfl sz_22 (arr_size rfl) arr_one hI4 rfl rfl fun wd3 hI5 => ?_)
  have hI6 : Inv w [(0, arr .u8 usualL, tt), (b1, arr .u8 usualL, 22)] wd3 := hI5
  refine seq_end ?_
  clear ac2 hI1 hf2 ac3 wd1 hI2 hf3 hI3 wd2 hI4 hI5
  refine then_normal ?_
  refine code_seq ?_
  refine seq_start (l := [0, 1, 2, 3, 4]) rfl ?_
  refine seq_one (op_val (v := .int .u8 p) hf4 rfl rfl rfl rfl rfl rfl (r_move rfl) fun ac5 hf5 => ?_)
  refine seq_one (op_val (v := .int .u8 (q : Int)) hf5 rfl rfl rfl rfl rfl rfl (r_rem (c := (q : Int)) rfl rfl (by omega) hp) fun ac6 hf6 => ?_)
  refine seq_one (op_val (v := .int .u8 n) hf6 rfl rfl rfl rfl rfl rfl (r_move rfl) fun ac7 hf7 => ?_)
  refine seq_one (op_val (v := .pointer (some ⟨b1, q, none⟩)) hf7 rfl rfl rfl rfl rfl rfl (r_indexAddr (i := q) ar_22 rfl rfl rfl hq (by rw [Nat.mul_one, Nat.zero_add])) fun ac8 hf8 => ?_)
  refine seq_one (op_store (cs' := arr .u8 (usualL.set q n)) 1 hf8 rfl rfl rfl rfl rfl sz_5 hI6 rfl (by rw [arr_size rfl]; exact hq) arr_set fun wd4 hI7 => ?_)
  have hI8 : Inv w [(0, arr .u8 usualL, tt), (b1, arr .u8 (usualL.set q n), 22)] wd4 := hI7
  refine seq_end ?_
  clear ac4 hf4 ac5 hf5 ac6 hf6 ac7 hf7 wd3 hI6 hI7
  refine then_normal ?_
  refine code_seq ?_
  refine seq_start (l := [0, 1, 2]) rfl ?_
  refine seq_one (op_pureW hf8 rfl rfl rfl rfl ca_19 (usual_walk tt _ (Has.cons (hI8.at 0 rfl) Has.nil)) hI8 fun ac9 wd5 hI9 hf9 => ?_)
  refine seq_one (op_alloc hf9 rfl rfl rfl ze_22 hI9 fun ac10 b2 wd6 hb2 hI10 hf10 => ?_)
  have hI11 : Inv w [(0, arr .u8 usualL, tt), (b1, arr .u8 (usualL.set q n), 22), (b2, #[.int .u8 0, .int .u8 0, .int .u8 0, .int .u8 0, .int .u8 0, .int .u8 0, .int .u8 0, .int .u8 0, .int .u8 0, .int .u8 0, .int .u8 0, .int .u8 0, .int .u8 0, .int .u8 0, .int .u8 0, .int .u8 0], 22)] wd6 := hI10
  refine seq_one (op_storeW (cells := arr .u8 usualL) 2 hf10 rfl rfl rfl rfl rfl sz_22 (arr_size rfl) arr_one hI11 rfl rfl fun wd7 hI12 => ?_)
  have hI13 : Inv w [(0, arr .u8 usualL, tt), (b1, arr .u8 (usualL.set q n), 22), (b2, arr .u8 usualL, 22)] wd7 := hI12
  refine seq_end ?_
  clear ac8 wd4 hI8 hf8 ac9 wd5 hI9 hf9 hI10 wd6 hI11 hI12
  refine then_normal ?_
  refine code_seq ?_
  refine any_start (fun w => Has [(b1, arr .u8 (usualL.set q n), 22), (b2, arr .u8 usualL, 22)] w) follows (Has.drew (Has.cons (hI13.at 1 rfl) (Has.cons (hI13.at 2 rfl) Has.nil))) ?_
  have hS1 : Has [(b1, arr .u8 (usualL.set q n), 22), (b2, arr .u8 usualL, 22)] _ := Has.drew (Has.cons (hI13.at 1 rfl) (Has.cons (hI13.at 2 rfl) Has.nil))
  have hI14 := hI13.drew
  refine any_val (i := 0) (v := .agg (arr .u8 usualL)) hf10 rfl rfl rfl rfl rfl rfl (fun _ _ _ h => h) (by kernel_rfl) (by kernel_rfl) (by kernel_rfl) (fun wd7 hS1 => (r_loadW ag_22 sz_22 rfl (hS1.at 1 rfl) (arr_size rfl))) hS1 fun ac11 hf11 => ?_
  refine any_one (i := 1) (by kernel_rfl) ?_
  refine (op_pure hf11 rfl rfl rfl rfl ca_14 (right_pur usualL rfl usual_ink) hI14 fun ac12 wd8 hI15 hf12 => ⟨?_, ?_⟩)
  · exact (Has.cons (hI15.at 1 rfl) (Has.cons (hI15.at 2 rfl) Has.nil))
  have hS2 : Has [(b1, arr .u8 (usualL.set q n), 22), (b2, arr .u8 usualL, 22)] _ := (Has.cons (hI15.at 1 rfl) (Has.cons (hI15.at 2 rfl) Has.nil))
  refine any_val (i := 2) (v := .bool (rightF usualL)) hf12 rfl rfl rfl rfl rfl rfl (fun _ _ _ h => h) (by kernel_rfl) (by kernel_rfl) (by kernel_rfl) (fun wd8 hS2 => (r_move rfl)) hS2 fun ac13 hf13 => ?_
  have hf14 := hf13.know 15 (u := .bool true) rfl (congrArg Value.bool (by decide))
  refine any_val (i := 3) (v := .agg (arr .u8 usualL)) hf14 rfl rfl rfl rfl rfl rfl (fun _ _ _ h => h) (by kernel_rfl) (by kernel_rfl) (by kernel_rfl) (fun wd8 hS2 => (r_loadW ag_22 sz_22 rfl (hS2.at 1 rfl) (arr_size rfl))) hS2 fun ac14 hf15 => ?_
  refine any_one (i := 4) (by kernel_rfl) ?_
  refine (op_call (R := fun v w' => ∃ S p cap, v = .slice p (ofL usualL 3 16).length cap ∧ Sl 5 .u8 S p cap (ofL usualL 3 16) ∧ Inv wd8 S w' ∧ ∀ x ∈ S, wd8.heap.size ≤ x.1) hf15 rfl rfl rfl rfl ca_17 ((of_mk usualL rfl usual_ink 3 _).mono fun _ _ ⟨S, p, cap, he, h1, _, h3, h4⟩ => ⟨_, he, S, p, cap, rfl, h1, h3, h4⟩) fun ac15 v wd9 hR hf16 => ?_)
  obtain ⟨Sq3, q3, capq3, rfl, hsq3, hwq3, hzq3⟩ := hR
  have hyq3 := fk_le hI15.size hzq3
  have hI16 : Inv w ([(0, arr .u8 usualL, tt), (b1, arr .u8 (usualL.set q n), 22), (b2, arr .u8 usualL, 22)] ++ Sq3) _ := hI15.callN hwq3 hzq3
  refine ⟨?_, ?_⟩
  · exact (Has.cons (hI16.at 1 rfl) (Has.cons (hI16.at 2 rfl) Has.nil))
  have hS3 : Has [(b1, arr .u8 (usualL.set q n), 22), (b2, arr .u8 usualL, 22)] _ := (Has.cons (hI16.at 1 rfl) (Has.cons (hI16.at 2 rfl) Has.nil))
  refine any_val (i := 5) (v := .int .i64 ((ofL usualL 3 16).length : Int)) hf16 rfl rfl rfl rfl rfl rfl (fun _ _ _ h => h) (by kernel_rfl) (by kernel_rfl) (by kernel_rfl) (fun wd9 hS3 => (r_len sl_27 rfl)) hS3 fun ac16 hf17 => ?_
  refine any_val (i := 6) (v := .bool (((ofL usualL 3 16).length : Int) == 1)) hf17 rfl rfl rfl rfl rfl rfl (fun _ _ _ h => h) (by kernel_rfl) (by kernel_rfl) (by kernel_rfl) (fun wd9 hS3 => (r_eql rfl rfl)) hS3 fun ac17 hf18 => ?_
  refine any_val (i := 7) (v := .bool (((ofL usualL 3 16).length : Int) == 1)) hf18 rfl rfl rfl rfl rfl rfl (fun _ _ _ h => h) (by kernel_rfl) (by kernel_rfl) (by kernel_rfl) (fun wd9 hS3 => (r_pickT rfl rfl)) hS3 fun ac18 hf19 => ?_
  refine any_val (i := 8) (v := .bool (((ofL usualL 3 16).length : Int) == 1)) hf19 rfl rfl rfl rfl rfl rfl (fun _ _ _ h => h) (by kernel_rfl) (by kernel_rfl) (by kernel_rfl) (fun wd9 hS3 => (r_move rfl)) hS3 fun ac19 hf20 => ?_
  have hf21 := hf20.know 21 (u := .bool true) rfl (congrArg Value.bool (by decide))
  refine any_val (i := 9) (v := .agg (arr .u8 usualL)) hf21 rfl rfl rfl rfl rfl rfl (fun _ _ _ h => h) (by kernel_rfl) (by kernel_rfl) (by kernel_rfl) (fun wd9 hS3 => (r_loadW ag_22 sz_22 rfl (hS3.at 1 rfl) (arr_size rfl))) hS3 fun ac20 hf22 => ?_
  refine any_one (i := 10) (by kernel_rfl) ?_
  refine (op_call (R := fun v w' => ∃ S p cap, v = .slice p (ofL usualL 0 16).length cap ∧ Sl 5 .u8 S p cap (ofL usualL 0 16) ∧ Inv wd9 S w' ∧ ∀ x ∈ S, wd9.heap.size ≤ x.1) hf22 rfl rfl rfl rfl ca_17 ((of_mk usualL rfl usual_ink 0 _).mono fun _ _ ⟨S, p, cap, he, h1, _, h3, h4⟩ => ⟨_, he, S, p, cap, rfl, h1, h3, h4⟩) fun ac21 v wd10 hR hf23 => ?_)
  obtain ⟨Sq4, q4, capq4, rfl, hsq4, hwq4, hzq4⟩ := hR
  have hyq4 := fk_le hI16.size hzq4
  have hI17 : Inv w ([(0, arr .u8 usualL, tt), (b1, arr .u8 (usualL.set q n), 22), (b2, arr .u8 usualL, 22)] ++ (Sq3 ++ Sq4)) _ := hI16.callN hwq4 hzq4
  refine ⟨?_, ?_⟩
  · exact (Has.cons (hI17.at 1 rfl) (Has.cons (hI17.at 2 rfl) Has.nil))
  have hS4 : Has [(b1, arr .u8 (usualL.set q n), 22), (b2, arr .u8 usualL, 22)] _ := (Has.cons (hI17.at 1 rfl) (Has.cons (hI17.at 2 rfl) Has.nil))
  refine any_val (i := 11) (v := .int .i64 ((ofL usualL 0 16).length : Int)) hf23 rfl rfl rfl rfl rfl rfl (fun _ _ _ h => h) (by kernel_rfl) (by kernel_rfl) (by kernel_rfl) (fun wd10 hS4 => (r_len sl_27 rfl)) hS4 fun ac22 hf24 => ?_
  refine any_val (i := 12) (v := .bool (((ofL usualL 0 16).length : Int) == 1)) hf24 rfl rfl rfl rfl rfl rfl (fun _ _ _ h => h) (by kernel_rfl) (by kernel_rfl) (by kernel_rfl) (fun wd10 hS4 => (r_eql rfl rfl)) hS4 fun ac23 hf25 => ?_
  refine any_val (i := 13) (v := .bool (((ofL usualL 0 16).length : Int) == 1)) hf25 rfl rfl rfl rfl rfl rfl (fun _ _ _ h => h) (by kernel_rfl) (by kernel_rfl) (by kernel_rfl) (fun wd10 hS4 => (r_pickT rfl rfl)) hS4 fun ac24 hf26 => ?_
  refine any_val (i := 14) (v := .bool (((ofL usualL 0 16).length : Int) == 1)) hf26 rfl rfl rfl rfl rfl rfl (fun _ _ _ h => h) (by kernel_rfl) (by kernel_rfl) (by kernel_rfl) (fun wd10 hS4 => (r_move rfl)) hS4 fun ac25 hf27 => ?_
  have hf28 := hf27.know 27 (u := .bool true) rfl (congrArg Value.bool (by decide))
  refine any_val (i := 15) (v := .agg (arr .u8 usualL)) hf28 rfl rfl rfl rfl rfl rfl (fun _ _ _ h => h) (by kernel_rfl) (by kernel_rfl) (by kernel_rfl) (fun wd10 hS4 => (r_loadW ag_22 sz_22 rfl (hS4.at 1 rfl) (arr_size rfl))) hS4 fun ac26 hf29 => ?_
  refine any_val (i := 18) (v := .agg (arr .u8 usualL)) hf29 rfl rfl rfl rfl rfl rfl (fun _ _ _ h => h) (by kernel_rfl) (by kernel_rfl) (by kernel_rfl) (fun wd10 hS4 => (r_loadW ag_22 sz_22 rfl (hS4.at 1 rfl) (arr_size rfl))) hS4 fun ac27 hf30 => ?_
  refine any_one (i := 16) (by kernel_rfl) ?_
  refine (op_call (R := fun v w' => ∃ S p cap, v = .slice p (ofL usualL 1 16).length cap ∧ Sl 5 .u8 S p cap (ofL usualL 1 16) ∧ Inv wd10 S w' ∧ ∀ x ∈ S, wd10.heap.size ≤ x.1) hf30 rfl rfl rfl rfl ca_17 ((of_mk usualL rfl usual_ink 1 _).mono fun _ _ ⟨S, p, cap, he, h1, _, h3, h4⟩ => ⟨_, he, S, p, cap, rfl, h1, h3, h4⟩) fun ac28 v wd11 hR hf31 => ?_)
  obtain ⟨Sq5, q5, capq5, rfl, hsq5, hwq5, hzq5⟩ := hR
  have hyq5 := fk_le hI17.size hzq5
  have hI18 : Inv w ([(0, arr .u8 usualL, tt), (b1, arr .u8 (usualL.set q n), 22), (b2, arr .u8 usualL, 22)] ++ ((Sq3 ++ Sq4) ++ Sq5)) _ := hI17.callN hwq5 hzq5
  refine ⟨?_, ?_⟩
  · exact (Has.cons (hI18.at 1 rfl) (Has.cons (hI18.at 2 rfl) Has.nil))
  have hS5 : Has [(b1, arr .u8 (usualL.set q n), 22), (b2, arr .u8 usualL, 22)] _ := (Has.cons (hI18.at 1 rfl) (Has.cons (hI18.at 2 rfl) Has.nil))
  refine any_val (i := 17) (v := .int .i64 ((ofL usualL 1 16).length : Int)) hf31 rfl rfl rfl rfl rfl rfl (fun _ _ _ h => h) (by kernel_rfl) (by kernel_rfl) (by kernel_rfl) (fun wd11 hS5 => (r_len sl_27 rfl)) hS5 fun ac29 hf32 => ?_
  refine any_one (i := 19) (by kernel_rfl) ?_
  refine (op_call (R := fun v w' => ∃ S p cap, v = .slice p (ofL usualL 2 16).length cap ∧ Sl 5 .u8 S p cap (ofL usualL 2 16) ∧ Inv wd11 S w' ∧ ∀ x ∈ S, wd11.heap.size ≤ x.1) hf32 rfl rfl rfl rfl ca_17 ((of_mk usualL rfl usual_ink 2 _).mono fun _ _ ⟨S, p, cap, he, h1, _, h3, h4⟩ => ⟨_, he, S, p, cap, rfl, h1, h3, h4⟩) fun ac30 v wd12 hR hf33 => ?_)
  obtain ⟨Sq6, q6, capq6, rfl, hsq6, hwq6, hzq6⟩ := hR
  have hyq6 := fk_le hI18.size hzq6
  have hI19 : Inv w ([(0, arr .u8 usualL, tt), (b1, arr .u8 (usualL.set q n), 22), (b2, arr .u8 usualL, 22)] ++ (((Sq3 ++ Sq4) ++ Sq5) ++ Sq6)) _ := hI18.callN hwq6 hzq6
  refine ⟨?_, ?_⟩
  · exact (Has.cons (hI19.at 1 rfl) (Has.cons (hI19.at 2 rfl) Has.nil))
  have hS6 : Has [(b1, arr .u8 (usualL.set q n), 22), (b2, arr .u8 usualL, 22)] _ := (Has.cons (hI19.at 1 rfl) (Has.cons (hI19.at 2 rfl) Has.nil))
  refine any_val (i := 20) (v := .int .i64 ((ofL usualL 2 16).length : Int)) hf33 rfl rfl rfl rfl rfl rfl (fun _ _ _ h => h) (by kernel_rfl) (by kernel_rfl) (by kernel_rfl) (fun wd12 hS6 => (r_len sl_27 rfl)) hS6 fun ac31 hf34 => ?_
  refine any_val (i := 21) (v := .int .i64 14) hf34 rfl rfl rfl rfl rfl rfl (fun _ _ _ h => h) (by kernel_rfl) (by kernel_rfl) (by kernel_rfl) (fun wd12 hS6 => (r_add (c := 14) rfl rfl (by decide))) hS6 fun ac32 hf35 => ?_
  refine any_val (i := 22) (v := .bool true) hf35 rfl rfl rfl rfl rfl rfl (fun _ _ _ h => h) (by kernel_rfl) (by kernel_rfl) (by kernel_rfl) (fun wd12 hS6 => (r_eqlC rfl rfl (by decide))) hS6 fun ac33 hf36 => ?_
  refine any_val (i := 23) (v := .bool true) hf36 rfl rfl rfl rfl rfl rfl (fun _ _ _ h => h) (by kernel_rfl) (by kernel_rfl) (by kernel_rfl) (fun wd12 hS6 => (r_pickT rfl rfl)) hS6 fun ac34 hf37 => ?_
  refine any_val (i := 24) (v := .bool true) hf37 rfl rfl rfl rfl rfl rfl (fun _ _ _ h => h) (by kernel_rfl) (by kernel_rfl) (by kernel_rfl) (fun wd12 hS6 => (r_move rfl)) hS6 fun ac35 hf38 => ?_
  refine any_val (i := 25) (v := .int .u8 n) hf38 rfl rfl rfl rfl rfl rfl (fun _ _ _ h => h) (by kernel_rfl) (by kernel_rfl) (by kernel_rfl) (fun wd12 hS6 => (r_move rfl)) hS6 fun ac36 hf39 => ?_
  refine any_val (i := 26) (v := .bool (decide (n ≤ 3))) hf39 rfl rfl rfl rfl rfl rfl (fun _ _ _ h => h) (by kernel_rfl) (by kernel_rfl) (by kernel_rfl) (fun wd12 hS6 => (r_leq rfl rfl)) hS6 fun ac37 hf40 => ?_
  refine any_val (i := 27) (v := .agg (arr .u8 (usualL.set q n))) hf40 rfl rfl rfl rfl rfl rfl (fun _ _ _ h => h) (by kernel_rfl) (by kernel_rfl) (by kernel_rfl) (fun wd12 hS6 => (r_loadW ag_22 sz_22 rfl (hS6.at 0 rfl) (arr_size (List.length_set.trans rfl)))) hS6 fun ac38 hf41 => ?_
  refine any_one (i := 28) (by kernel_rfl) ?_
  refine (op_pure hf41 rfl rfl rfl rfl ca_14 (right_pur (usualL.set q n) (List.length_set.trans rfl) (usual_ink.set wfn)) hI19 fun ac39 wd13 hI20 hf42 => ⟨?_, ?_⟩)
  · exact (Has.cons (hI20.at 1 rfl) (Has.cons (hI20.at 2 rfl) Has.nil))
  have hS7 : Has [(b1, arr .u8 (usualL.set q n), 22), (b2, arr .u8 usualL, 22)] _ := (Has.cons (hI20.at 1 rfl) (Has.cons (hI20.at 2 rfl) Has.nil))
  refine any_val (i := 29) (v := .bool ((decide (n ≤ 3)) == (rightF (usualL.set q n)))) hf42 rfl rfl rfl rfl rfl rfl (fun _ _ _ h => h) (by kernel_rfl) (by kernel_rfl) (by kernel_rfl) (fun wd13 hS7 => (r_eqB ub_4 rfl rfl)) hS7 fun ac40 hf43 => ?_
  refine any_val (i := 30) (v := .bool ((decide (n ≤ 3)) == (rightF (usualL.set q n)))) hf43 rfl rfl rfl rfl rfl rfl (fun _ _ _ h => h) (by kernel_rfl) (by kernel_rfl) (by kernel_rfl) (fun wd13 hS7 => (r_pickT rfl rfl)) hS7 fun ac41 hf44 => ?_
  refine any_val (i := 31) (v := .bool ((decide (n ≤ 3)) == (rightF (usualL.set q n)))) hf44 rfl rfl rfl rfl rfl rfl (fun _ _ _ h => h) (by kernel_rfl) (by kernel_rfl) (by kernel_rfl) (fun wd13 hS7 => (r_move rfl)) hS7 fun ac42 hf45 => ?_
  have hf46 := hf45.know 44 (u := .bool true) rfl (congrArg Value.bool (beq_iff_eq.2 (right_set hq).symm))
  refine any_one (i := 32) (by kernel_rfl) ?_
  refine (op_pureW hf46 rfl rfl rfl rfl ca_23 (awake_walk tt _ (Has.cons (hI20.at 0 rfl) Has.nil)) hI20 fun ac43 wd14 hI21 hf47 => ⟨?_, ?_⟩)
  · exact (Has.cons (hI21.at 1 rfl) (Has.cons (hI21.at 2 rfl) Has.nil))
  have hS8 : Has [(b1, arr .u8 (usualL.set q n), 22), (b2, arr .u8 usualL, 22)] _ := (Has.cons (hI21.at 1 rfl) (Has.cons (hI21.at 2 rfl) Has.nil))
  refine any_val (i := 33) (v := .bool true) hf47 rfl rfl rfl rfl rfl rfl (fun _ _ _ h => h) (by kernel_rfl) (by kernel_rfl) (by kernel_rfl) (fun wd14 hS8 => (r_pickT rfl rfl)) hS8 fun ac44 hf48 => ?_
  refine any_val (i := 34) (v := .bool true) hf48 rfl rfl rfl rfl rfl rfl (fun _ _ _ h => h) (by kernel_rfl) (by kernel_rfl) (by kernel_rfl) (fun wd14 hS8 => (r_assign rfl)) hS8 fun ac45 hf49 => ?_
  refine any_end (by kernel_rfl) ?_
  clear hI13 ac10 hf10 ac11 wd7 hI14 hf11 hS1 ac12 hf12 hf13 ac13 hf14 ac14 wd8 hf15 hI15 hwq3 hzq3 hS2 ac15 hf16 ac16 hf17 ac17 hf18 ac18 hf19 hf20 ac19 hf21 ac20 wd9 hf22 hI16 hwq4 hzq4 hS3 ac21 hf23 ac22 hf24 ac23 hf25 ac24 hf26 hf27 ac25 hf28 ac26 hf29 ac27 wd10 hf30 hI17 hwq5 hzq5 hS4 ac28 hf31 ac29 wd11 hf32 hI18 hwq6 hzq6 hS5 ac30 hf33 ac31 hf34 ac32 hf35 ac33 hf36 ac34 hf37 ac35 hf38 ac36 hf39 ac37 hf40 ac38 wd12 hI19 hf41 hS6 ac39 hf42 ac40 hf43 ac41 hf44 hf45 ac42 wd13 hI20 hf46 hS7 ac43 hf47 ac44 hf48 hS8
  refine then_normal ?_
  refine wp_ret ?_
  refine post1 rfl hf49 rfl ⟨?_, Inv.unread (A := [(0, arr .u8 usualL, tt)]) (Inv.drop (A := [(0, arr .u8 usualL, tt)]) (B := ([(b1, arr .u8 (usualL.set q n), 22), (b2, arr .u8 usualL, 22)] ++ (((Sq3 ++ Sq4) ++ Sq5) ++ Sq6))) hI21 (fk_app (fresh_keys (ks := [b1, b2]) rfl (fk_cons hb1 (fk_cons hb2 fk_nil))) (fk_app (fk_app (fk_app hyq3 hyq4) hyq5) hyq6))) h0⟩
  rfl
end Go.Proofs.YtakkookpjhaekaaDoor
