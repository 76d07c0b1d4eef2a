/-
  The walk of PrioTells.
-/
import Derived.Test.YtakkookpjhaekaaDoorPlain
namespace Go.Proofs.YtakkookpjhaekaaDoor
set_option linter.unusedVariables false
set_option linter.unusedSimpArgs false
set_option maxRecDepth 100000
open Go.RowKit
set_option maxHeartbeats 8000000 in
theorem prioTells_walk (m : List Int) (hm : m.length = 16) (hk : InK .u8 m) (p a b : Int) (pl : 0 ≤ p) (pr : p ≤ 255) (wfa : (Lit.int .u8 a).wf = true) (wfb : (Lit.int .u8 b).wf = true) (tt : TypeId) (w : World) (h0 : Has [(0, arr .u8 usualL, tt)] w) : Calls Tryd.prog 3 [.agg (arr .u8 m), .int .u8 p, .int .u8 a, .int .u8 b].toArray w fun e w' => e = .returned (.bool true) ∧ Inv w [] w' := by
  have hI1 := Inv.startS h0 (List.pairwise_singleton _ _)
  refine enter (n := 68) Tryd.func3 rfl rfl rfl ?_
  intro ac1 hf1
  refine code_seq ?_
  refine seq_start (l := [0, 1]) rfl ?_
  refine seq_one (op_box hf1 rfl rfl rfl rfl hI1 fun ac2 b1 wd1 hb1 hI2 hf2 => ?_)
  have hI3 : Inv w [(0, arr .u8 usualL, tt), (b1, arr .u8 m, 22)] wd1 := hI2
  refine seq_one (op_val (v := .bool false) hf2 rfl rfl rfl rfl rfl rfl (r_assign rfl) fun ac3 hf3 => ?_)
  refine seq_end ?_
  clear ac1 hI1 hf1 hI2 ac2 hf2
  refine then_normal ?_
  refine code_seq ?_
  refine seq_start (l := [0, 1, 2, 3, 4, 5, 6, 7]) rfl ?_
  refine seq_one (op_val (v := .agg (arr .u8 m)) hf3 rfl rfl rfl rfl rfl rfl (r_loadW ag_22 sz_22 rfl (hI3.at 1 rfl) (arr_size hm)) fun ac4 hf4 => ?_)
  refine seq_one (op_val (v := .int .u8 p) hf4 rfl rfl rfl rfl rfl rfl (r_move rfl) fun ac5 hf5 => ?_)
  refine seq_one (op_pure hf5 rfl rfl rfl rfl ca_12 (band_pur m hm hk p pl pr) hI3 fun ac6 wd2 hI4 hf6 => ?_)
  refine seq_one (op_val (v := .tuple #[.int .i64 ((bandF m p).1), .bool ((bandF m p).2)]) hf6 rfl rfl rfl rfl rfl rfl (r_move rfl) fun ac7 hf7 => ?_)
  refine seq_one (op_val (v := .int .i64 ((bandF m p).1)) hf7 rfl rfl rfl rfl rfl rfl (r_extract rfl rfl) fun ac8 hf8 => ?_)
  refine seq_one (op_val (v := .bool ((bandF m p).2)) hf8 rfl rfl rfl rfl rfl rfl (r_extract rfl rfl) fun ac9 hf9 => ?_)
  refine seq_one (op_val (v := .int .i64 ((bandF m p).1)) hf9 rfl rfl rfl rfl rfl rfl (r_assign rfl) fun ac10 hf10 => ?_)
  refine seq_one (op_val (v := .bool ((bandF m p).2)) hf10 rfl rfl rfl rfl rfl rfl (r_assign rfl) fun ac11 hf11 => ?_)
  refine seq_end ?_
  clear ac3 hf3 ac4 hf4 ac5 wd1 hI3 hf5 ac6 hf6 ac7 hf7 ac8 hf8 ac9 hf9 ac10 hf10
  refine then_normal ?_
  refine code_seq ?_
  refine seq_start (l := [0, 1, 2, 3, 4, 5, 6, 7]) rfl ?_
  refine seq_one (op_val (v := .agg (arr .u8 m)) hf11 rfl rfl rfl rfl rfl rfl (r_loadW ag_22 sz_22 rfl (hI4.at 1 rfl) (arr_size hm)) fun ac12 hf12 => ?_)
  refine seq_one (op_val (v := .int .u8 p) hf12 rfl rfl rfl rfl rfl rfl (r_move rfl) fun ac13 hf13 => ?_)
  refine seq_one (op_pure hf13 rfl rfl rfl rfl ca_13 (bandR_pur m hm hk p pl pr) hI4 fun ac14 wd3 hI5 hf14 => ?_)
  refine seq_one (op_val (v := .tuple #[.int .i64 ((bandF m p).1), .bool ((bandF m p).2)]) hf14 rfl rfl rfl rfl rfl rfl (r_move rfl) fun ac15 hf15 => ?_)
  refine seq_one (op_val (v := .int .i64 ((bandF m p).1)) hf15 rfl rfl rfl rfl rfl rfl (r_extract rfl rfl) fun ac16 hf16 => ?_)
  refine seq_one (op_val (v := .bool ((bandF m p).2)) hf16 rfl rfl rfl rfl rfl rfl (r_extract rfl rfl) fun ac17 hf17 => ?_)
  refine seq_one (op_val (v := .int .i64 ((bandF m p).1)) hf17 rfl rfl rfl rfl rfl rfl (r_assign rfl) fun ac18 hf18 => ?_)
  refine seq_one (op_val (v := .bool ((bandF m p).2)) hf18 rfl rfl rfl rfl rfl rfl (r_assign rfl) fun ac19 hf19 => ?_)
  refine seq_end ?_
  clear ac11 hf11 ac12 hf12 ac13 wd2 hI4 hf13 ac14 hf14 ac15 hf15 ac16 hf16 ac17 hf17 ac18 hf18
  refine then_normal ?_
  refine code_seq ?_
  refine any_start (fun w => Has [(b1, arr .u8 m, 22)] w) follows (Has.drew (Has.cons (hI5.at 1 rfl) Has.nil)) ?_
  have hS1 : Has [(b1, arr .u8 m, 22)] _ := Has.drew (Has.cons (hI5.at 1 rfl) Has.nil)
  have hI6 := hI5.drew
  refine any_val (i := 0) (v := .agg (arr .u8 m)) hf19 rfl rfl rfl rfl rfl rfl (fun _ _ _ h => h) (by kernel_rfl) (by kernel_rfl) (by kernel_rfl) (fun wd3 hS1 => (r_loadW ag_22 sz_22 rfl (hS1.at 0 rfl) (arr_size hm))) hS1 fun ac20 hf20 => ?_
  refine any_val (i := 2) (v := .agg (arr .u8 m)) hf20 rfl rfl rfl rfl rfl rfl (fun _ _ _ h => h) (by kernel_rfl) (by kernel_rfl) (by kernel_rfl) (fun wd3 hS1 => (r_loadW ag_22 sz_22 rfl (hS1.at 0 rfl) (arr_size hm))) hS1 fun ac21 hf21 => ?_
  refine any_one (i := 1) (by kernel_rfl) ?_
  refine (op_pure hf21 rfl rfl rfl rfl ca_14 (right_pur m hm hk) hI6 fun ac22 wd4 hI7 hf22 => ⟨?_, ?_⟩)
  · exact (Has.cons (hI7.at 1 rfl) Has.nil)
  have hS2 : Has [(b1, arr .u8 m, 22)] _ := (Has.cons (hI7.at 1 rfl) Has.nil)
  refine any_one (i := 3) (by kernel_rfl) ?_
  refine (op_pure hf22 rfl rfl rfl rfl ca_15 (rightR_pur m hm hk) hI7 fun ac23 wd5 hI8 hf23 => ⟨?_, ?_⟩)
  · exact (Has.cons (hI8.at 1 rfl) Has.nil)
  have hS3 : Has [(b1, arr .u8 m, 22)] _ := (Has.cons (hI8.at 1 rfl) Has.nil)
  refine any_val (i := 4) (v := .bool ((rightF m) == (rightF m))) hf23 rfl rfl rfl rfl rfl rfl (fun _ _ _ h => h) (by kernel_rfl) (by kernel_rfl) (by kernel_rfl) (fun wd5 hS3 => (r_eqB ub_4 rfl rfl)) hS3 fun ac24 hf24 => ?_
  refine any_val (i := 5) (v := .bool ((rightF m) == (rightF m))) hf24 rfl rfl rfl rfl rfl rfl (fun _ _ _ h => h) (by kernel_rfl) (by kernel_rfl) (by kernel_rfl) (fun wd5 hS3 => (r_move rfl)) hS3 fun ac25 hf25 => ?_
  have hf26 := hf25.know 30 (u := .bool true) rfl (congrArg Value.bool (beq_self_eq_true _))
  refine any_val (i := 6) (v := .int .i64 ((bandF m p).1)) hf26 rfl rfl rfl rfl rfl rfl (fun _ _ _ h => h) (by kernel_rfl) (by kernel_rfl) (by kernel_rfl) (fun wd5 hS3 => (r_move rfl)) hS3 fun ac26 hf27 => ?_
  refine any_val (i := 7) (v := .int .i64 ((bandF m p).1)) hf27 rfl rfl rfl rfl rfl rfl (fun _ _ _ h => h) (by kernel_rfl) (by kernel_rfl) (by kernel_rfl) (fun wd5 hS3 => (r_move rfl)) hS3 fun ac27 hf28 => ?_
  refine any_val (i := 8) (v := .bool (((bandF m p).1) == ((bandF m p).1))) hf28 rfl rfl rfl rfl rfl rfl (fun _ _ _ h => h) (by kernel_rfl) (by kernel_rfl) (by kernel_rfl) (fun wd5 hS3 => (r_eql rfl rfl)) hS3 fun ac28 hf29 => ?_
  refine any_val (i := 9) (v := .bool (((bandF m p).1) == ((bandF m p).1))) hf29 rfl rfl rfl rfl rfl rfl (fun _ _ _ h => h) (by kernel_rfl) (by kernel_rfl) (by kernel_rfl) (fun wd5 hS3 => (r_pickT rfl rfl)) hS3 fun ac29 hf30 => ?_
  refine any_val (i := 10) (v := .bool (((bandF m p).1) == ((bandF m p).1))) hf30 rfl rfl rfl rfl rfl rfl (fun _ _ _ h => h) (by kernel_rfl) (by kernel_rfl) (by kernel_rfl) (fun wd5 hS3 => (r_move rfl)) hS3 fun ac30 hf31 => ?_
  have hf32 := hf31.know 35 (u := .bool true) rfl (congrArg Value.bool (beq_self_eq_true _))
  refine any_val (i := 11) (v := .bool ((bandF m p).2)) hf32 rfl rfl rfl rfl rfl rfl (fun _ _ _ h => h) (by kernel_rfl) (by kernel_rfl) (by kernel_rfl) (fun wd5 hS3 => (r_move rfl)) hS3 fun ac31 hf33 => ?_
  refine any_val (i := 12) (v := .bool ((bandF m p).2)) hf33 rfl rfl rfl rfl rfl rfl (fun _ _ _ h => h) (by kernel_rfl) (by kernel_rfl) (by kernel_rfl) (fun wd5 hS3 => (r_move rfl)) hS3 fun ac32 hf34 => ?_
  refine any_val (i := 13) (v := .bool (((bandF m p).2) == ((bandF m p).2))) hf34 rfl rfl rfl rfl rfl rfl (fun _ _ _ h => h) (by kernel_rfl) (by kernel_rfl) (by kernel_rfl) (fun wd5 hS3 => (r_eqB ub_4 rfl rfl)) hS3 fun ac33 hf35 => ?_
  refine any_val (i := 14) (v := .bool (((bandF m p).2) == ((bandF m p).2))) hf35 rfl rfl rfl rfl rfl rfl (fun _ _ _ h => h) (by kernel_rfl) (by kernel_rfl) (by kernel_rfl) (fun wd5 hS3 => (r_pickT rfl rfl)) hS3 fun ac34 hf36 => ?_
  refine any_val (i := 15) (v := .bool (((bandF m p).2) == ((bandF m p).2))) hf36 rfl rfl rfl rfl rfl rfl (fun _ _ _ h => h) (by kernel_rfl) (by kernel_rfl) (by kernel_rfl) (fun wd5 hS3 => (r_move rfl)) hS3 fun ac35 hf37 => ?_
  have hf38 := hf37.know 40 (u := .bool true) rfl (congrArg Value.bool (beq_self_eq_true _))
  refine any_val (i := 16) (v := .agg (arr .u8 m)) hf38 rfl rfl rfl rfl rfl rfl (fun _ _ _ h => h) (by kernel_rfl) (by kernel_rfl) (by kernel_rfl) (fun wd5 hS3 => (r_loadW ag_22 sz_22 rfl (hS3.at 0 rfl) (arr_size hm))) hS3 fun ac36 hf39 => ?_
  refine any_val (i := 17) (v := .int .u8 a) hf39 rfl rfl rfl rfl rfl rfl (fun _ _ _ h => h) (by kernel_rfl) (by kernel_rfl) (by kernel_rfl) (fun wd5 hS3 => (r_move rfl)) hS3 fun ac37 hf40 => ?_
  refine any_val (i := 19) (v := .agg (arr .u8 m)) hf40 rfl rfl rfl rfl rfl rfl (fun _ _ _ h => h) (by kernel_rfl) (by kernel_rfl) (by kernel_rfl) (fun wd5 hS3 => (r_loadW ag_22 sz_22 rfl (hS3.at 0 rfl) (arr_size hm))) hS3 fun ac38 hf41 => ?_
  refine any_val (i := 20) (v := .int .u8 a) hf41 rfl rfl rfl rfl rfl rfl (fun _ _ _ h => h) (by kernel_rfl) (by kernel_rfl) (by kernel_rfl) (fun wd5 hS3 => (r_move rfl)) hS3 fun ac39 hf42 => ?_
  refine any_one (i := 18) (by kernel_rfl) ?_
  refine (op_call (R := fun v w' => ∃ S p cap, v = .slice p (ofL m a 16).length cap ∧ Sl 5 .u8 S p cap (ofL m a 16) ∧ Inv wd5 S w' ∧ ∀ x ∈ S, wd5.heap.size ≤ x.1) hf42 rfl rfl rfl rfl ca_17 ((of_mk m hm hk a _).mono fun _ _ ⟨S, p, cap, he, h1, _, h3, h4⟩ => ⟨_, he, S, p, cap, rfl, h1, h3, h4⟩) fun ac40 v wd6 hR hf43 => ?_)
  obtain ⟨Sq2, q2, capq2, rfl, hsq2, hwq2, hzq2⟩ := hR
  have hyq2 := fk_le hI8.size hzq2
  have hI9 : Inv w ([(0, arr .u8 usualL, tt), (b1, arr .u8 m, 22)] ++ Sq2) _ := hI8.callN hwq2 hzq2
  refine ⟨?_, ?_⟩
  · exact (Has.cons (hI9.at 1 rfl) Has.nil)
  have hS4 : Has [(b1, arr .u8 m, 22)] _ := (Has.cons (hI9.at 1 rfl) Has.nil)
  refine any_one (i := 21) (by kernel_rfl) ?_
  refine (op_call (R := fun v w' => ∃ S p cap, v = .slice p (ofL m a 16).length cap ∧ Sl 5 .u8 S p cap (ofL m a 16) ∧ Inv wd6 S w' ∧ ∀ x ∈ S, wd6.heap.size ≤ x.1) hf43 rfl rfl rfl rfl ca_18 ((ofR_mk m hm hk a _).mono fun _ _ ⟨S, p, cap, he, h1, _, h3, h4⟩ => ⟨_, he, S, p, cap, rfl, h1, h3, h4⟩) fun ac41 v wd7 hR hf44 => ?_)
  obtain ⟨Sq3, q3, capq3, rfl, hsq3, hwq3, hzq3⟩ := hR
  have hyq3 := fk_le hI9.size hzq3
  have hI10 : Inv w ([(0, arr .u8 usualL, tt), (b1, arr .u8 m, 22)] ++ (Sq2 ++ Sq3)) _ := hI9.callN hwq3 hzq3
  refine ⟨?_, ?_⟩
  · exact (Has.cons (hI10.at 1 rfl) Has.nil)
  have hS5 : Has [(b1, arr .u8 m, 22)] _ := (Has.cons (hI10.at 1 rfl) Has.nil)
  refine any_one (i := 22) (by kernel_rfl) ?_
  refine (op_pureW hf44 rfl rfl rfl rfl ca_16 (same_walk (xs := ofL m a 16) (ys := ofL m a 16) (hsq2.rd hI10 (fun x hx => List.mem_append_right _ (List.mem_append_left _ hx))) (hsq3.rd hI10 (fun x hx => List.mem_append_right _ (List.mem_append_right _ hx))) ofL_u8 ofL_u8) hI10 fun ac42 wd8 hI11 hf45 => ⟨?_, ?_⟩)
  · exact (Has.cons (hI11.at 1 rfl) Has.nil)
  have hS6 : Has [(b1, arr .u8 m, 22)] _ := (Has.cons (hI11.at 1 rfl) Has.nil)
  refine any_val (i := 23) (v := .bool ((ofL m a 16) == (ofL m a 16))) hf45 rfl rfl rfl rfl rfl rfl (fun _ _ _ h => h) (by kernel_rfl) (by kernel_rfl) (by kernel_rfl) (fun wd8 hS6 => (r_pickT rfl rfl)) hS6 fun ac43 hf46 => ?_
  refine any_val (i := 24) (v := .bool ((ofL m a 16) == (ofL m a 16))) hf46 rfl rfl rfl rfl rfl rfl (fun _ _ _ h => h) (by kernel_rfl) (by kernel_rfl) (by kernel_rfl) (fun wd8 hS6 => (r_move rfl)) hS6 fun ac44 hf47 => ?_
  have hf48 := hf47.know 49 (u := .bool true) rfl (congrArg Value.bool (beq_self_eq_true _))
  refine any_one (i := 25) (by kernel_rfl) ?_
  refine (op_pureW hf48 rfl rfl rfl rfl ca_19 (usual_walk tt _ (Has.cons (hI11.at 0 rfl) Has.nil)) hI11 fun ac45 wd9 hI12 hf49 => ⟨?_, ?_⟩)
  · exact (Has.cons (hI12.at 1 rfl) Has.nil)
  have hS7 : Has [(b1, arr .u8 m, 22)] _ := (Has.cons (hI12.at 1 rfl) Has.nil)
  refine any_one (i := 26) (by kernel_rfl) ?_
  refine (op_pure hf49 rfl rfl rfl rfl ca_20 usualR_pur hI12 fun ac46 wd10 hI13 hf50 => ⟨?_, ?_⟩)
  · exact (Has.cons (hI13.at 1 rfl) Has.nil)
  have hS8 : Has [(b1, arr .u8 m, 22)] _ := (Has.cons (hI13.at 1 rfl) Has.nil)
  refine any_val (i := 27) (v := .bool (eqA (arr .u8 usualL) (arr .u8 usualL))) hf50 rfl rfl rfl rfl rfl rfl (fun _ _ _ h => h) (by kernel_rfl) (by kernel_rfl) (by kernel_rfl) (fun wd10 hS8 => (r_eqA sh_22 kt_22 rw_22 rfl zk_22 eg_22 rfl rfl (InK.oks usual_ink) (InK.oks usual_ink))) hS8 fun ac47 hf51 => ?_
  refine any_val (i := 28) (v := .bool (eqA (arr .u8 usualL) (arr .u8 usualL))) hf51 rfl rfl rfl rfl rfl rfl (fun _ _ _ h => h) (by kernel_rfl) (by kernel_rfl) (by kernel_rfl) (fun wd10 hS8 => (r_pickT rfl rfl)) hS8 fun ac48 hf52 => ?_
  refine any_val (i := 29) (v := .bool (eqA (arr .u8 usualL) (arr .u8 usualL))) hf52 rfl rfl rfl rfl rfl rfl (fun _ _ _ h => h) (by kernel_rfl) (by kernel_rfl) (by kernel_rfl) (fun wd10 hS8 => (r_move rfl)) hS8 fun ac49 hf53 => ?_
  have hf54 := hf53.know 54 (u := .bool true) rfl (congrArg Value.bool (eqA_true rfl))
  refine any_val (i := 30) (v := .agg (arr .u8 m)) hf54 rfl rfl rfl rfl rfl rfl (fun _ _ _ h => h) (by kernel_rfl) (by kernel_rfl) (by kernel_rfl) (fun wd10 hS8 => (r_loadW ag_22 sz_22 rfl (hS8.at 0 rfl) (arr_size hm))) hS8 fun ac50 hf55 => ?_
  refine any_val (i := 31) (v := .int .u8 a) hf55 rfl rfl rfl rfl rfl rfl (fun _ _ _ h => h) (by kernel_rfl) (by kernel_rfl) (by kernel_rfl) (fun wd10 hS8 => (r_move rfl)) hS8 fun ac51 hf56 => ?_
  refine any_val (i := 32) (v := .int .u8 b) hf56 rfl rfl rfl rfl rfl rfl (fun _ _ _ h => h) (by kernel_rfl) (by kernel_rfl) (by kernel_rfl) (fun wd10 hS8 => (r_move rfl)) hS8 fun ac52 hf57 => ?_
  refine any_val (i := 34) (v := .agg (arr .u8 m)) hf57 rfl rfl rfl rfl rfl rfl (fun _ _ _ h => h) (by kernel_rfl) (by kernel_rfl) (by kernel_rfl) (fun wd10 hS8 => (r_loadW ag_22 sz_22 rfl (hS8.at 0 rfl) (arr_size hm))) hS8 fun ac53 hf58 => ?_
  refine any_val (i := 35) (v := .int .u8 a) hf58 rfl rfl rfl rfl rfl rfl (fun _ _ _ h => h) (by kernel_rfl) (by kernel_rfl) (by kernel_rfl) (fun wd10 hS8 => (r_move rfl)) hS8 fun ac54 hf59 => ?_
  refine any_val (i := 36) (v := .int .u8 b) hf59 rfl rfl rfl rfl rfl rfl (fun _ _ _ h => h) (by kernel_rfl) (by kernel_rfl) (by kernel_rfl) (fun wd10 hS8 => (r_move rfl)) hS8 fun ac55 hf60 => ?_
  refine any_one (i := 33) (by kernel_rfl) ?_
  refine (op_pure hf60 rfl rfl rfl rfl ca_21 (turn_pur m hm hk a b) hI13 fun ac56 wd11 hI14 hf61 => ⟨?_, ?_⟩)
  · exact (Has.cons (hI14.at 1 rfl) Has.nil)
  have hS9 : Has [(b1, arr .u8 m, 22)] _ := (Has.cons (hI14.at 1 rfl) Has.nil)
  refine any_one (i := 37) (by kernel_rfl) ?_
  refine (op_pure hf61 rfl rfl rfl rfl ca_22 (turnR_pur m hm hk a b) hI14 fun ac57 wd12 hI15 hf62 => ⟨?_, ?_⟩)
  · exact (Has.cons (hI15.at 1 rfl) Has.nil)
  have hS10 : Has [(b1, arr .u8 m, 22)] _ := (Has.cons (hI15.at 1 rfl) Has.nil)
  refine any_val (i := 38) (v := .bool (eqA (arr .u8 (turnF m a b)) (arr .u8 (turnF m a b)))) hf62 rfl rfl rfl rfl rfl rfl (fun _ _ _ h => h) (by kernel_rfl) (by kernel_rfl) (by kernel_rfl) (fun wd12 hS10 => (r_eqA sh_22 kt_22 rw_22 rfl zk_22 eg_22 rfl rfl (by have h := InK.oks (turnF_ink hk wfa wfb); rw [turn_len] at h; exact h) (by have h := InK.oks (turnF_ink hk wfa wfb); rw [turn_len] at h; exact h))) hS10 fun ac58 hf63 => ?_
  refine any_val (i := 39) (v := .bool (eqA (arr .u8 (turnF m a b)) (arr .u8 (turnF m a b)))) hf63 rfl rfl rfl rfl rfl rfl (fun _ _ _ h => h) (by kernel_rfl) (by kernel_rfl) (by kernel_rfl) (fun wd12 hS10 => (r_pickT rfl rfl)) hS10 fun ac59 hf64 => ?_
  refine any_val (i := 40) (v := .bool (eqA (arr .u8 (turnF m a b)) (arr .u8 (turnF m a b)))) hf64 rfl rfl rfl rfl rfl rfl (fun _ _ _ h => h) (by kernel_rfl) (by kernel_rfl) (by kernel_rfl) (fun wd12 hS10 => (r_move rfl)) hS10 fun ac60 hf65 => ?_
  have hf66 := hf65.know 65 (u := .bool true) rfl (congrArg Value.bool (eqA_true rfl))
  refine any_one (i := 41) (by kernel_rfl) ?_
  refine (op_pureW hf66 rfl rfl rfl rfl ca_23 (awake_walk tt _ (Has.cons (hI15.at 0 rfl) Has.nil)) hI15 fun ac61 wd13 hI16 hf67 => ⟨?_, ?_⟩)
  · exact (Has.cons (hI16.at 1 rfl) Has.nil)
  have hS11 : Has [(b1, arr .u8 m, 22)] _ := (Has.cons (hI16.at 1 rfl) Has.nil)
  refine any_val (i := 42) (v := .bool true) hf67 rfl rfl rfl rfl rfl rfl (fun _ _ _ h => h) (by kernel_rfl) (by kernel_rfl) (by kernel_rfl) (fun wd13 hS11 => (r_pickT rfl rfl)) hS11 fun ac62 hf68 => ?_
  refine any_val (i := 43) (v := .bool true) hf68 rfl rfl rfl rfl rfl rfl (fun _ _ _ h => h) (by kernel_rfl) (by kernel_rfl) (by kernel_rfl) (fun wd13 hS11 => (r_assign rfl)) hS11 fun ac63 hf69 => ?_
  refine any_end (by kernel_rfl) ?_
  clear hI5 ac19 hf19 ac20 hf20 ac21 wd3 hI6 hf21 hS1 ac22 wd4 hI7 hf22 hS2 ac23 hf23 ac24 hf24 hf25 ac25 hf26 ac26 hf27 ac27 hf28 ac28 hf29 ac29 hf30 hf31 ac30 hf32 ac31 hf33 ac32 hf34 ac33 hf35 ac34 hf36 hf37 ac35 hf38 ac36 hf39 ac37 hf40 ac38 hf41 ac39 wd5 hf42 hI8 hwq2 hzq2 hS3 ac40 wd6 hf43 hI9 hwq3 hzq3 hS4 ac41 wd7 hI10 hf44 hS5 ac42 hf45 ac43 hf46 hf47 ac44 wd8 hI11 hf48 hS6 ac45 wd9 hI12 hf49 hS7 ac46 hf50 ac47 hf51 ac48 hf52 hf53 ac49 hf54 ac50 hf55 ac51 hf56 ac52 hf57 ac53 hf58 ac54 hf59 ac55 wd10 hI13 hf60 hS8 ac56 wd11 hI14 hf61 hS9 ac57 hf62 ac58 hf63 ac59 hf64 hf65 ac60 wd12 hI15 hf66 hS10 ac61 hf67 ac62 hf68 hS11
  refine then_normal ?_
  refine wp_ret ?_
  refine post1 rfl hf69 rfl ⟨?_, Inv.unread (A := [(0, arr .u8 usualL, tt)]) (Inv.drop (A := [(0, arr .u8 usualL, tt)]) (B := ([(b1, arr .u8 m, 22)] ++ (Sq2 ++ Sq3))) hI16 (fk_app (fresh_keys (ks := [b1]) rfl (fk_cons hb1 fk_nil)) (fk_app hyq2 hyq3))) h0⟩
  rfl
end Go.Proofs.YtakkookpjhaekaaDoor
