/-
  The walk of PrioTurn.
-/
import Derived.Test.YtakkookpjhaekaaDoorPlain
namespace Go.Proofs.YtakkookpjhaekaaDoor
set_option linter.unusedVariables false
set_option linter.unusedSimpArgs false
set_option maxRecDepth 100000
open Go.RowKit
set_option maxHeartbeats 8000000 in
theorem prioTurn_walk (m : List Int) (hm : m.length = 16) (hk : InK .u8 m) (a b : Int) (wfa : (Lit.int .u8 a).wf = true) (wfb : (Lit.int .u8 b).wf = true) (tt : TypeId) (w : World) (h0 : Has [(0, arr .u8 usualL, tt)] w) : Calls Tryd.prog 5 [.agg (arr .u8 m), .int .u8 a, .int .u8 b].toArray w fun e w' => e = .returned (.bool true) ∧ Inv w [] w' := by
  have hI1 := Inv.startS h0 (List.pairwise_singleton _ _)
  refine enter (n := 70) Tryd.func5 rfl rfl rfl ?_
  intro ac1 hf1
  refine code_seq ?_
  refine seq_start (l := [0, 1]) rfl ?_
  refine seq_one (op_box hf1 rfl rfl rfl rfl hI1 fun ac2 b1 wd1 hb1 hI2 hf2 => ?_)
  have hI3 : Inv w [(0, arr .u8 usualL, tt), (b1, arr .u8 m, 22)] wd1 := hI2
  refine seq_one (op_val (v := .bool false) hf2 rfl rfl rfl rfl rfl rfl (r_assign rfl) fun ac3 hf3 => ?_)
  refine seq_end ?_
  clear ac1 hI1 hf1 hI2 ac2 hf2
  refine then_normal ?_
  refine code_seq ?_
  refine seq_start (l := [0, 1, 2, 3, 4, 5]) rfl ?_
  refine seq_one (op_val (v := .agg (arr .u8 m)) hf3 rfl rfl rfl rfl rfl rfl (r_loadW ag_22 sz_22 rfl (hI3.at 1 rfl) (arr_size hm)) fun ac4 hf4 => ?_)
  refine seq_one (op_val (v := .int .u8 a) hf4 rfl rfl rfl rfl rfl rfl (r_move rfl) fun ac5 hf5 => ?_)
  refine seq_one (op_val (v := .int .u8 b) hf5 rfl rfl rfl rfl rfl rfl (r_move rfl) fun ac6 hf6 => ?_)
  refine seq_one (op_pure hf6 rfl rfl rfl rfl ca_21 (turn_pur m hm hk a b) hI3 fun ac7 wd2 hI4 hf7 => ?_)
  refine seq_one (op_alloc hf7 rfl rfl rfl ze_22 hI4 fun ac8 b2 wd3 hb2 hI5 hf8 => ?_)
  have hI6 : Inv w [(0, arr .u8 usualL, tt), (b1, arr .u8 m, 22), (b2, #[.int .u8 0, .int .u8 0, .int .u8 0, .int .u8 0, .int .u8 0, .int .u8 0, .int .u8 0, .int .u8 0, .int .u8 0, .int .u8 0, .int .u8 0, .int .u8 0, .int .u8 0, .int .u8 0, .int .u8 0, .int .u8 0], 22)] wd3 := hI5
  refine seq_one (op_storeW (cells := arr .u8 (turnF m a b)) 2 hf8 rfl rfl rfl rfl rfl sz_22 (arr_size turn_len) arr_one hI6 rfl rfl fun wd4 hI7 => ?_)
  have hI8 : Inv w [(0, arr .u8 usualL, tt), (b1, arr .u8 m, 22), (b2, arr .u8 (turnF m a b), 22)] wd4 := hI7
  refine seq_end ?_
  clear ac3 hf3 ac4 hf4 ac5 hf5 ac6 wd1 hI3 hf6 ac7 wd2 hI4 hf7 hI5 wd3 hI6 hI7
  refine then_normal ?_
  refine code_seq ?_
  refine any_start (fun w => Has [(b1, arr .u8 m, 22), (b2, arr .u8 (turnF m a b), 22)] w) follows (Has.drew (Has.cons (hI8.at 1 rfl) (Has.cons (hI8.at 2 rfl) Has.nil))) ?_
  have hS1 : Has [(b1, arr .u8 m, 22), (b2, arr .u8 (turnF m a b), 22)] _ := Has.drew (Has.cons (hI8.at 1 rfl) (Has.cons (hI8.at 2 rfl) Has.nil))
  have hI9 := hI8.drew
  refine any_val (i := 0) (v := .agg (arr .u8 (turnF m a b))) hf8 rfl rfl rfl rfl rfl rfl (fun _ _ _ h => h) (by kernel_rfl) (by kernel_rfl) (by kernel_rfl) (fun wd4 hS1 => (r_loadW ag_22 sz_22 rfl (hS1.at 1 rfl) (arr_size turn_len))) hS1 fun ac9 hf9 => ?_
  refine any_val (i := 1) (v := .int .u8 a) hf9 rfl rfl rfl rfl rfl rfl (fun _ _ _ h => h) (by kernel_rfl) (by kernel_rfl) (by kernel_rfl) (fun wd4 hS1 => (r_move rfl)) hS1 fun ac10 hf10 => ?_
  refine any_val (i := 2) (v := .int .u8 b) hf10 rfl rfl rfl rfl rfl rfl (fun _ _ _ h => h) (by kernel_rfl) (by kernel_rfl) (by kernel_rfl) (fun wd4 hS1 => (r_move rfl)) hS1 fun ac11 hf11 => ?_
  refine any_val (i := 4) (v := .agg (arr .u8 m)) hf11 rfl rfl rfl rfl rfl rfl (fun _ _ _ h => h) (by kernel_rfl) (by kernel_rfl) (by kernel_rfl) (fun wd4 hS1 => (r_loadW ag_22 sz_22 rfl (hS1.at 0 rfl) (arr_size hm))) hS1 fun ac12 hf12 => ?_
  refine any_one (i := 3) (by kernel_rfl) ?_
  refine (op_pure hf12 rfl rfl rfl rfl ca_21 (turn_pur (turnF m a b) turn_len (turnF_ink hk wfa wfb) a b) hI9 fun ac13 wd5 hI10 hf13 => ⟨?_, ?_⟩)
  · exact (Has.cons (hI10.at 1 rfl) (Has.cons (hI10.at 2 rfl) Has.nil))
  have hS2 : Has [(b1, arr .u8 m, 22), (b2, arr .u8 (turnF m a b), 22)] _ := (Has.cons (hI10.at 1 rfl) (Has.cons (hI10.at 2 rfl) Has.nil))
  refine any_val (i := 5) (v := .bool (eqA (arr .u8 (turnF (turnF m a b) a b)) (arr .u8 m))) hf13 rfl rfl rfl rfl rfl rfl (fun _ _ _ h => h) (by kernel_rfl) (by kernel_rfl) (by kernel_rfl) (fun wd5 hS2 => (r_eqA sh_22 kt_22 rw_22 rfl zk_22 eg_22 rfl rfl (by have h := InK.oks (turnF_ink (turnF_ink hk wfa wfb) wfa wfb); rw [turn_len] at h; exact h) (by have h := InK.oks hk; rw [hm] at h; exact h))) hS2 fun ac14 hf14 => ?_
  refine any_val (i := 6) (v := .bool (eqA (arr .u8 (turnF (turnF m a b) a b)) (arr .u8 m))) hf14 rfl rfl rfl rfl rfl rfl (fun _ _ _ h => h) (by kernel_rfl) (by kernel_rfl) (by kernel_rfl) (fun wd5 hS2 => (r_move rfl)) hS2 fun ac15 hf15 => ?_
  have hf16 := hf15.know 18 (u := .bool true) rfl (congrArg Value.bool (eqA_true (congrArg (arr .u8) (turn_turn hm))))
  refine any_val (i := 7) (v := .agg (arr .u8 m)) hf16 rfl rfl rfl rfl rfl rfl (fun _ _ _ h => h) (by kernel_rfl) (by kernel_rfl) (by kernel_rfl) (fun wd5 hS2 => (r_loadW ag_22 sz_22 rfl (hS2.at 0 rfl) (arr_size hm))) hS2 fun ac16 hf17 => ?_
  refine any_val (i := 8) (v := .int .u8 b) hf17 rfl rfl rfl rfl rfl rfl (fun _ _ _ h => h) (by kernel_rfl) (by kernel_rfl) (by kernel_rfl) (fun wd5 hS2 => (r_move rfl)) hS2 fun ac17 hf18 => ?_
  refine any_val (i := 9) (v := .int .u8 a) hf18 rfl rfl rfl rfl rfl rfl (fun _ _ _ h => h) (by kernel_rfl) (by kernel_rfl) (by kernel_rfl) (fun wd5 hS2 => (r_move rfl)) hS2 fun ac18 hf19 => ?_
  refine any_val (i := 11) (v := .agg (arr .u8 (turnF m a b))) hf19 rfl rfl rfl rfl rfl rfl (fun _ _ _ h => h) (by kernel_rfl) (by kernel_rfl) (by kernel_rfl) (fun wd5 hS2 => (r_loadW ag_22 sz_22 rfl (hS2.at 1 rfl) (arr_size turn_len))) hS2 fun ac19 hf20 => ?_
  refine any_one (i := 10) (by kernel_rfl) ?_
  refine (op_pure hf20 rfl rfl rfl rfl ca_21 (turn_pur m hm hk b a) hI10 fun ac20 wd6 hI11 hf21 => ⟨?_, ?_⟩)
  · exact (Has.cons (hI11.at 1 rfl) (Has.cons (hI11.at 2 rfl) Has.nil))
  have hS3 : Has [(b1, arr .u8 m, 22), (b2, arr .u8 (turnF m a b), 22)] _ := (Has.cons (hI11.at 1 rfl) (Has.cons (hI11.at 2 rfl) Has.nil))
  refine any_val (i := 12) (v := .bool (eqA (arr .u8 (turnF m b a)) (arr .u8 (turnF m a b)))) hf21 rfl rfl rfl rfl rfl rfl (fun _ _ _ h => h) (by kernel_rfl) (by kernel_rfl) (by kernel_rfl) (fun wd6 hS3 => (r_eqA sh_22 kt_22 rw_22 rfl zk_22 eg_22 rfl rfl (by have h := InK.oks (turnF_ink hk wfb wfa); rw [turn_len] at h; exact h) (by have h := InK.oks (turnF_ink hk wfa wfb); rw [turn_len] at h; exact h))) hS3 fun ac21 hf22 => ?_
  refine any_val (i := 13) (v := .bool (eqA (arr .u8 (turnF m b a)) (arr .u8 (turnF m a b)))) hf22 rfl rfl rfl rfl rfl rfl (fun _ _ _ h => h) (by kernel_rfl) (by kernel_rfl) (by kernel_rfl) (fun wd6 hS3 => (r_pickT rfl rfl)) hS3 fun ac22 hf23 => ?_
  refine any_val (i := 14) (v := .bool (eqA (arr .u8 (turnF m b a)) (arr .u8 (turnF m a b)))) hf23 rfl rfl rfl rfl rfl rfl (fun _ _ _ h => h) (by kernel_rfl) (by kernel_rfl) (by kernel_rfl) (fun wd6 hS3 => (r_move rfl)) hS3 fun ac23 hf24 => ?_
  have hf25 := hf24.know 26 (u := .bool true) rfl (congrArg Value.bool (eqA_true (congrArg (arr .u8) turn_comm)))
  refine any_val (i := 15) (v := .agg (arr .u8 m)) hf25 rfl rfl rfl rfl rfl rfl (fun _ _ _ h => h) (by kernel_rfl) (by kernel_rfl) (by kernel_rfl) (fun wd6 hS3 => (r_loadW ag_22 sz_22 rfl (hS3.at 0 rfl) (arr_size hm))) hS3 fun ac24 hf26 => ?_
  refine any_val (i := 16) (v := .int .u8 a) hf26 rfl rfl rfl rfl rfl rfl (fun _ _ _ h => h) (by kernel_rfl) (by kernel_rfl) (by kernel_rfl) (fun wd6 hS3 => (r_move rfl)) hS3 fun ac25 hf27 => ?_
  refine any_val (i := 17) (v := .int .u8 a) hf27 rfl rfl rfl rfl rfl rfl (fun _ _ _ h => h) (by kernel_rfl) (by kernel_rfl) (by kernel_rfl) (fun wd6 hS3 => (r_move rfl)) hS3 fun ac26 hf28 => ?_
  refine any_val (i := 19) (v := .agg (arr .u8 m)) hf28 rfl rfl rfl rfl rfl rfl (fun _ _ _ h => h) (by kernel_rfl) (by kernel_rfl) (by kernel_rfl) (fun wd6 hS3 => (r_loadW ag_22 sz_22 rfl (hS3.at 0 rfl) (arr_size hm))) hS3 fun ac27 hf29 => ?_
  refine any_one (i := 18) (by kernel_rfl) ?_
  refine (op_pure hf29 rfl rfl rfl rfl ca_21 (turn_pur m hm hk a a) hI11 fun ac28 wd7 hI12 hf30 => ⟨?_, ?_⟩)
  · exact (Has.cons (hI12.at 1 rfl) (Has.cons (hI12.at 2 rfl) Has.nil))
  have hS4 : Has [(b1, arr .u8 m, 22), (b2, arr .u8 (turnF m a b), 22)] _ := (Has.cons (hI12.at 1 rfl) (Has.cons (hI12.at 2 rfl) Has.nil))
  refine any_val (i := 20) (v := .bool (eqA (arr .u8 (turnF m a a)) (arr .u8 m))) hf30 rfl rfl rfl rfl rfl rfl (fun _ _ _ h => h) (by kernel_rfl) (by kernel_rfl) (by kernel_rfl) (fun wd7 hS4 => (r_eqA sh_22 kt_22 rw_22 rfl zk_22 eg_22 rfl rfl (by have h := InK.oks (turnF_ink hk wfa wfa); rw [turn_len] at h; exact h) (by have h := InK.oks hk; rw [hm] at h; exact h))) hS4 fun ac29 hf31 => ?_
  refine any_val (i := 21) (v := .bool (eqA (arr .u8 (turnF m a a)) (arr .u8 m))) hf31 rfl rfl rfl rfl rfl rfl (fun _ _ _ h => h) (by kernel_rfl) (by kernel_rfl) (by kernel_rfl) (fun wd7 hS4 => (r_pickT rfl rfl)) hS4 fun ac30 hf32 => ?_
  refine any_val (i := 22) (v := .bool (eqA (arr .u8 (turnF m a a)) (arr .u8 m))) hf32 rfl rfl rfl rfl rfl rfl (fun _ _ _ h => h) (by kernel_rfl) (by kernel_rfl) (by kernel_rfl) (fun wd7 hS4 => (r_move rfl)) hS4 fun ac31 hf33 => ?_
  have hf34 := hf33.know 34 (u := .bool true) rfl (congrArg Value.bool (eqA_true (congrArg (arr .u8) (turn_self hm))))
  refine any_val (i := 23) (v := .agg (arr .u8 (turnF m a b))) hf34 rfl rfl rfl rfl rfl rfl (fun _ _ _ h => h) (by kernel_rfl) (by kernel_rfl) (by kernel_rfl) (fun wd7 hS4 => (r_loadW ag_22 sz_22 rfl (hS4.at 1 rfl) (arr_size turn_len))) hS4 fun ac32 hf35 => ?_
  refine any_val (i := 24) (v := .int .u8 b) hf35 rfl rfl rfl rfl rfl rfl (fun _ _ _ h => h) (by kernel_rfl) (by kernel_rfl) (by kernel_rfl) (fun wd7 hS4 => (r_move rfl)) hS4 fun ac33 hf36 => ?_
  refine any_val (i := 26) (v := .agg (arr .u8 m)) hf36 rfl rfl rfl rfl rfl rfl (fun _ _ _ h => h) (by kernel_rfl) (by kernel_rfl) (by kernel_rfl) (fun wd7 hS4 => (r_loadW ag_22 sz_22 rfl (hS4.at 0 rfl) (arr_size hm))) hS4 fun ac34 hf37 => ?_
  refine any_val (i := 27) (v := .int .u8 a) hf37 rfl rfl rfl rfl rfl rfl (fun _ _ _ h => h) (by kernel_rfl) (by kernel_rfl) (by kernel_rfl) (fun wd7 hS4 => (r_move rfl)) hS4 fun ac35 hf38 => ?_
  refine any_one (i := 25) (by kernel_rfl) ?_
  refine (op_call (R := fun v w' => ∃ S p cap, v = .slice p (ofL (turnF m a b) b 16).length cap ∧ Sl 5 .u8 S p cap (ofL (turnF m a b) b 16) ∧ Inv wd7 S w' ∧ ∀ x ∈ S, wd7.heap.size ≤ x.1) hf38 rfl rfl rfl rfl ca_17 ((of_mk (turnF m a b) turn_len (turnF_ink hk wfa wfb) b _).mono fun _ _ ⟨S, p, cap, he, h1, _, h3, h4⟩ => ⟨_, he, S, p, cap, rfl, h1, h3, h4⟩) fun ac36 v wd8 hR hf39 => ?_)
  obtain ⟨Sq3, q3, capq3, rfl, hsq3, hwq3, hzq3⟩ := hR
  have hyq3 := fk_le hI12.size hzq3
  have hI13 : Inv w ([(0, arr .u8 usualL, tt), (b1, arr .u8 m, 22), (b2, arr .u8 (turnF m a b), 22)] ++ Sq3) _ := hI12.callN hwq3 hzq3
  refine ⟨?_, ?_⟩
  · exact (Has.cons (hI13.at 1 rfl) (Has.cons (hI13.at 2 rfl) Has.nil))
  have hS5 : Has [(b1, arr .u8 m, 22), (b2, arr .u8 (turnF m a b), 22)] _ := (Has.cons (hI13.at 1 rfl) (Has.cons (hI13.at 2 rfl) Has.nil))
  refine any_one (i := 28) (by kernel_rfl) ?_
  refine (op_call (R := fun v w' => ∃ S p cap, v = .slice p (ofL m a 16).length cap ∧ Sl 5 .u8 S p cap (ofL m a 16) ∧ Inv wd8 S w' ∧ ∀ x ∈ S, wd8.heap.size ≤ x.1) hf39 rfl rfl rfl rfl ca_17 ((of_mk m hm hk a _).mono fun _ _ ⟨S, p, cap, he, h1, _, h3, h4⟩ => ⟨_, he, S, p, cap, rfl, h1, h3, h4⟩) fun ac37 v wd9 hR hf40 => ?_)
  obtain ⟨Sq4, q4, capq4, rfl, hsq4, hwq4, hzq4⟩ := hR
  have hyq4 := fk_le hI13.size hzq4
  have hI14 : Inv w ([(0, arr .u8 usualL, tt), (b1, arr .u8 m, 22), (b2, arr .u8 (turnF m a b), 22)] ++ (Sq3 ++ Sq4)) _ := hI13.callN hwq4 hzq4
  refine ⟨?_, ?_⟩
  · exact (Has.cons (hI14.at 1 rfl) (Has.cons (hI14.at 2 rfl) Has.nil))
  have hS6 : Has [(b1, arr .u8 m, 22), (b2, arr .u8 (turnF m a b), 22)] _ := (Has.cons (hI14.at 1 rfl) (Has.cons (hI14.at 2 rfl) Has.nil))
  refine any_one (i := 29) (by kernel_rfl) ?_
  refine (op_pureW hf40 rfl rfl rfl rfl ca_16 (same_walk (xs := ofL (turnF m a b) b 16) (ys := ofL m a 16) (hsq3.rd hI14 (fun x hx => List.mem_append_right _ (List.mem_append_left _ hx))) (hsq4.rd hI14 (fun x hx => List.mem_append_right _ (List.mem_append_right _ hx))) ofL_u8 ofL_u8) hI14 fun ac38 wd10 hI15 hf41 => ⟨?_, ?_⟩)
  · exact (Has.cons (hI15.at 1 rfl) (Has.cons (hI15.at 2 rfl) Has.nil))
  have hS7 : Has [(b1, arr .u8 m, 22), (b2, arr .u8 (turnF m a b), 22)] _ := (Has.cons (hI15.at 1 rfl) (Has.cons (hI15.at 2 rfl) Has.nil))
  refine any_val (i := 30) (v := .bool ((ofL (turnF m a b) b 16) == (ofL m a 16))) hf41 rfl rfl rfl rfl rfl rfl (fun _ _ _ h => h) (by kernel_rfl) (by kernel_rfl) (by kernel_rfl) (fun wd10 hS7 => (r_pickT rfl rfl)) hS7 fun ac39 hf42 => ?_
  refine any_val (i := 31) (v := .bool ((ofL (turnF m a b) b 16) == (ofL m a 16))) hf42 rfl rfl rfl rfl rfl rfl (fun _ _ _ h => h) (by kernel_rfl) (by kernel_rfl) (by kernel_rfl) (fun wd10 hS7 => (r_move rfl)) hS7 fun ac40 hf43 => ?_
  have hf44 := hf43.know 43 (u := .bool true) rfl (congrArg Value.bool (beq_iff_eq.2 of_turn1))
  refine any_val (i := 32) (v := .agg (arr .u8 (turnF m a b))) hf44 rfl rfl rfl rfl rfl rfl (fun _ _ _ h => h) (by kernel_rfl) (by kernel_rfl) (by kernel_rfl) (fun wd10 hS7 => (r_loadW ag_22 sz_22 rfl (hS7.at 1 rfl) (arr_size turn_len))) hS7 fun ac41 hf45 => ?_
  refine any_val (i := 33) (v := .int .u8 a) hf45 rfl rfl rfl rfl rfl rfl (fun _ _ _ h => h) (by kernel_rfl) (by kernel_rfl) (by kernel_rfl) (fun wd10 hS7 => (r_move rfl)) hS7 fun ac42 hf46 => ?_
  refine any_val (i := 35) (v := .agg (arr .u8 m)) hf46 rfl rfl rfl rfl rfl rfl (fun _ _ _ h => h) (by kernel_rfl) (by kernel_rfl) (by kernel_rfl) (fun wd10 hS7 => (r_loadW ag_22 sz_22 rfl (hS7.at 0 rfl) (arr_size hm))) hS7 fun ac43 hf47 => ?_
  refine any_val (i := 36) (v := .int .u8 b) hf47 rfl rfl rfl rfl rfl rfl (fun _ _ _ h => h) (by kernel_rfl) (by kernel_rfl) (by kernel_rfl) (fun wd10 hS7 => (r_move rfl)) hS7 fun ac44 hf48 => ?_
  refine any_one (i := 34) (by kernel_rfl) ?_
  refine (op_call (R := fun v w' => ∃ S p cap, v = .slice p (ofL (turnF m a b) a 16).length cap ∧ Sl 5 .u8 S p cap (ofL (turnF m a b) a 16) ∧ Inv wd10 S w' ∧ ∀ x ∈ S, wd10.heap.size ≤ x.1) hf48 rfl rfl rfl rfl ca_17 ((of_mk (turnF m a b) turn_len (turnF_ink hk wfa wfb) a _).mono fun _ _ ⟨S, p, cap, he, h1, _, h3, h4⟩ => ⟨_, he, S, p, cap, rfl, h1, h3, h4⟩) fun ac45 v wd11 hR hf49 => ?_)
  obtain ⟨Sq5, q5, capq5, rfl, hsq5, hwq5, hzq5⟩ := hR
  have hyq5 := fk_le hI15.size hzq5
  have hI16 : Inv w ([(0, arr .u8 usualL, tt), (b1, arr .u8 m, 22), (b2, arr .u8 (turnF m a b), 22)] ++ ((Sq3 ++ Sq4) ++ Sq5)) _ := hI15.callN hwq5 hzq5
  refine ⟨?_, ?_⟩
  · exact (Has.cons (hI16.at 1 rfl) (Has.cons (hI16.at 2 rfl) Has.nil))
  have hS8 : Has [(b1, arr .u8 m, 22), (b2, arr .u8 (turnF m a b), 22)] _ := (Has.cons (hI16.at 1 rfl) (Has.cons (hI16.at 2 rfl) Has.nil))
  refine any_one (i := 37) (by kernel_rfl) ?_
  refine (op_call (R := fun v w' => ∃ S p cap, v = .slice p (ofL m b 16).length cap ∧ Sl 5 .u8 S p cap (ofL m b 16) ∧ Inv wd11 S w' ∧ ∀ x ∈ S, wd11.heap.size ≤ x.1) hf49 rfl rfl rfl rfl ca_17 ((of_mk m hm hk b _).mono fun _ _ ⟨S, p, cap, he, h1, _, h3, h4⟩ => ⟨_, he, S, p, cap, rfl, h1, h3, h4⟩) fun ac46 v wd12 hR hf50 => ?_)
  obtain ⟨Sq6, q6, capq6, rfl, hsq6, hwq6, hzq6⟩ := hR
  have hyq6 := fk_le hI16.size hzq6
  have hI17 : Inv w ([(0, arr .u8 usualL, tt), (b1, arr .u8 m, 22), (b2, arr .u8 (turnF m a b), 22)] ++ (((Sq3 ++ Sq4) ++ Sq5) ++ Sq6)) _ := hI16.callN hwq6 hzq6
  refine ⟨?_, ?_⟩
  · exact (Has.cons (hI17.at 1 rfl) (Has.cons (hI17.at 2 rfl) Has.nil))
  have hS9 : Has [(b1, arr .u8 m, 22), (b2, arr .u8 (turnF m a b), 22)] _ := (Has.cons (hI17.at 1 rfl) (Has.cons (hI17.at 2 rfl) Has.nil))
  refine any_one (i := 38) (by kernel_rfl) ?_
  refine (op_pureW hf50 rfl rfl rfl rfl ca_16 (same_walk (xs := ofL (turnF m a b) a 16) (ys := ofL m b 16) (hsq5.rd hI17 (fun x hx => List.mem_append_right _ (List.mem_append_left _ (List.mem_append_right _ hx)))) (hsq6.rd hI17 (fun x hx => List.mem_append_right _ (List.mem_append_right _ hx))) ofL_u8 ofL_u8) hI17 fun ac47 wd13 hI18 hf51 => ⟨?_, ?_⟩)
  · exact (Has.cons (hI18.at 1 rfl) (Has.cons (hI18.at 2 rfl) Has.nil))
  have hS10 : Has [(b1, arr .u8 m, 22), (b2, arr .u8 (turnF m a b), 22)] _ := (Has.cons (hI18.at 1 rfl) (Has.cons (hI18.at 2 rfl) Has.nil))
  refine any_val (i := 39) (v := .bool ((ofL (turnF m a b) a 16) == (ofL m b 16))) hf51 rfl rfl rfl rfl rfl rfl (fun _ _ _ h => h) (by kernel_rfl) (by kernel_rfl) (by kernel_rfl) (fun wd13 hS10 => (r_pickT rfl rfl)) hS10 fun ac48 hf52 => ?_
  refine any_val (i := 40) (v := .bool ((ofL (turnF m a b) a 16) == (ofL m b 16))) hf52 rfl rfl rfl rfl rfl rfl (fun _ _ _ h => h) (by kernel_rfl) (by kernel_rfl) (by kernel_rfl) (fun wd13 hS10 => (r_move rfl)) hS10 fun ac49 hf53 => ?_
  have hf54 := hf53.know 52 (u := .bool true) rfl (congrArg Value.bool (beq_iff_eq.2 of_turn2))
  refine any_val (i := 41) (v := .int .u8 a) hf54 rfl rfl rfl rfl rfl rfl (fun _ _ _ h => h) (by kernel_rfl) (by kernel_rfl) (by kernel_rfl) (fun wd13 hS10 => (r_move rfl)) hS10 fun ac50 hf55 => ?_
  refine any_val (i := 42) (v := .bool (decide (a > 3))) hf55 rfl rfl rfl rfl rfl rfl (fun _ _ _ h => h) (by kernel_rfl) (by kernel_rfl) (by kernel_rfl) (fun wd13 hS10 => (r_gtr rfl rfl)) hS10 fun ac51 hf56 => ?_
  refine any_val (i := 43) (v := .bool (decide (a > 3))) hf56 rfl rfl rfl rfl rfl rfl (fun _ _ _ h => h) (by kernel_rfl) (by kernel_rfl) (by kernel_rfl) (fun wd13 hS10 => (r_move rfl)) hS10 fun ac52 hf57 => ?_
  rcases Bool.eq_false_or_eq_true (decide (a > 3) : Bool) with g55_1 | g55_1
  · have hf58 := hf57.know 55 (u := .bool true) rfl (congrArg Value.bool g55_1)
    refine any_skip (i := 44) hf58 rfl rfl rfl rfl (fun _ _ _ h => h) (by kernel_rfl) (by kernel_rfl) (by kernel_rfl) hS10 fun ac53 hf59 => ?_
    refine any_skip (i := 45) hf59 rfl rfl rfl rfl (fun _ _ _ h => h) (by kernel_rfl) (by kernel_rfl) (by kernel_rfl) hS10 fun ac54 hf60 => ?_
    refine any_val (i := 46) (v := .bool true) hf60 rfl rfl rfl rfl rfl rfl (fun _ _ _ h => h) (by kernel_rfl) (by kernel_rfl) (by kernel_rfl) (fun wd13 hS10 => (r_pickT rfl rfl)) hS10 fun ac55 hf61 => ?_
    refine any_val (i := 47) (v := .bool true) hf61 rfl rfl rfl rfl rfl rfl (fun _ _ _ h => h) (by kernel_rfl) (by kernel_rfl) (by kernel_rfl) (fun wd13 hS10 => (r_move rfl)) hS10 fun ac56 hf62 => ?_
    refine any_skip (i := 48) hf62 rfl rfl rfl rfl (fun _ _ _ h => h) (by kernel_rfl) (by kernel_rfl) (by kernel_rfl) hS10 fun ac57 hf63 => ?_
    refine any_skip (i := 49) hf63 rfl rfl rfl rfl (fun _ _ _ h => h) (by kernel_rfl) (by kernel_rfl) (by kernel_rfl) hS10 fun ac58 hf64 => ?_
    refine any_skip (i := 50) hf64 rfl rfl rfl rfl (fun _ _ _ h => h) (by kernel_rfl) (by kernel_rfl) (by kernel_rfl) hS10 fun ac59 hf65 => ?_
    refine any_skip (i := 51) hf65 rfl rfl rfl rfl (fun _ _ _ h => h) (by kernel_rfl) (by kernel_rfl) (by kernel_rfl) hS10 fun ac60 hf66 => ?_
    refine any_skip (i := 52) hf66 rfl rfl rfl rfl (fun _ _ _ h => h) (by kernel_rfl) (by kernel_rfl) (by kernel_rfl) hS10 fun ac61 hf67 => ?_
    refine any_val (i := 53) (v := .bool true) hf67 rfl rfl rfl rfl rfl rfl (fun _ _ _ h => h) (by kernel_rfl) (by kernel_rfl) (by kernel_rfl) (fun wd13 hS10 => (r_pickT rfl rfl)) hS10 fun ac62 hf68 => ?_
    refine any_val (i := 54) (v := .bool true) hf68 rfl rfl rfl rfl rfl rfl (fun _ _ _ h => h) (by kernel_rfl) (by kernel_rfl) (by kernel_rfl) (fun wd13 hS10 => (r_pickT rfl rfl)) hS10 fun ac63 hf69 => ?_
    refine any_val (i := 55) (v := .bool true) hf69 rfl rfl rfl rfl rfl rfl (fun _ _ _ h => h) (by kernel_rfl) (by kernel_rfl) (by kernel_rfl) (fun wd13 hS10 => (r_move rfl)) hS10 fun ac64 hf70 => ?_
    refine any_one (i := 56) (by kernel_rfl) ?_
    refine (op_pureW hf70 rfl rfl rfl rfl ca_23 (awake_walk tt _ (Has.cons (hI18.at 0 rfl) Has.nil)) hI18 fun ac65 wd14 hI19 hf71 => ⟨?_, ?_⟩)
    · exact (Has.cons (hI19.at 1 rfl) (Has.cons (hI19.at 2 rfl) Has.nil))
    have hS11 : Has [(b1, arr .u8 m, 22), (b2, arr .u8 (turnF m a b), 22)] _ := (Has.cons (hI19.at 1 rfl) (Has.cons (hI19.at 2 rfl) Has.nil))
    refine any_val (i := 57) (v := .bool true) hf71 rfl rfl rfl rfl rfl rfl (fun _ _ _ h => h) (by kernel_rfl) (by kernel_rfl) (by kernel_rfl) (fun wd14 hS11 => (r_pickT rfl rfl)) hS11 fun ac66 hf72 => ?_
    refine any_val (i := 58) (v := .bool true) hf72 rfl rfl rfl rfl rfl rfl (fun _ _ _ h => h) (by kernel_rfl) (by kernel_rfl) (by kernel_rfl) (fun wd14 hS11 => (r_assign rfl)) hS11 fun ac67 hf73 => ?_
    refine any_end (by kernel_rfl) ?_
    clear hI8 ac8 hf8 ac9 hf9 ac10 hf10 ac11 hf11 ac12 wd4 hI9 hf12 hS1 ac13 hf13 ac14 hf14 hf15 ac15 hf16 ac16 hf17 ac17 hf18 ac18 hf19 ac19 wd5 hI10 hf20 hS2 ac20 hf21 ac21 hf22 ac22 hf23 hf24 ac23 hf25 ac24 hf26 ac25 hf27 ac26 hf28 ac27 wd6 hI11 hf29 hS3 ac28 hf30 ac29 hf31 ac30 hf32 hf33 ac31 hf34 ac32 hf35 ac33 hf36 ac34 hf37 ac35 wd7 hf38 hI12 hwq3 hzq3 hS4 ac36 wd8 hf39 hI13 hwq4 hzq4 hS5 ac37 wd9 hI14 hf40 hS6 ac38 hf41 ac39 hf42 hf43 ac40 hf44 ac41 hf45 ac42 hf46 ac43 hf47 ac44 wd10 hf48 hI15 hwq5 hzq5 hS7 ac45 wd11 hf49 hI16 hwq6 hzq6 hS8 ac46 wd12 hI17 hf50 hS9 ac47 hf51 ac48 hf52 hf53 ac49 hf54 ac50 hf55 ac51 hf56 hf57 ac52 hf58 ac53 hf59 ac54 hf60 ac55 hf61 ac56 hf62 ac57 hf63 ac58 hf64 ac59 hf65 ac60 hf66 ac61 hf67 ac62 hf68 ac63 hf69 ac64 wd13 hI18 hf70 hS10 ac65 hf71 ac66 hf72 hS11
    refine then_normal ?_
    refine wp_ret ?_
    refine post1 rfl hf73 rfl ⟨?_, Inv.unread (A := [(0, arr .u8 usualL, tt)]) (Inv.drop (A := [(0, arr .u8 usualL, tt)]) (B := ([(b1, arr .u8 m, 22), (b2, arr .u8 (turnF m a b), 22)] ++ (((Sq3 ++ Sq4) ++ Sq5) ++ Sq6))) hI19 (fk_app (fresh_keys (ks := [b1, b2]) rfl (fk_cons hb1 (fk_cons hb2 fk_nil))) (fk_app (fk_app (fk_app hyq3 hyq4) hyq5) hyq6))) h0⟩
    rfl
  · have hf74 := hf57.know 55 (u := .bool false) rfl (congrArg Value.bool g55_1)
    refine any_val (i := 44) (v := .int .u8 b) hf74 rfl rfl rfl rfl rfl rfl (fun _ _ _ h => h) (by kernel_rfl) (by kernel_rfl) (by kernel_rfl) (fun wd13 hS10 => (r_move rfl)) hS10 fun ac68 hf75 => ?_
    refine any_val (i := 45) (v := .bool (decide (b > 3))) hf75 rfl rfl rfl rfl rfl rfl (fun _ _ _ h => h) (by kernel_rfl) (by kernel_rfl) (by kernel_rfl) (fun wd13 hS10 => (r_gtr rfl rfl)) hS10 fun ac69 hf76 => ?_
    refine any_val (i := 46) (v := .bool (decide (b > 3))) hf76 rfl rfl rfl rfl rfl rfl (fun _ _ _ h => h) (by kernel_rfl) (by kernel_rfl) (by kernel_rfl) (fun wd13 hS10 => (r_pickF rfl rfl)) hS10 fun ac70 hf77 => ?_
    refine any_val (i := 47) (v := .bool (decide (b > 3))) hf77 rfl rfl rfl rfl rfl rfl (fun _ _ _ h => h) (by kernel_rfl) (by kernel_rfl) (by kernel_rfl) (fun wd13 hS10 => (r_move rfl)) hS10 fun ac71 hf78 => ?_
    rcases Bool.eq_false_or_eq_true (decide (b > 3) : Bool) with g59_2 | g59_2
    · have hf79 := hf78.know 59 (u := .bool true) rfl (congrArg Value.bool g59_2)
      refine any_skip (i := 48) hf79 rfl rfl rfl rfl (fun _ _ _ h => h) (by kernel_rfl) (by kernel_rfl) (by kernel_rfl) hS10 fun ac72 hf80 => ?_
      refine any_skip (i := 49) hf80 rfl rfl rfl rfl (fun _ _ _ h => h) (by kernel_rfl) (by kernel_rfl) (by kernel_rfl) hS10 fun ac73 hf81 => ?_
      refine any_skip (i := 50) hf81 rfl rfl rfl rfl (fun _ _ _ h => h) (by kernel_rfl) (by kernel_rfl) (by kernel_rfl) hS10 fun ac74 hf82 => ?_
      refine any_skip (i := 51) hf82 rfl rfl rfl rfl (fun _ _ _ h => h) (by kernel_rfl) (by kernel_rfl) (by kernel_rfl) hS10 fun ac75 hf83 => ?_
      refine any_skip (i := 52) hf83 rfl rfl rfl rfl (fun _ _ _ h => h) (by kernel_rfl) (by kernel_rfl) (by kernel_rfl) hS10 fun ac76 hf84 => ?_
      refine any_val (i := 53) (v := .bool true) hf84 rfl rfl rfl rfl rfl rfl (fun _ _ _ h => h) (by kernel_rfl) (by kernel_rfl) (by kernel_rfl) (fun wd13 hS10 => (r_pickT rfl rfl)) hS10 fun ac77 hf85 => ?_
      refine any_val (i := 54) (v := .bool true) hf85 rfl rfl rfl rfl rfl rfl (fun _ _ _ h => h) (by kernel_rfl) (by kernel_rfl) (by kernel_rfl) (fun wd13 hS10 => (r_pickT rfl rfl)) hS10 fun ac78 hf86 => ?_
      refine any_val (i := 55) (v := .bool true) hf86 rfl rfl rfl rfl rfl rfl (fun _ _ _ h => h) (by kernel_rfl) (by kernel_rfl) (by kernel_rfl) (fun wd13 hS10 => (r_move rfl)) hS10 fun ac79 hf87 => ?_
      refine any_one (i := 56) (by kernel_rfl) ?_
      refine (op_pureW hf87 rfl rfl rfl rfl ca_23 (awake_walk tt _ (Has.cons (hI18.at 0 rfl) Has.nil)) hI18 fun ac80 wd15 hI20 hf88 => ⟨?_, ?_⟩)
      · exact (Has.cons (hI20.at 1 rfl) (Has.cons (hI20.at 2 rfl) Has.nil))
      have hS12 : Has [(b1, arr .u8 m, 22), (b2, arr .u8 (turnF m a b), 22)] _ := (Has.cons (hI20.at 1 rfl) (Has.cons (hI20.at 2 rfl) Has.nil))
      refine any_val (i := 57) (v := .bool true) hf88 rfl rfl rfl rfl rfl rfl (fun _ _ _ h => h) (by kernel_rfl) (by kernel_rfl) (by kernel_rfl) (fun wd15 hS12 => (r_pickT rfl rfl)) hS12 fun ac81 hf89 => ?_
      refine any_val (i := 58) (v := .bool true) hf89 rfl rfl rfl rfl rfl rfl (fun _ _ _ h => h) (by kernel_rfl) (by kernel_rfl) (by kernel_rfl) (fun wd15 hS12 => (r_assign rfl)) hS12 fun ac82 hf90 => ?_
      refine any_end (by kernel_rfl) ?_
      clear hI8 ac8 hf8 ac9 hf9 ac10 hf10 ac11 hf11 ac12 wd4 hI9 hf12 hS1 ac13 hf13 ac14 hf14 hf15 ac15 hf16 ac16 hf17 ac17 hf18 ac18 hf19 ac19 wd5 hI10 hf20 hS2 ac20 hf21 ac21 hf22 ac22 hf23 hf24 ac23 hf25 ac24 hf26 ac25 hf27 ac26 hf28 ac27 wd6 hI11 hf29 hS3 ac28 hf30 ac29 hf31 ac30 hf32 hf33 ac31 hf34 ac32 hf35 ac33 hf36 ac34 hf37 ac35 wd7 hf38 hI12 hwq3 hzq3 hS4 ac36 wd8 hf39 hI13 hwq4 hzq4 hS5 ac37 wd9 hI14 hf40 hS6 ac38 hf41 ac39 hf42 hf43 ac40 hf44 ac41 hf45 ac42 hf46 ac43 hf47 ac44 wd10 hf48 hI15 hwq5 hzq5 hS7 ac45 wd11 hf49 hI16 hwq6 hzq6 hS8 ac46 wd12 hI17 hf50 hS9 ac47 hf51 ac48 hf52 hf53 ac49 hf54 ac50 hf55 ac51 hf56 hf57 ac52 hf74 ac68 hf75 ac69 hf76 ac70 hf77 hf78 ac71 hf79 ac72 hf80 ac73 hf81 ac74 hf82 ac75 hf83 ac76 hf84 ac77 hf85 ac78 hf86 ac79 wd13 hI18 hf87 hS10 ac80 hf88 ac81 hf89 hS12
      refine then_normal ?_
      refine wp_ret ?_
      refine post1 rfl hf90 rfl ⟨?_, Inv.unread (A := [(0, arr .u8 usualL, tt)]) (Inv.drop (A := [(0, arr .u8 usualL, tt)]) (B := ([(b1, arr .u8 m, 22), (b2, arr .u8 (turnF m a b), 22)] ++ (((Sq3 ++ Sq4) ++ Sq5) ++ Sq6))) hI20 (fk_app (fresh_keys (ks := [b1, b2]) rfl (fk_cons hb1 (fk_cons hb2 fk_nil))) (fk_app (fk_app (fk_app hyq3 hyq4) hyq5) hyq6))) h0⟩
      rfl
    · have hf91 := hf78.know 59 (u := .bool false) rfl (congrArg Value.bool g59_2)
      refine any_val (i := 48) (v := .agg (arr .u8 (turnF m a b))) hf91 rfl rfl rfl rfl rfl rfl (fun _ _ _ h => h) (by kernel_rfl) (by kernel_rfl) (by kernel_rfl) (fun wd13 hS10 => (r_loadW ag_22 sz_22 rfl (hS10.at 1 rfl) (arr_size turn_len))) hS10 fun ac83 hf92 => ?_
      refine any_val (i := 50) (v := .agg (arr .u8 m)) hf92 rfl rfl rfl rfl rfl rfl (fun _ _ _ h => h) (by kernel_rfl) (by kernel_rfl) (by kernel_rfl) (fun wd13 hS10 => (r_loadW ag_22 sz_22 rfl (hS10.at 0 rfl) (arr_size hm))) hS10 fun ac84 hf93 => ?_
      refine any_one (i := 49) (by kernel_rfl) ?_
      refine (op_pure hf93 rfl rfl rfl rfl ca_14 (right_pur (turnF m a b) turn_len (turnF_ink hk wfa wfb)) hI18 fun ac85 wd16 hI21 hf94 => ⟨?_, ?_⟩)
      · exact (Has.cons (hI21.at 1 rfl) (Has.cons (hI21.at 2 rfl) Has.nil))
      have hS13 : Has [(b1, arr .u8 m, 22), (b2, arr .u8 (turnF m a b), 22)] _ := (Has.cons (hI21.at 1 rfl) (Has.cons (hI21.at 2 rfl) Has.nil))
      refine any_one (i := 51) (by kernel_rfl) ?_
      refine (op_pure hf94 rfl rfl rfl rfl ca_14 (right_pur m hm hk) hI21 fun ac86 wd17 hI22 hf95 => ⟨?_, ?_⟩)
      · exact (Has.cons (hI22.at 1 rfl) (Has.cons (hI22.at 2 rfl) Has.nil))
      have hS14 : Has [(b1, arr .u8 m, 22), (b2, arr .u8 (turnF m a b), 22)] _ := (Has.cons (hI22.at 1 rfl) (Has.cons (hI22.at 2 rfl) Has.nil))
      refine any_val (i := 52) (v := .bool ((rightF (turnF m a b)) == (rightF m))) hf95 rfl rfl rfl rfl rfl rfl (fun _ _ _ h => h) (by kernel_rfl) (by kernel_rfl) (by kernel_rfl) (fun wd17 hS14 => (r_eqB ub_4 rfl rfl)) hS14 fun ac87 hf96 => ?_
      refine any_val (i := 53) (v := .bool ((rightF (turnF m a b)) == (rightF m))) hf96 rfl rfl rfl rfl rfl rfl (fun _ _ _ h => h) (by kernel_rfl) (by kernel_rfl) (by kernel_rfl) (fun wd17 hS14 => (r_pickF rfl rfl)) hS14 fun ac88 hf97 => ?_
      refine any_val (i := 54) (v := .bool ((rightF (turnF m a b)) == (rightF m))) hf97 rfl rfl rfl rfl rfl rfl (fun _ _ _ h => h) (by kernel_rfl) (by kernel_rfl) (by kernel_rfl) (fun wd17 hS14 => (r_pickT rfl rfl)) hS14 fun ac89 hf98 => ?_
      refine any_val (i := 55) (v := .bool ((rightF (turnF m a b)) == (rightF m))) hf98 rfl rfl rfl rfl rfl rfl (fun _ _ _ h => h) (by kernel_rfl) (by kernel_rfl) (by kernel_rfl) (fun wd17 hS14 => (r_move rfl)) hS14 fun ac90 hf99 => ?_
      have hf100 := hf99.know 67 (u := .bool true) rfl (congrArg Value.bool (beq_iff_eq.2 (right_turn hm g55_1 g59_2)))
      refine any_one (i := 56) (by kernel_rfl) ?_
      refine (op_pureW hf100 rfl rfl rfl rfl ca_23 (awake_walk tt _ (Has.cons (hI22.at 0 rfl) Has.nil)) hI22 fun ac91 wd18 hI23 hf101 => ⟨?_, ?_⟩)
      · exact (Has.cons (hI23.at 1 rfl) (Has.cons (hI23.at 2 rfl) Has.nil))
      have hS15 : Has [(b1, arr .u8 m, 22), (b2, arr .u8 (turnF m a b), 22)] _ := (Has.cons (hI23.at 1 rfl) (Has.cons (hI23.at 2 rfl) Has.nil))
      refine any_val (i := 57) (v := .bool true) hf101 rfl rfl rfl rfl rfl rfl (fun _ _ _ h => h) (by kernel_rfl) (by kernel_rfl) (by kernel_rfl) (fun wd18 hS15 => (r_pickT rfl rfl)) hS15 fun ac92 hf102 => ?_
      refine any_val (i := 58) (v := .bool true) hf102 rfl rfl rfl rfl rfl rfl (fun _ _ _ h => h) (by kernel_rfl) (by kernel_rfl) (by kernel_rfl) (fun wd18 hS15 => (r_assign rfl)) hS15 fun ac93 hf103 => ?_
      refine any_end (by kernel_rfl) ?_
      clear hI8 ac8 hf8 ac9 hf9 ac10 hf10 ac11 hf11 ac12 wd4 hI9 hf12 hS1 ac13 hf13 ac14 hf14 hf15 ac15 hf16 ac16 hf17 ac17 hf18 ac18 hf19 ac19 wd5 hI10 hf20 hS2 ac20 hf21 ac21 hf22 ac22 hf23 hf24 ac23 hf25 ac24 hf26 ac25 hf27 ac26 hf28 ac27 wd6 hI11 hf29 hS3 ac28 hf30 ac29 hf31 ac30 hf32 hf33 ac31 hf34 ac32 hf35 ac33 hf36 ac34 hf37 ac35 wd7 hf38 hI12 hwq3 hzq3 hS4 ac36 wd8 hf39 hI13 hwq4 hzq4 hS5 ac37 wd9 hI14 hf40 hS6 ac38 hf41 ac39 hf42 hf43 ac40 hf44 ac41 hf45 ac42 hf46 ac43 hf47 ac44 wd10 hf48 hI15 hwq5 hzq5 hS7 ac45 wd11 hf49 hI16 hwq6 hzq6 hS8 ac46 wd12 hI17 hf50 hS9 ac47 hf51 ac48 hf52 hf53 ac49 hf54 ac50 hf55 ac51 hf56 hf57 ac52 hf74 ac68 hf75 ac69 hf76 ac70 hf77 hf78 ac71 hf91 ac83 hf92 ac84 wd13 hI18 hf93 hS10 ac85 wd16 hI21 hf94 hS13 ac86 hf95 ac87 hf96 ac88 hf97 ac89 hf98 hf99 ac90 wd17 hI22 hf100 hS14 ac91 hf101 ac92 hf102 hS15
      refine then_normal ?_
      refine wp_ret ?_
      refine post1 rfl hf103 rfl ⟨?_, Inv.unread (A := [(0, arr .u8 usualL, tt)]) (Inv.drop (A := [(0, arr .u8 usualL, tt)]) (B := ([(b1, arr .u8 m, 22), (b2, arr .u8 (turnF m a b), 22)] ++ (((Sq3 ++ Sq4) ++ Sq5) ++ Sq6))) hI23 (fk_app (fresh_keys (ks := [b1, b2]) rfl (fk_cons hb1 (fk_cons hb2 fk_nil))) (fk_app (fk_app (fk_app hyq3 hyq4) hyq5) hyq6))) h0⟩
      rfl
end Go.Proofs.YtakkookpjhaekaaDoor
