/-
  Plain laws of prio; the chapter's examples.
-/
import Derived.Test.YtakkookpjhaekaaDoorFns
namespace Go.Proofs.YtakkookpjhaekaaDoor
set_option linter.unusedVariables false
set_option linter.unusedSimpArgs false
set_option maxRecDepth 100000
open Go.RowKit
theorem usual_ink : InK .u8 usualL := by unfold InK usualL; decide
theorem sw_wf {a b x : Int} (ha : (Lit.int .u8 a).wf = true) (hb : (Lit.int .u8 b).wf = true) (hx : (Lit.int .u8 x).wf = true) : (Lit.int .u8 (sw a b x)).wf = true := by unfold sw; split; exact hb; split; exact ha; exact hx
theorem turnF_ink {m : List Int} (hk : InK .u8 m) {a b : Int} (ha : (Lit.int .u8 a).wf = true) (hb : (Lit.int .u8 b).wf = true) : InK .u8 (turnF m a b) := by
  intro x hx
  have hd : ∀ j : Nat, (Lit.int .u8 (m.getD j 0)).wf = true := fun j => by
    by_cases h : j < m.length
    · exact hk.getD h
    · simp [List.getD, List.getElem?_eq_none (Nat.le_of_not_lt h)]; rfl
  simp only [turnF, turnL, List.mem_map, List.mem_range] at hx
  obtain ⟨j, hj, rfl⟩ := hx
  rw [if_pos hj]
  exact sw_wf ha hb (hd j)
theorem turnF_get {m : List Int} {a b : Int} {j : Nat} (h : j < 16) : (turnF m a b).getD j 0 = sw a b (m.getD j 0) := by
  rw [List.getD, turnF, turnL_get h, if_pos h]; rfl
theorem list16 {l k : List Int} (hl : l.length = 16) (hk : k.length = 16) (h : ∀ j, j < 16 → l.getD j 0 = k.getD j 0) : l = k := by
  apply List.ext_getElem?
  intro j
  by_cases hj : j < 16
  · have := h j hj
    simp only [List.getD, List.getElem?_eq_getElem (show j < l.length by omega), List.getElem?_eq_getElem (show j < k.length by omega), Option.getD_some] at this
    rw [List.getElem?_eq_getElem (show j < l.length by omega), List.getElem?_eq_getElem (show j < k.length by omega), this]
  · rw [List.getElem?_eq_none (by omega), List.getElem?_eq_none (by omega)]
theorem turn_len {m : List Int} {a b : Int} : (turnF m a b).length = 16 := turnL_len
theorem turn_turn {m : List Int} {a b : Int} (hm : m.length = 16) : turnF (turnF m a b) a b = m :=
  list16 turn_len hm fun j h => by rw [turnF_get h, turnF_get h]; unfold sw; repeat' split <;> omega
theorem turn_comm {m : List Int} {a b : Int} : turnF m b a = turnF m a b :=
  list16 turn_len turn_len fun j h => by rw [turnF_get h, turnF_get h]; unfold sw; repeat' split <;> omega
theorem turn_self {m : List Int} {a : Int} (hm : m.length = 16) : turnF m a a = m :=
  list16 turn_len hm fun j h => by rw [turnF_get h]; unfold sw; repeat' split <;> omega
theorem ofL_ext {m k : List Int} {a b : Int} (h : ∀ j, j < 16 → (m.getD j 0 == a) = (k.getD j 0 == b)) : ofL m a 16 = ofL k b 16 := by
  unfold ofL
  rw [List.filter_congr fun j hj => h j (List.mem_range.1 hj)]
theorem of_turn1 {m : List Int} {a b : Int} : ofL (turnF m a b) b 16 = ofL m a 16 := ofL_ext fun j h => by
  rw [turnF_get h, Bool.eq_iff_iff, beq_iff_eq, beq_iff_eq]; unfold sw; repeat' split <;> omega
theorem of_turn2 {m : List Int} {a b : Int} : ofL (turnF m a b) a 16 = ofL m b 16 := ofL_ext fun j h => by
  rw [turnF_get h, Bool.eq_iff_iff, beq_iff_eq, beq_iff_eq]; unfold sw; repeat' split <;> omega
theorem rightF_iff {m : List Int} (hm : m.length = 16) : rightF m = true ↔ ∀ j : Nat, j < 16 → m.getD j 0 ≤ 3 := by
  constructor
  · intro h j hj
    by_cases g : m.getD j 0 ≤ 3
    · exact g
    · rw [rightF_false hm hj (by omega)] at h; cases h
  · exact rightF_true hm
theorem right_turn {m : List Int} {a b : Int} (hm : m.length = 16) (ha : decide (a > 3) = false) (hb : decide (b > 3) = false) : rightF (turnF m a b) = rightF m := by
  have ha' := of_decide_eq_false ha
  have hb' := of_decide_eq_false hb
  rw [Bool.eq_iff_iff, rightF_iff hm, rightF_iff turn_len]
  have : ∀ j : Nat, j < 16 → ((turnF m a b).getD j 0 ≤ 3 ↔ m.getD j 0 ≤ 3) := fun j h => by rw [turnF_get h]; unfold sw; repeat' split <;> omega
  exact ⟨fun h j hj => (this j hj).1 (h j hj), fun h j hj => (this j hj).2 (h j hj)⟩
theorem getD_set {l : List Int} {i j : Nat} {v : Int} (hj : j < l.length) : (l.set i v).getD j 0 = if i = j then v else l.getD j 0 := by
  simp only [List.getD, List.getElem?_set]
  split
  · rename_i e; subst e; rw [if_pos hj]; rfl
  · rfl
theorem right_set {q : Nat} {n : Int} (hq : q < 16) : rightF (usualL.set q n) = decide (n ≤ 3) := by
  rw [Bool.eq_iff_iff, rightF_iff (by rw [List.length_set]; rfl), decide_eq_true_iff]
  have hu : ∀ j : Fin 16, usualL.getD (j : Nat) 0 ≤ 3 := by decide
  constructor
  · intro h
    have := h q hq
    rwa [getD_set (by exact hq), if_pos rfl] at this
  · intro h j hj
    rw [getD_set (by exact hj)]
    split
    · exact h
    · exact hu ⟨j, hj⟩

theorem tm16 {x : Int} (h : (Lit.int .u8 x).wf = true) : (x.tmod 16).toNat < 16 ∧ x.tmod 16 = ((x.tmod 16).toNat : Int) := by
  have := bounds_u8 h
  rw [Int.tmod_eq_emod_of_nonneg this.1]; omega
set_option maxHeartbeats 8000000 in
theorem awake_walk  (tt : TypeId) (w : World) (h0 : Has [(0, arr .u8 usualL, tt)] w) : Calls Tryd.prog 23 [].toArray w fun e w' => e = .returned (.bool true) ∧ Inv w [] w' := by
  have hI1 := Inv.startS h0 (List.pairwise_singleton _ _)
  refine enter (n := 85) Tryd.func23 rfl rfl rfl ?_
  intro ac1 hf1
  refine code_seq ?_
  refine seq_start (l := [0]) rfl ?_
  refine seq_one (op_val (v := .bool false) hf1 rfl rfl rfl rfl rfl rfl (r_assign rfl) fun ac2 hf2 => ?_)
  refine seq_end ?_
  clear ac1 hf1
  refine then_normal ?_
  refine code_seq ?_
  refine seq_start (l := [0, 1, 2]) rfl ?_
  refine seq_one (op_pureW hf2 rfl rfl rfl rfl ca_19 (usual_walk tt _ (Has.cons (hI1.at 0 rfl) Has.nil)) hI1 fun ac3 wd1 hI2 hf3 => ?_)
  refine seq_one (op_alloc hf3 rfl rfl rfl ze_22 hI2 fun ac4 b1 wd2 hb1 hI3 hf4 => ?_)
  have hI4 : Inv w [(0, arr .u8 usualL, tt), (b1, #[.int .u8 0, .int .u8 0, .int .u8 0, .int .u8 0, .int .u8 0, .int .u8 0, .int .u8 0, .int .u8 0, .int .u8 0, .int .u8 0, .int .u8 0, .int .u8 0, .int .u8 0, .int .u8 0, .int .u8 0, .int .u8 0], 22)] wd2 := hI3
  refine seq_one (op_storeW (cells := arr .u8 usualL) 1 hf4 rfl rfl rfl rfl rfl sz_22 (arr_size rfl) arr_one hI4 rfl rfl fun wd3 hI5 => ?_)
  have hI6 : Inv w [(0, arr .u8 usualL, tt), (b1, arr .u8 usualL, 22)] wd3 := hI5
  refine seq_end ?_
  clear ac2 hI1 hf2 ac3 wd1 hI2 hf3 hI3 wd2 hI4 hI5
  refine then_normal ?_
  refine code_seq ?_
  refine seq_start (l := [0, 1, 2, 3, 4, 5, 6]) rfl ?_
  refine seq_one (op_val (v := .agg (arr .u8 usualL)) hf4 rfl rfl rfl rfl rfl rfl (r_loadW ag_22 sz_22 rfl (hI6.at 1 rfl) (arr_size rfl)) fun ac5 hf5 => ?_)
  refine seq_one (op_pure hf5 rfl rfl rfl rfl ca_12 (band_pur usualL rfl usual_ink 0 (by decide) (by decide)) hI6 fun ac6 wd4 hI7 hf6 => ?_)
  refine seq_one (op_val (v := .tuple #[.int .i64 ((bandF usualL 0).1), .bool ((bandF usualL 0).2)]) hf6 rfl rfl rfl rfl rfl rfl (r_move rfl) fun ac7 hf7 => ?_)
  refine seq_one (op_val (v := .int .i64 ((bandF usualL 0).1)) hf7 rfl rfl rfl rfl rfl rfl (r_extract rfl rfl) fun ac8 hf8 => ?_)
  refine seq_one (op_val (v := .bool ((bandF usualL 0).2)) hf8 rfl rfl rfl rfl rfl rfl (r_extract rfl rfl) fun ac9 hf9 => ?_)
  refine seq_one (op_val (v := .int .i64 ((bandF usualL 0).1)) hf9 rfl rfl rfl rfl rfl rfl (r_assign rfl) fun ac10 hf10 => ?_)
  refine seq_one (op_val (v := .bool ((bandF usualL 0).2)) hf10 rfl rfl rfl rfl rfl rfl (r_assign rfl) fun ac11 hf11 => ?_)
  refine seq_end ?_
  clear ac4 hf4 ac5 wd3 hI6 hf5 ac6 hf6 ac7 hf7 ac8 hf8 ac9 hf9 ac10 hf10
  refine then_normal ?_
  refine code_seq ?_
  refine seq_start (l := [0, 1, 2, 3, 4, 5, 6]) rfl ?_
  refine seq_one (op_val (v := .agg (arr .u8 usualL)) hf11 rfl rfl rfl rfl rfl rfl (r_loadW ag_22 sz_22 rfl (hI7.at 1 rfl) (arr_size rfl)) fun ac12 hf12 => ?_)
  refine seq_one (op_pure hf12 rfl rfl rfl rfl ca_12 (band_pur usualL rfl usual_ink 6 (by decide) (by decide)) hI7 fun ac13 wd5 hI8 hf13 => ?_)
  refine seq_one (op_val (v := .tuple #[.int .i64 ((bandF usualL 6).1), .bool ((bandF usualL 6).2)]) hf13 rfl rfl rfl rfl rfl rfl (r_move rfl) fun ac14 hf14 => ?_)
  refine seq_one (op_val (v := .int .i64 ((bandF usualL 6).1)) hf14 rfl rfl rfl rfl rfl rfl (r_extract rfl rfl) fun ac15 hf15 => ?_)
  refine seq_one (op_val (v := .bool ((bandF usualL 6).2)) hf15 rfl rfl rfl rfl rfl rfl (r_extract rfl rfl) fun ac16 hf16 => ?_)
  refine seq_one (op_val (v := .int .i64 ((bandF usualL 6).1)) hf16 rfl rfl rfl rfl rfl rfl (r_assign rfl) fun ac17 hf17 => ?_)
  refine seq_one (op_val (v := .bool ((bandF usualL 6).2)) hf17 rfl rfl rfl rfl rfl rfl (r_assign rfl) fun ac18 hf18 => ?_)
  refine seq_end ?_
  clear ac11 hf11 ac12 wd4 hI7 hf12 ac13 hf13 ac14 hf14 ac15 hf15 ac16 hf16 ac17 hf17
  refine then_normal ?_
  refine code_seq ?_
  refine seq_start (l := [0, 1, 2, 3, 4, 5, 6]) rfl ?_
  refine seq_one (op_val (v := .agg (arr .u8 usualL)) hf18 rfl rfl rfl rfl rfl rfl (r_loadW ag_22 sz_22 rfl (hI8.at 1 rfl) (arr_size rfl)) fun ac19 hf19 => ?_)
  refine seq_one (op_pure hf19 rfl rfl rfl rfl ca_12 (band_pur usualL rfl usual_ink 7 (by decide) (by decide)) hI8 fun ac20 wd6 hI9 hf20 => ?_)
  refine seq_one (op_val (v := .tuple #[.int .i64 ((bandF usualL 7).1), .bool ((bandF usualL 7).2)]) hf20 rfl rfl rfl rfl rfl rfl (r_move rfl) fun ac21 hf21 => ?_)
  refine seq_one (op_val (v := .int .i64 ((bandF usualL 7).1)) hf21 rfl rfl rfl rfl rfl rfl (r_extract rfl rfl) fun ac22 hf22 => ?_)
  refine seq_one (op_val (v := .bool ((bandF usualL 7).2)) hf22 rfl rfl rfl rfl rfl rfl (r_extract rfl rfl) fun ac23 hf23 => ?_)
  refine seq_one (op_val (v := .int .i64 ((bandF usualL 7).1)) hf23 rfl rfl rfl rfl rfl rfl (r_assign rfl) fun ac24 hf24 => ?_)
  refine seq_one (op_val (v := .bool ((bandF usualL 7).2)) hf24 rfl rfl rfl rfl rfl rfl (r_assign rfl) fun ac25 hf25 => ?_)
  refine seq_end ?_
  clear ac18 hf18 ac19 wd5 hI8 hf19 ac20 hf20 ac21 hf21 ac22 hf22 ac23 hf23 ac24 hf24
  refine then_normal ?_
  refine code_seq ?_
  refine seq_start (l := [0, 1, 2, 3, 4, 5, 6]) rfl ?_
  refine seq_one (op_val (v := .agg (arr .u8 usualL)) hf25 rfl rfl rfl rfl rfl rfl (r_loadW ag_22 sz_22 rfl (hI9.at 1 rfl) (arr_size rfl)) fun ac26 hf26 => ?_)
  refine seq_one (op_pure hf26 rfl rfl rfl rfl ca_12 (band_pur usualL rfl usual_ink 16 (by decide) (by decide)) hI9 fun ac27 wd7 hI10 hf27 => ?_)
  refine seq_one (op_val (v := .tuple #[.int .i64 ((bandF usualL 16).1), .bool ((bandF usualL 16).2)]) hf27 rfl rfl rfl rfl rfl rfl (r_move rfl) fun ac28 hf28 => ?_)
  refine seq_one (op_val (v := .int .i64 ((bandF usualL 16).1)) hf28 rfl rfl rfl rfl rfl rfl (r_extract rfl rfl) fun ac29 hf29 => ?_)
  refine seq_one (op_val (v := .bool ((bandF usualL 16).2)) hf29 rfl rfl rfl rfl rfl rfl (r_extract rfl rfl) fun ac30 hf30 => ?_)
  refine seq_one (op_val (v := .int .i64 ((bandF usualL 16).1)) hf30 rfl rfl rfl rfl rfl rfl (r_assign rfl) fun ac31 hf31 => ?_)
  refine seq_one (op_val (v := .bool ((bandF usualL 16).2)) hf31 rfl rfl rfl rfl rfl rfl (r_assign rfl) fun ac32 hf32 => ?_)
  refine seq_end ?_
  clear ac25 hf25 ac26 wd6 hI9 hf26 ac27 hf27 ac28 hf28 ac29 hf29 ac30 hf30 ac31 hf31
  refine then_normal ?_
  refine code_seq ?_
  refine seq_start (l := [0, 1, 2, 3]) rfl ?_
  refine seq_one (op_val (v := .agg (arr .u8 usualL)) hf32 rfl rfl rfl rfl rfl rfl (r_loadW ag_22 sz_22 rfl (hI10.at 1 rfl) (arr_size rfl)) fun ac33 hf33 => ?_)
  refine seq_one (op_pure hf33 rfl rfl rfl rfl ca_21 (turn_pur usualL rfl usual_ink 0 1) hI10 fun ac34 wd8 hI11 hf34 => ?_)
  refine seq_one (op_alloc hf34 rfl rfl rfl ze_22 hI11 fun ac35 b2 wd9 hb2 hI12 hf35 => ?_)
  have hI13 : Inv w [(0, arr .u8 usualL, tt), (b1, arr .u8 usualL, 22), (b2, #[.int .u8 0, .int .u8 0, .int .u8 0, .int .u8 0, .int .u8 0, .int .u8 0, .int .u8 0, .int .u8 0, .int .u8 0, .int .u8 0, .int .u8 0, .int .u8 0, .int .u8 0, .int .u8 0, .int .u8 0, .int .u8 0], 22)] wd9 := hI12
  refine seq_one (op_storeW (cells := arr .u8 (turnF usualL 0 1)) 2 hf35 rfl rfl rfl rfl rfl sz_22 (arr_size turn_len) arr_one hI13 rfl rfl fun wd10 hI14 => ?_)
  have hI15 : Inv w [(0, arr .u8 usualL, tt), (b1, arr .u8 usualL, 22), (b2, arr .u8 (turnF usualL 0 1), 22)] wd10 := hI14
  refine seq_end ?_
  clear ac32 hf32 ac33 wd7 hI10 hf33 ac34 wd8 hI11 hf34 hI12 wd9 hI13 hI14
  refine then_normal ?_
  refine code_seq ?_
  refine seq_start (l := [0, 1, 2, 3, 4, 5, 6, 7, 8, 9, 10, 11, 12, 13, 14, 15, 16, 17, 18, 19, 20, 21, 22, 23, 24, 25, 26, 27, 28, 29, 30, 31, 32, 33, 34, 35, 36, 37, 38, 39, 40, 41, 42, 43, 44, 45, 46, 47, 48, 49, 50, 51]) rfl ?_
  refine seq_one (op_val (v := .int .i64 ((bandF usualL 0).1)) hf35 rfl rfl rfl rfl rfl rfl (r_move rfl) fun ac36 hf36 => ?_)
  refine seq_one (op_val (v := .bool (((bandF usualL 0).1) == 1)) hf36 rfl rfl rfl rfl rfl rfl (r_eql rfl rfl) fun ac37 hf37 => ?_)
  refine seq_one (op_val (v := .bool (((bandF usualL 0).1) == 1)) hf37 rfl rfl rfl rfl rfl rfl (r_move rfl) fun ac38 hf38 => ?_)
  have hf39 := hf38.know 36 (u := .bool true) rfl (congrArg Value.bool (by decide))
  refine seq_one (op_val (v := .bool ((bandF usualL 0).2)) hf39 rfl rfl rfl rfl rfl rfl (r_move rfl) fun ac39 hf40 => ?_)
  refine seq_one (op_val (v := .bool ((bandF usualL 0).2)) hf40 rfl rfl rfl rfl rfl rfl (r_pickT rfl rfl) fun ac40 hf41 => ?_)
  refine seq_one (op_val (v := .bool ((bandF usualL 0).2)) hf41 rfl rfl rfl rfl rfl rfl (r_move rfl) fun ac41 hf42 => ?_)
  have hf43 := hf42.know 39 (u := .bool true) rfl (congrArg Value.bool (by decide))
  refine seq_one (op_val (v := .int .i64 ((bandF usualL 6).1)) hf43 rfl rfl rfl rfl rfl rfl (r_move rfl) fun ac42 hf44 => ?_)
  refine seq_one (op_val (v := .bool (((bandF usualL 6).1) == 0)) hf44 rfl rfl rfl rfl rfl rfl (r_eql rfl rfl) fun ac43 hf45 => ?_)
  refine seq_one (op_val (v := .bool (((bandF usualL 6).1) == 0)) hf45 rfl rfl rfl rfl rfl rfl (r_pickT rfl rfl) fun ac44 hf46 => ?_)
  refine seq_one (op_val (v := .bool (((bandF usualL 6).1) == 0)) hf46 rfl rfl rfl rfl rfl rfl (r_move rfl) fun ac45 hf47 => ?_)
  have hf48 := hf47.know 43 (u := .bool true) rfl (congrArg Value.bool (by decide))
  refine seq_one (op_val (v := .bool ((bandF usualL 6).2)) hf48 rfl rfl rfl rfl rfl rfl (r_move rfl) fun ac46 hf49 => ?_)
  refine seq_one (op_val (v := .bool ((bandF usualL 6).2)) hf49 rfl rfl rfl rfl rfl rfl (r_pickT rfl rfl) fun ac47 hf50 => ?_)
  refine seq_one (op_val (v := .bool ((bandF usualL 6).2)) hf50 rfl rfl rfl rfl rfl rfl (r_move rfl) fun ac48 hf51 => ?_)
  have hf52 := hf51.know 46 (u := .bool true) rfl (congrArg Value.bool (by decide))
  refine seq_one (op_val (v := .bool ((bandF usualL 7).2)) hf52 rfl rfl rfl rfl rfl rfl (r_move rfl) fun ac49 hf53 => ?_)
  refine seq_one (op_val (v := .bool (!((bandF usualL 7).2))) hf53 rfl rfl rfl rfl rfl rfl (r_not rfl) fun ac50 hf54 => ?_)
  refine seq_one (op_val (v := .bool (!((bandF usualL 7).2))) hf54 rfl rfl rfl rfl rfl rfl (r_pickT rfl rfl) fun ac51 hf55 => ?_)
  refine seq_one (op_val (v := .bool (!((bandF usualL 7).2))) hf55 rfl rfl rfl rfl rfl rfl (r_move rfl) fun ac52 hf56 => ?_)
  have hf57 := hf56.know 50 (u := .bool true) rfl (congrArg Value.bool (by decide))
  refine seq_one (op_val (v := .bool ((bandF usualL 16).2)) hf57 rfl rfl rfl rfl rfl rfl (r_move rfl) fun ac53 hf58 => ?_)
  refine seq_one (op_val (v := .bool (!((bandF usualL 16).2))) hf58 rfl rfl rfl rfl rfl rfl (r_not rfl) fun ac54 hf59 => ?_)
  refine seq_one (op_val (v := .bool (!((bandF usualL 16).2))) hf59 rfl rfl rfl rfl rfl rfl (r_pickT rfl rfl) fun ac55 hf60 => ?_)
  refine seq_one (op_val (v := .bool (!((bandF usualL 16).2))) hf60 rfl rfl rfl rfl rfl rfl (r_move rfl) fun ac56 hf61 => ?_)
  have hf62 := hf61.know 54 (u := .bool true) rfl (congrArg Value.bool (by decide))
  refine seq_one (op_val (v := .agg (arr .u8 usualL)) hf62 rfl rfl rfl rfl rfl rfl (r_loadW ag_22 sz_22 rfl (hI15.at 1 rfl) (arr_size rfl)) fun ac57 hf63 => ?_)
  refine seq_one (op_call (R := fun v w' => ∃ S p cap, v = .slice p (ofL usualL 0 16).length cap ∧ Sl 5 .u8 S p cap (ofL usualL 0 16) ∧ Inv wd10 S w' ∧ ∀ x ∈ S, wd10.heap.size ≤ x.1) hf63 rfl rfl rfl rfl ca_17 ((of_mk usualL rfl usual_ink 0 _).mono fun _ _ ⟨S, p, cap, he, h1, _, h3, h4⟩ => ⟨_, he, S, p, cap, rfl, h1, h3, h4⟩) fun ac58 v wd11 hR hf64 => ?_)
  obtain ⟨Sq3, q3, capq3, rfl, hsq3, hwq3, hzq3⟩ := hR
  have hyq3 := fk_le hI15.size hzq3
  have hI16 : Inv w ([(0, arr .u8 usualL, tt), (b1, arr .u8 usualL, 22), (b2, arr .u8 (turnF usualL 0 1), 22)] ++ Sq3) _ := hI15.callN hwq3 hzq3
  refine seq_one (op_bslice (s := 5) (cells := #[.int .u8 6]) hf64 rfl rfl rfl rfl rfl (fun _ => by kernel_rfl) hI16 fun ac59 b4 wd12 hb4 hI17 hf65 => ?_)
  have hI18 : Inv w ([(0, arr .u8 usualL, tt), (b1, arr .u8 usualL, 22), (b2, arr .u8 (turnF usualL 0 1), 22), (b4, #[.int .u8 6], 5)] ++ Sq3) wd12 := Inv.tail (A := [(0, arr .u8 usualL, tt), (b1, arr .u8 usualL, 22), (b2, arr .u8 (turnF usualL 0 1), 22)]) (T := Sq3) (N := [(b4, #[.int .u8 6], 5)]) hI17
  refine seq_one (op_pureW hf65 rfl rfl rfl rfl ca_16 (same_walk (xs := ofL usualL 0 16) (ys := [6]) (hsq3.rd hI18 (fun x hx => List.mem_append_right _ hx)) (Rd.blk (xs := [6]) (hI18.at 3 rfl) rfl) ofL_u8 (by unfold InK; decide)) hI18 fun ac60 wd13 hI19 hf66 => ?_)
  refine seq_one (op_val (v := .bool ((ofL usualL 0 16) == [6])) hf66 rfl rfl rfl rfl rfl rfl (r_pickT rfl rfl) fun ac61 hf67 => ?_)
  refine seq_one (op_val (v := .bool ((ofL usualL 0 16) == [6])) hf67 rfl rfl rfl rfl rfl rfl (r_move rfl) fun ac62 hf68 => ?_)
  have hf69 := hf68.know 60 (u := .bool true) rfl (congrArg Value.bool (by decide))
  refine seq_one (op_val (v := .agg (arr .u8 usualL)) hf69 rfl rfl rfl rfl rfl rfl (r_loadW ag_22 sz_22 rfl (hI19.at 1 rfl) (arr_size rfl)) fun ac63 hf70 => ?_)
  refine seq_one (op_call (R := fun v w' => ∃ S p cap, v = .slice p (ofL usualL 3 16).length cap ∧ Sl 5 .u8 S p cap (ofL usualL 3 16) ∧ Inv wd13 S w' ∧ ∀ x ∈ S, wd13.heap.size ≤ x.1) hf70 rfl rfl rfl rfl ca_17 ((of_mk usualL rfl usual_ink 3 _).mono fun _ _ ⟨S, p, cap, he, h1, _, h3, h4⟩ => ⟨_, he, S, p, cap, rfl, h1, h3, h4⟩) fun ac64 v wd14 hR hf71 => ?_)
  obtain ⟨Sq5, q5, capq5, rfl, hsq5, hwq5, hzq5⟩ := hR
  have hyq5 := fk_le hI19.size hzq5
  have hI20 : Inv w ([(0, arr .u8 usualL, tt), (b1, arr .u8 usualL, 22), (b2, arr .u8 (turnF usualL 0 1), 22), (b4, #[.int .u8 6], 5)] ++ (Sq3 ++ Sq5)) _ := hI19.callN hwq5 hzq5
  refine seq_one (op_bslice (s := 5) (cells := #[.int .u8 7]) hf71 rfl rfl rfl rfl rfl (fun _ => by kernel_rfl) hI20 fun ac65 b6 wd15 hb6 hI21 hf72 => ?_)
  have hI22 : Inv w ([(0, arr .u8 usualL, tt), (b1, arr .u8 usualL, 22), (b2, arr .u8 (turnF usualL 0 1), 22), (b4, #[.int .u8 6], 5), (b6, #[.int .u8 7], 5)] ++ (Sq3 ++ Sq5)) wd15 := Inv.tail (A := [(0, arr .u8 usualL, tt), (b1, arr .u8 usualL, 22), (b2, arr .u8 (turnF usualL 0 1), 22), (b4, #[.int .u8 6], 5)]) (T := (Sq3 ++ Sq5)) (N := [(b6, #[.int .u8 7], 5)]) hI21
  refine seq_one (op_pureW hf72 rfl rfl rfl rfl ca_16 (same_walk (xs := ofL usualL 3 16) (ys := [7]) (hsq5.rd hI22 (fun x hx => List.mem_append_right _ (List.mem_append_right _ hx))) (Rd.blk (xs := [7]) (hI22.at 4 rfl) rfl) ofL_u8 (by unfold InK; decide)) hI22 fun ac66 wd16 hI23 hf73 => ?_)
  refine seq_one (op_val (v := .bool ((ofL usualL 3 16) == [7])) hf73 rfl rfl rfl rfl rfl rfl (r_pickT rfl rfl) fun ac67 hf74 => ?_)
  refine seq_one (op_val (v := .bool ((ofL usualL 3 16) == [7])) hf74 rfl rfl rfl rfl rfl rfl (r_move rfl) fun ac68 hf75 => ?_)
  have hf76 := hf75.know 66 (u := .bool true) rfl (congrArg Value.bool (by decide))
  refine seq_one (op_val (v := .pointer (some ⟨b2, 0, none⟩)) hf76 rfl rfl rfl rfl rfl rfl (r_indexAddr (i := 0) ar_22 rfl rfl rfl (by decide) rfl) fun ac69 hf77 => ?_)
  refine seq_one (op_val (v := .int .u8 ((turnF usualL 0 1).getD 0 0)) hf77 rfl rfl rfl rfl rfl rfl (r_load ag_5 rfl (hI23.at 2 rfl) (arr_get (by rw [turn_len]; exact (by decide)))) fun ac70 hf78 => ?_)
  refine seq_one (op_val (v := .bool (((turnF usualL 0 1).getD 0 0) == 0)) hf78 rfl rfl rfl rfl rfl rfl (r_eql rfl rfl) fun ac71 hf79 => ?_)
  refine seq_one (op_val (v := .bool (((turnF usualL 0 1).getD 0 0) == 0)) hf79 rfl rfl rfl rfl rfl rfl (r_pickT rfl rfl) fun ac72 hf80 => ?_)
  refine seq_one (op_val (v := .bool (((turnF usualL 0 1).getD 0 0) == 0)) hf80 rfl rfl rfl rfl rfl rfl (r_move rfl) fun ac73 hf81 => ?_)
  have hf82 := hf81.know 71 (u := .bool true) rfl (congrArg Value.bool (by decide))
  refine seq_one (op_val (v := .pointer (some ⟨b2, 6, none⟩)) hf82 rfl rfl rfl rfl rfl rfl (r_indexAddr (i := 6) ar_22 rfl rfl rfl (by decide) rfl) fun ac74 hf83 => ?_)
  refine seq_one (op_val (v := .int .u8 ((turnF usualL 0 1).getD 6 0)) hf83 rfl rfl rfl rfl rfl rfl (r_load ag_5 rfl (hI23.at 2 rfl) (arr_get (by rw [turn_len]; exact (by decide)))) fun ac75 hf84 => ?_)
  refine seq_one (op_val (v := .bool (((turnF usualL 0 1).getD 6 0) == 1)) hf84 rfl rfl rfl rfl rfl rfl (r_eql rfl rfl) fun ac76 hf85 => ?_)
  refine seq_one (op_val (v := .bool (((turnF usualL 0 1).getD 6 0) == 1)) hf85 rfl rfl rfl rfl rfl rfl (r_pickT rfl rfl) fun ac77 hf86 => ?_)
  refine seq_one (op_val (v := .bool (((turnF usualL 0 1).getD 6 0) == 1)) hf86 rfl rfl rfl rfl rfl rfl (r_move rfl) fun ac78 hf87 => ?_)
  have hf88 := hf87.know 76 (u := .bool true) rfl (congrArg Value.bool (by decide))
  refine seq_one (op_val (v := .pointer (some ⟨b2, 7, none⟩)) hf88 rfl rfl rfl rfl rfl rfl (r_indexAddr (i := 7) ar_22 rfl rfl rfl (by decide) rfl) fun ac79 hf89 => ?_)
  refine seq_one (op_val (v := .int .u8 ((turnF usualL 0 1).getD 7 0)) hf89 rfl rfl rfl rfl rfl rfl (r_load ag_5 rfl (hI23.at 2 rfl) (arr_get (by rw [turn_len]; exact (by decide)))) fun ac80 hf90 => ?_)
  refine seq_one (op_val (v := .bool (((turnF usualL 0 1).getD 7 0) == 3)) hf90 rfl rfl rfl rfl rfl rfl (r_eql rfl rfl) fun ac81 hf91 => ?_)
  refine seq_one (op_val (v := .bool (((turnF usualL 0 1).getD 7 0) == 3)) hf91 rfl rfl rfl rfl rfl rfl (r_pickT rfl rfl) fun ac82 hf92 => ?_)
  refine seq_one (op_val (v := .bool (((turnF usualL 0 1).getD 7 0) == 3)) hf92 rfl rfl rfl rfl rfl rfl (r_move rfl) fun ac83 hf93 => ?_)
  have hf94 := hf93.know 81 (u := .bool true) rfl (congrArg Value.bool (by decide))
  refine seq_one (op_val (v := .agg (arr .u8 usualL)) hf94 rfl rfl rfl rfl rfl rfl (r_loadW ag_22 sz_22 rfl (hI23.at 1 rfl) (arr_size rfl)) fun ac84 hf95 => ?_)
  refine seq_one (op_pure hf95 rfl rfl rfl rfl ca_14 (right_pur usualL rfl usual_ink) hI23 fun ac85 wd17 hI24 hf96 => ?_)
  refine seq_one (op_val (v := .bool (rightF usualL)) hf96 rfl rfl rfl rfl rfl rfl (r_pickT rfl rfl) fun ac86 hf97 => ?_)
  refine seq_one (op_val (v := .bool (rightF usualL)) hf97 rfl rfl rfl rfl rfl rfl (r_assign rfl) fun ac87 hf98 => ?_)
  refine seq_end ?_
  clear ac35 hf35 ac36 hf36 ac37 hf37 hf38 ac38 hf39 ac39 hf40 ac40 hf41 hf42 ac41 hf43 ac42 hf44 ac43 hf45 ac44 hf46 hf47 ac45 hf48 ac46 hf49 ac47 hf50 hf51 ac48 hf52 ac49 hf53 ac50 hf54 ac51 hf55 hf56 ac52 hf57 ac53 hf58 ac54 hf59 ac55 hf60 hf61 ac56 hf62 ac57 wd10 hf63 hI15 hwq3 hzq3 ac58 wd11 hI16 hf64 hI17 ac59 wd12 hI18 hf65 ac60 hf66 ac61 hf67 hf68 ac62 hf69 ac63 wd13 hf70 hI19 hwq5 hzq5 ac64 wd14 hI20 hf71 hI21 ac65 wd15 hI22 hf72 ac66 hf73 ac67 hf74 hf75 ac68 hf76 ac69 hf77 ac70 hf78 ac71 hf79 ac72 hf80 hf81 ac73 hf82 ac74 hf83 ac75 hf84 ac76 hf85 ac77 hf86 hf87 ac78 hf88 ac79 hf89 ac80 hf90 ac81 hf91 ac82 hf92 hf93 ac83 hf94 ac84 wd16 hI23 hf95 ac85 hf96 ac86 hf97
  refine then_normal ?_
  refine wp_ret ?_
  refine post1 rfl hf98 rfl ⟨?_, Inv.unread (A := [(0, arr .u8 usualL, tt)]) (Inv.drop (A := [(0, arr .u8 usualL, tt)]) (B := ([(b1, arr .u8 usualL, 22), (b2, arr .u8 (turnF usualL 0 1), 22), (b4, #[.int .u8 6], 5), (b6, #[.int .u8 7], 5)] ++ (Sq3 ++ Sq5))) hI24 (fk_app (fresh_keys (ks := [b1, b2, b4, b6]) rfl (fk_cons hb1 (fk_cons hb2 (fk_cons hb4 (fk_cons hb6 fk_nil))))) (fk_app hyq3 hyq5))) h0⟩
  rfl
end Go.Proofs.YtakkookpjhaekaaDoor
