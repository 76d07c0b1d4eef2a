/-
  What is done to a counter: a deferred call recovers.
-/
import Derived.Test.YtohkdjaobdgenaaTab
import Derived.Tactics
import Derived.Tactics2
import Derived.Laws.Pointers
namespace Go.Proofs.Ytohkdjaobdgenaa
set_option linter.unusedVariables false
set_option linter.unusedSimpArgs false
set_option maxRecDepth 100000
open Go.RowKit
theorem wrap_i64 {x : Int} (h1 : -9223372036854775808 ≤ x) (h2 : x ≤ 9223372036854775807) : IntKind.wrap .i64 x = x := IntWalk.i64_in x ⟨h1, h2⟩

theorem then_pan {K : Act → World → Prop} {Q : Exit → Act → World → Prop} {c : List PanicEntry} {a : Act} {w : World} (h : Q (.panic c) a w) : Exit.then K Q (.panic c) a w := h
theorem op_indexOut {P : Program} {ops : Array Oper} {Q : Exit → Act → World → Prop} {K : Act → World → Prop} {ds : List Deferred} {e : Env} {n i d len cap sz : Nat} {a : Act} {w w0 : World} {hs : List Blk} {t s ty : TypeId} {x y : Operand} {p : Option Addr} {k : IntKind} {m : Int} {pos : String} {af : Array Edge} {gu : Option (Nat × Bool)}
    (hf : FitsD ds e n a) (hi : ops[i]? = some ⟨some d, .indexAddr t x y, ty, pos, af, gu⟩) (hg : gd ops e gu = some true) (hk : known e ⟨some d, .indexAddr t x y, ty, pos, af, gu⟩ = true) (hA : slcB P t = some (s, sz)) (hx : ev e x = some (.slice p len cap)) (hy : ev e y = some (.int k m)) (hp : p = none → len = 0) (ho : m < 0 ∨ (len : Int) ≤ m)
    (hI : Inv w0 hs w) (kk : ∀ T pv w', Inv w0 hs w' → Q (.panic [{ v := .iface T pv, recovered := false }]) a w') : wpOp P ops Q i K a w := by
  obtain ⟨T, pv, w', hr, hw⟩ := r_indexOut (P := P) (w := w) (dst := some d) (ty := ty) (pos := pos) (af := af) (gu := gu) hA hx hy hp ho
  refine op_panD hf hi hg hk rfl hr (kk T pv w' ?_)
  rcases hw with rfl | rfl
  · exact hI
  · exact hI.drew
theorem catch_pan (b : Nat) (x : Bool) (T : TypeId) (pv : Value) (older : List PanicEntry) (w : World) (hb : w.heap[b]? = some (.cells #[.bool x] 4 (0, 0))) :
    CallsD Try.prog 31 #[.pointer (some ⟨b, 0, none⟩)] (.panicking ({ v := .iface T pv, recovered := false } :: older)) w fun e u' w' =>
      e = .returned (.tuple #[]) ∧ u' = .panicking ({ v := .iface T pv, recovered := true } :: older) ∧ w' = w.setCell ⟨b, 0, none⟩ (.bool false) := by
  have hc : w.cell? ⟨b, 0, none⟩ = some (.bool x) := by rw [cell_of_row w b 0 _ _ _ hb]; rfl
  have hz : w.frozen? ⟨b, 0, none⟩ = false := frozen_of_row w b 0 _ _ hb
  refine callsD_of_wpS Try.func31 rfl fun c₀ cs hu => ?_
  apply wpS_seq
  apply wpS_region
  simp [wpOpsS, go_sem, recoverD, hu, Try.ntmps31, Exit.thenS]
  refine wpS_cond (t := true) (by simp [Act.eval, Array.replicate]) ?_
  simp only [if_true]
  apply wpS_region
  simp [wpOpsS, go_sem, hc, hz, bodyPostS, results, Try.results31]
theorem catch_idle (p : Addr) (w : World) :
    CallsD Try.prog 31 #[.pointer (some p)] .returning w fun e u' w' => e = .returned (.tuple #[]) ∧ u' = .returning ∧ w' = w := by
  refine callsD_of_wpS Try.func31 rfl fun c₀ cs hu => ?_
  apply wpS_seq
  apply wpS_region
  simp [wpOpsS, go_sem, recoverD, hu, Try.ntmps31, Exit.thenS]
  refine wpS_cond (t := false) (by simp [Act.eval, Array.replicate]) ?_
  simp only [Bool.false_eq_true, if_false]
  refine wpS_of_wp (wp_skip ?_)
  cases c₀
  simp_all [bodyPostS, results, Try.results31]
/-- The end of 'at', behind a return. -/
theorem at_ret {R : Ending → World → Prop} {e : Env} {n b : Nat} {x : Bool} {a : Act} {w : World} (hf : FitsD [⟨.fn (.func 31) #[.pointer (some ⟨b, 0, none⟩)], #[]⟩] e n a) (he : e.get 6 = some (.pointer (some ⟨b, 0, none⟩)))
    (hb : w.heap[b]? = some (.cells #[.bool x] 4 (0, 0))) (h : R (.returned (.bool x)) w) : bodyPostD Try.prog Try.f26 R .ret a w := by
  refine leaves_one hf (by simp) ca_31 ((catch_idle ⟨b, 0, none⟩ w).mono ?_)
  rintro e' u' w' ⟨rfl, rfl, rfl⟩
  refine ⟨.bool x, ?_, h⟩
  have h6 : a.tmps[6]? = some (.pointer (some ⟨b, 0, none⟩)) := hf.f.get _ _ he
  have hc : w'.cell? ⟨b, 0, none⟩ = some (.bool x) := by rw [cell_of_row w' b 0 _ _ _ hb]; rfl
  have hr : (loadVar 4 ⟨b, 0, none⟩).run Try.prog w' = .ok (.bool x) w' := by
    simp only [loadVar, Sem.run_bind, run_isAgg ag_4, Result.andThen_ok]
    rw [if_neg Bool.false_ne_true, run_load, hc]
  show (results Try.f26 a.tmps).run Try.prog w' = _
  unfold results
  simp [Try.results26, h6, hr]
  exact hr
/-- .. behind a panic. -/
theorem at_pan {R : Ending → World → Prop} {e : Env} {n b : Nat} {x : Bool} {a : Act} {w w0 : World} {hs : List Blk} {T : TypeId} {pv : Value} (hf : FitsD [⟨.fn (.func 31) #[.pointer (some ⟨b, 0, none⟩)], #[]⟩] e n a) (he : e.get 6 = some (.pointer (some ⟨b, 0, none⟩)))
    (j : Nat) (hI : Inv w0 hs w) (hj : hs[j]? = some (b, #[.bool x], 4)) (h : ∀ w', Inv w0 (hs.set j (b, #[.bool false], 4)) w' → R (.returned (.bool false)) w') : bodyPostD Try.prog Try.f26 R (.panic [{ v := .iface T pv, recovered := false }]) a w := by
  have hb := hI.at j hj
  refine leaves_one hf (by simp) ca_31 ((catch_pan b x T pv [] w hb).mono ?_)
  rintro e' u' w' ⟨rfl, rfl, rfl⟩
  obtain ⟨f1, f2, f3, f4, f5, f6⟩ := setCell_facts w b 0 (.bool false) _ _ hb
  have hI' := hI.set j hj f1 f2 f3 f4 f5 (cs' := #[.bool false]) (by rw [f6]; rfl)
  refine ⟨.bool false, ?_, h _ hI'⟩
  have h6 : a.tmps[6]? = some (.pointer (some ⟨b, 0, none⟩)) := hf.f.get _ _ he
  have hc : (w.setCell ⟨b, 0, none⟩ (.bool false)).cell? ⟨b, 0, none⟩ = some (.bool false) := by rw [cell_of_row _ b 0 _ _ _ f6]; rfl
  have hr : (loadVar 4 ⟨b, 0, none⟩).run Try.prog (w.setCell ⟨b, 0, none⟩ (.bool false)) = .ok (.bool false) (w.setCell ⟨b, 0, none⟩ (.bool false)) := by
    simp only [loadVar, Sem.run_bind, run_isAgg ag_4, Result.andThen_ok]
    rw [if_neg Bool.false_ne_true, run_load, hc]
  show (results Try.f26 a.tmps).run Try.prog _ = _
  unfold results
  simp [Try.results26, h6, hr]
  exact hr
set_option maxHeartbeats 8000000 in
theorem at_nil (i : Int) (do_ : Value) (w : World) : Calls Try.prog 26 [.pointer none, .int .i64 i, do_].toArray w fun e w' => e = .returned (.bool false) ∧ Inv w [] w' := by
  have hI := Inv.start w
  refine enterD (n := 16) Try.func26 rfl rfl rfl ?_
  intro ac1 hf1
  refine code_seq ?_
  refine seq_start (l := [0]) rfl ?_
  refine seq_one (op_alloc hf1 rfl rfl rfl ze_4 hI fun ac2 b1 wd1 hb1 hI1 hf2 => ?_)
  have hI2 : Inv w [(b1, #[.bool false], 4)] wd1 := hI1
  refine seq_end ?_
  refine then_normal ?_
  refine code_seq ?_
  refine seq_start (l := [0, 1]) rfl ?_
  refine seq_one (op_val (v := .func (.func 31) #[] #[.pointer (some ⟨b1, 0, none⟩)]) hf2 rfl rfl rfl rfl rfl rfl (r_makeFunc rfl) fun ac3 hf3 => ?_)
  refine seq_one (op_defer hf3 rfl rfl rfl fun ac4 hf4 => ?_)
  refine seq_end ?_
  refine then_normal ?_
  refine code_seq ?_
  refine seq_start (l := [0, 1, 2, 3, 4, 5, 6, 7]) rfl ?_
  refine seq_one (op_valD (v := do_) hf4 rfl rfl rfl rfl rfl rfl (r_move rfl) fun ac5 hf5 => ?_)
  refine seq_one (op_valD (v := .pointer none) hf5 rfl rfl rfl rfl rfl rfl (r_move rfl) fun ac6 hf6 => ?_)
  refine seq_one (op_panD hf6 rfl rfl rfl rfl (r_nilCheckOut rfl).choose_spec.choose_spec ?_)
  refine then_pan ?_
  exact at_pan hf6 rfl 0 hI2 rfl fun w' h => ⟨rfl, h.done (fresh_keys (ks := [b1]) rfl (fk_cons hb1 fk_nil))⟩
set_option maxHeartbeats 8000000 in
theorem at_out {S0 : List Blk} {cb n m : Nat} {p : Option Addr} {k i : Int} (do_ : Value) {w : World} (h0 : Has S0 w) (hnd : S0.Pairwise fun x y => x.1 ≠ y.1) (hcb : (cb, #[.slice p n m, .int .i64 k], 58) ∈ S0) (hp : p = none → n = 0) (ho : i < 0 ∨ (n : Int) ≤ i) : Calls Try.prog 26 [.pointer (some ⟨cb, 0, none⟩), .int .i64 i, do_].toArray w fun e w' => e = .returned (.bool false) ∧ Inv w [] w' := by
  have hI := Inv.startS h0 hnd
  refine enterD (n := 16) Try.func26 rfl rfl rfl ?_
  intro ac1 hf1
  refine code_seq ?_
  refine seq_start (l := [0]) rfl ?_
  refine seq_one (op_alloc hf1 rfl rfl rfl ze_4 hI fun ac2 b1 wd1 hb1 hI1 hf2 => ?_)
  have hI2 : Inv w (S0 ++ [(b1, #[.bool false], 4)]) wd1 := hI1
  have hcb1 : wd1.heap[cb]? = some (.cells #[.slice p n m, .int .i64 k] 58 (0, 0)) := hI2.blk _ (List.mem_append_left _ hcb)
  refine seq_end ?_
  refine then_normal ?_
  refine code_seq ?_
  refine seq_start (l := [0, 1]) rfl ?_
  refine seq_one (op_val (v := .func (.func 31) #[] #[.pointer (some ⟨b1, 0, none⟩)]) hf2 rfl rfl rfl rfl rfl rfl (r_makeFunc rfl) fun ac3 hf3 => ?_)
  refine seq_one (op_defer hf3 rfl rfl rfl fun ac4 hf4 => ?_)
  refine seq_end ?_
  refine then_normal ?_
  refine code_seq ?_
  refine seq_start (l := [0, 1, 2, 3, 4, 5, 6, 7]) rfl ?_
  refine seq_one (op_valD (v := do_) hf4 rfl rfl rfl rfl rfl rfl (r_move rfl) fun ac5 hf5 => ?_)
  refine seq_one (op_valD (v := .pointer (some ⟨cb, 0, none⟩)) hf5 rfl rfl rfl rfl rfl rfl (r_move rfl) fun ac6 hf6 => ?_)
  refine seq_one (op_valD (v := .pointer (some ⟨cb, 0, none⟩)) hf6 rfl rfl rfl rfl rfl rfl (r_nilCheck rfl) fun ac7 hf7 => ?_)
  refine seq_one (op_valD (v := .pointer (some ⟨cb, 0, none⟩)) hf7 rfl rfl rfl rfl rfl rfl (r_fieldAddr fi_58_0 rfl rfl) fun ac8 hf8 => ?_)
  refine seq_one (op_valD (v := .slice p n m) hf8 rfl rfl rfl rfl rfl rfl (r_load ag_23 rfl hcb1 rfl) fun ac9 hf9 => ?_)
  refine seq_one (op_valD (v := .int .i64 i) hf9 rfl rfl rfl rfl rfl rfl (r_move rfl) fun ac10 hf10 => ?_)
  refine seq_one (op_indexOut hf10 rfl rfl rfl sl_23 rfl rfl hp ho hI2 fun T pv w2 hI3 => ?_)
  refine then_pan ?_
  refine at_pan (x := false) hf10 rfl S0.length hI3 (by simp) fun w' h => ⟨rfl, ?_⟩
  have h' : Inv w (S0 ++ [(b1, #[.bool false], 4)]) w' := by simpa using h
  exact (Inv.drop (A := S0) (B := [(b1, #[.bool false], 4)]) h' (fresh_keys (ks := [b1]) rfl (fk_cons hb1 fk_nil))).unread h0
set_option maxHeartbeats 8000000 in
theorem at_in {S0 S : List Blk} {cb n m lb j : Nat} {p : Option Addr} {k i : Int} {g : FuncId} {cap : List Value} {w : World} (h0 : Has S0 w) (hnd : S0.Pairwise fun x y => x.1 ≠ y.1) (hcb : (cb, #[.slice p n m, .int .i64 k], 58) ∈ S0) (hp : p = some ⟨lb, 0, none⟩) (hi : i = (j : Int)) (hj : j < n) (hc : callable Try.prog g = true)
    (hk : S.map (·.1) = S0.map (·.1)) (hg : ∀ w1, Has S0 w1 → Calls Try.prog g ([Value.pointer (some ⟨lb, j, none⟩)] ++ cap).toArray w1 fun e w2 => e = .returned (.tuple #[]) ∧ Inv w1 S w2) : Calls Try.prog 26 [.pointer (some ⟨cb, 0, none⟩), .int .i64 i, .func (.func g) #[] cap.toArray].toArray w fun e w' => e = .returned (.bool true) ∧ Inv w S w' := by
  have hI := Inv.startS h0 hnd
  refine enterD (n := 16) Try.func26 rfl rfl rfl ?_
  intro ac1 hf1
  refine code_seq ?_
  refine seq_start (l := [0]) rfl ?_
  refine seq_one (op_alloc hf1 rfl rfl rfl ze_4 hI fun ac2 b1 wd1 hb1 hI1 hf2 => ?_)
  have hI2 : Inv w (S0 ++ [(b1, #[.bool false], 4)]) wd1 := hI1
  have hcb1 : wd1.heap[cb]? = some (.cells #[.slice p n m, .int .i64 k] 58 (0, 0)) := hI2.blk _ (List.mem_append_left _ hcb)
  refine seq_end ?_
  refine then_normal ?_
  refine code_seq ?_
  refine seq_start (l := [0, 1]) rfl ?_
  refine seq_one (op_val (v := .func (.func 31) #[] #[.pointer (some ⟨b1, 0, none⟩)]) hf2 rfl rfl rfl rfl rfl rfl (r_makeFunc rfl) fun ac3 hf3 => ?_)
  refine seq_one (op_defer hf3 rfl rfl rfl fun ac4 hf4 => ?_)
  refine seq_end ?_
  refine then_normal ?_
  refine code_seq ?_
  refine seq_start (l := [0, 1, 2, 3, 4, 5, 6, 7]) rfl ?_
  refine seq_one (op_valD (v := .func (.func g) #[] cap.toArray) hf4 rfl rfl rfl rfl rfl rfl (r_move rfl) fun ac5 hf5 => ?_)
  refine seq_one (op_valD (v := .pointer (some ⟨cb, 0, none⟩)) hf5 rfl rfl rfl rfl rfl rfl (r_move rfl) fun ac6 hf6 => ?_)
  refine seq_one (op_valD (v := .pointer (some ⟨cb, 0, none⟩)) hf6 rfl rfl rfl rfl rfl rfl (r_nilCheck rfl) fun ac7 hf7 => ?_)
  refine seq_one (op_valD (v := .pointer (some ⟨cb, 0, none⟩)) hf7 rfl rfl rfl rfl rfl rfl (r_fieldAddr fi_58_0 rfl rfl) fun ac8 hf8 => ?_)
  refine seq_one (op_valD (v := .slice p n m) hf8 rfl rfl rfl rfl rfl rfl (r_load ag_23 rfl hcb1 rfl) fun ac9 hf9 => ?_)
  refine seq_one (op_valD (v := .int .i64 i) hf9 rfl rfl rfl rfl rfl rfl (r_move rfl) fun ac10 hf10 => ?_)
  subst hp
  refine seq_one (op_valD (v := .pointer (some ⟨lb, j, none⟩)) hf10 rfl rfl rfl rfl rfl rfl (r_indexAddrS (i := j) sl_23 rfl rfl hi hj (by rw [Nat.mul_one, Nat.zero_add])) fun ac11 hf11 => ?_)
  have hh : Has S0 wd1 := fun i x hx => hI2.blk x (List.mem_append_left _ (List.mem_of_getElem? hx))
  refine seq_one (op_callvD (cap := cap) (R := fun v w2 => v = .tuple #[] ∧ Inv wd1 S w2) hf11 rfl rfl rfl rfl rfl hc ((hg wd1 hh).mono fun _ _ h => ⟨_, h.1, rfl, h.2⟩) fun ac12 v wd2 hR hf12 => ?_)
  obtain ⟨rfl, hR⟩ := hR
  have hI3 : Inv w (S ++ [(b1, #[.bool false], 4)]) wd2 := by
    have := Inv.callS (A := []) (S := S0) (S' := S) (L := [(b1, #[.bool false], 4)]) (N := []) (by simpa using hI2) (by simpa using hR) hk (fun _ h => by cases h)
    simpa using this
  refine seq_end ?_
  refine then_normal ?_
  refine code_seq ?_
  refine seq_start (l := [0]) rfl ?_
  refine seq_one (op_store1D (cs := #[.bool false]) (tt := 4) (cs' := #[.bool true]) S.length hf12 rfl rfl sz_4 rfl rfl rfl rfl hI3 (by simp) (by decide) rfl fun ac13 wd3 hf13 hI4 => ?_)
  have hI5 : Inv w (S ++ [(b1, #[.bool true], 4)]) wd3 := by simpa using hI4
  refine seq_end ?_
  refine then_normal ?_
  refine wp_ret ?_
  refine at_ret hf13 rfl (hI5.blk _ (List.mem_append_right _ (List.mem_singleton.2 rfl))) ⟨rfl, ?_⟩
  exact Inv.drop (A := S) (B := [(b1, #[.bool true], 4)]) hI5 (fresh_keys (ks := [b1]) rfl (fk_cons hb1 fk_nil))

end Go.Proofs.Ytohkdjaobdgenaa
