/-
  The calculus of walks: stores, values built, results, and the builtins.
-/
import Derived.Test.YtjelaoblpchmmaaFwRun
namespace Go.Proofs.Ytjelaoblpchmmaa
set_option linter.unusedVariables false
set_option linter.unusedSimpArgs false
open Go.RowKit

/-- Cells written one behind the other. -/
def spl (cs : Array Value) (o : Nat) : List Value → Array Value
  | [] => cs
  | v :: vs => spl (cs.setIfInBounds o v) (o + 1) vs
theorem spl_size : ∀ (vs : List Value) (cs : Array Value) (o : Nat), (spl cs o vs).size = cs.size
  | [], _, _ => rfl
  | v :: vs, cs, o => by rw [spl, spl_size vs]; simp
theorem spl_get : ∀ (vs : List Value) (cs : Array Value) (o j : Nat), o + vs.length ≤ cs.size → (spl cs o vs)[j]? = if o ≤ j ∧ j < o + vs.length then vs[j - o]? else cs[j]?
  | [], cs, o, j, _ => by rw [spl, if_neg (by simp)]
  | v :: vs, cs, o, j, h => by
    simp only [List.length_cons] at h ⊢
    rw [spl, spl_get vs _ _ _ (by simp; omega)]
    by_cases h1 : o + 1 ≤ j ∧ j < o + 1 + vs.length
    · rw [if_pos h1, if_pos (by omega), show j - o = (j - (o + 1)) + 1 by omega, List.getElem?_cons_succ]
    · rw [if_neg h1]
      by_cases h2 : o = j
      · subst h2
        rw [Array.getElem?_setIfInBounds_self_of_lt (by omega), if_pos (by omega), Nat.sub_self, List.getElem?_cons_zero]
      · rw [Array.getElem?_setIfInBounds_ne h2, if_neg (by omega)]
theorem spl_whole (vs : List Value) (cs : Array Value) (h : vs.length = cs.size) : spl cs 0 vs = vs.toArray := by
  apply Array.ext_getElem?
  intro j
  rw [spl_get vs cs 0 j (by omega)]
  by_cases hj : j < vs.length
  · rw [if_pos (by omega)]; simp
  · rw [if_neg (by omega), Array.getElem?_eq_none (by omega)]; simp; omega

section
variable {P : Program} {ops : Array Oper} {Q : Exit → Act → World → Prop} {K : Act → World → Prop} {e : Env} {n i d : Nat} {a : Act} {w w' w0 : World} {o : Oper} {v u : Value} {hs : List Blk}
  {dst : Option Tmp} {ty : TypeId} {pos : String} {af : Array Edge} {gu : Option (Nat × Bool)} {x y z : Operand} {t s tt : TypeId}

theorem run_store1 {b o : Nat} {cs : Array Value} (hv : v.oneCell' = true) (hb : w.heap[b]? = some (.cells cs tt (0, 0))) (ho : o < cs.size) : (store ⟨b, o, none⟩ v : Sem Unit).run P w = .ok () (w.setCell ⟨b, o, none⟩ v) := by
  have hc : w.cell? ⟨b, o, none⟩ = some cs[o] := by rw [cell_of_row w b o cs tt _ hb]; simp [ho]
  have hf : w.frozen? ⟨b, o, none⟩ = false := frozen_of_row w b o cs tt hb
  rw [run_store P w _ v _ hv]
  simp [hc, hf]

theorem run_storeN : ∀ (vs : List Value) (b o i : Nat) (cs : Array Value) (w : World) (hs : List Blk) (j : Nat), Inv w0 hs w → hs[j]? = some (b, cs, tt) → (∀ v ∈ vs, v.oneCell' = true) → o + i + vs.length ≤ cs.size →
    ∃ w', (storeCells ⟨b, o, none⟩ vs i : Sem Unit).run P w = .ok () w' ∧ Inv w0 (hs.set j (b, spl cs (o + i) vs, tt)) w'
  | [], b, o, i, cs, w, hs, j, hI, hj, _, _ => ⟨w, rfl, by
      have : hs.set j (b, spl cs (o + i) [], tt) = hs := by
        apply List.ext_getElem?
        intro m
        rw [List.getElem?_set]
        split
        · rename_i e'; subst e'
          rw [hj]
          have := (List.getElem?_eq_some_iff.1 hj).1
          simp [this, spl]
        · rfl
      rw [this]; exact hI⟩
  | v :: vs, b, o, i, cs, w, hs, j, hI, hj, hv, hl => by
    simp only [List.length_cons] at hl
    have hb := hI.at j hj
    have h1 := run_store1 (P := P) (v := v) (hv v (List.mem_cons_self ..)) hb (by omega : o + i < cs.size)
    obtain ⟨f1, f2, f3, f4, f5, f6⟩ := setCell_facts w b (o + i) v cs tt hb
    have hI' := hI.set j hj f1 f2 f3 f4 f5 f6
    have hlt := (List.getElem?_eq_some_iff.1 hj).1
    obtain ⟨w', hw', hI''⟩ := run_storeN vs b o (i + 1) (cs.setIfInBounds (o + i) v) _ _ j hI' (by simp [hlt]) (fun u hu => hv u (List.mem_cons_of_mem _ hu)) (by simp; omega)
    refine ⟨w', ?_, ?_⟩
    · rw [storeCells, Sem.run_bind, add_none, h1, Result.andThen_ok]
      exact hw'
    · rw [List.set_set] at hI''
      exact hI''

/-- A store of a value of whatever size into a known block. -/
theorem op_storeN {b o sz : Nat} {cs cells cs' : Array Value} (j : Nat)
    (hf : Fits e n a) (hi : ops[i]? = some ⟨none, .store t x y, ty, pos, af, gu⟩) (hg : gd ops e gu = some true) (hx : ev e x = some (.pointer (some ⟨b, o, none⟩))) (hy : ev e y = some v) (hc : v.cells = cells)
    (hz : sizeB P t = some sz) (hl : cells.size = sz) (h1 : cells.toList.all Value.oneCell' = true) (hI : Inv w0 hs w) (hj : hs[j]? = some (b, cs, tt)) (ho : o + sz ≤ cs.size) (he : spl cs o cells.toList = cs')
    (k : ∀ w', Inv w0 (hs.set j (b, cs', tt)) w' → K a w') : wpOp P ops Q i K a w := by
  obtain ⟨w', hw', hI'⟩ := run_storeN (P := P) cells.toList b o 0 cs w hs j hI hj (fun v hv => List.all_eq_true.1 h1 v hv) (by simp; omega)
  rw [Nat.add_zero, he] at hI'
  refine op_none (o := ⟨none, .store t x y, ty, pos, af, gu⟩) hf hi hg (by simp [known, Op.operands, hx, hy]) rfl rfl (w' := w') ?_ (k w' hI')
  show Sem.run P (do Instr.storeAt t (evE e x) (evE e y); pure Next.skip) w = _
  rw [evE_eq hx, evE_eq hy]
  simp only [Instr.storeAt, Instr.sureAddr, storeVar, Sem.run_bind, Sem.run_pure, Result.andThen_ok, run_sizeOf hz, hc]
  rw [if_neg (by simp [hl])]
  simp only [hw', Result.andThen_ok]
/-- One cell. -/
theorem op_store {b o : Nat} {cs cs' : Array Value} (j : Nat)
    (hf : Fits e n a) (hi : ops[i]? = some ⟨none, .store t x y, ty, pos, af, gu⟩) (hg : gd ops e gu = some true) (hx : ev e x = some (.pointer (some ⟨b, o, none⟩))) (hy : ev e y = some v) (h1 : v.oneCell' = true)
    (hz : sizeB P t = some 1) (hI : Inv w0 hs w) (hj : hs[j]? = some (b, cs, tt)) (ho : o < cs.size) (he : cs.setIfInBounds o v = cs')
    (k : ∀ w', Inv w0 (hs.set j (b, cs', tt)) w' → K a w') : wpOp P ops Q i K a w :=
  op_storeN (cells := #[v]) j hf hi hg hx hy (by cases v <;> first | rfl | (simp [Value.oneCell'] at h1)) hz rfl (by simp [h1]) hI hj ho he k

/-- A whole block. -/
theorem op_storeW {b sz : Nat} {cs cells : Array Value} (j : Nat)
    (hf : Fits e n a) (hi : ops[i]? = some ⟨none, .store t x y, ty, pos, af, gu⟩) (hg : gd ops e gu = some true) (hx : ev e x = some (.pointer (some ⟨b, 0, none⟩))) (hy : ev e y = some v) (hc : v.cells = cells)
    (hz : sizeB P t = some sz) (hl : cells.size = sz) (h1 : cells.toList.all Value.oneCell' = true) (hI : Inv w0 hs w) (hj : hs[j]? = some (b, cs, tt)) (ho : cs.size = sz)
    (k : ∀ w', Inv w0 (hs.set j (b, cells, tt)) w' → K a w') : wpOp P ops Q i K a w :=
  op_storeN j hf hi hg hx hy hc hz hl h1 hI hj (by omega) (by rw [spl_whole _ _ (by simp; omega)]) k
/-- New memory: a variable. -/
theorem op_alloc (hf : Fits e n a) (hi : ops[i]? = some ⟨some d, .alloc t, ty, pos, af, gu⟩) (hg : gd ops e gu = some true) (hn : Nat.blt d n = true) (hz : zeroB P t = some v) (hI : Inv w0 hs w)
    (k : ∀ a b w', w0.heap.size ≤ b → Inv w0 (hs ++ [(b, v.cells, t)]) w' → Fits ((d, .pointer (some ⟨b, 0, none⟩)) :: e) n a → K a w') : wpOp P ops Q i K a w :=
  op_val (o := ⟨some d, .alloc t, ty, pos, af, gu⟩) hf hi hg rfl rfl rfl hn (r_alloc hz) (fun a hf' => k a _ _ hI.size (hI.alloc v.cells t) hf')
theorem op_box (hf : Fits e n a) (hi : ops[i]? = some ⟨some d, .box t x, ty, pos, af, gu⟩) (hg : gd ops e gu = some true) (hn : Nat.blt d n = true) (hx : ev e x = some v) (hI : Inv w0 hs w)
    (k : ∀ a b w', w0.heap.size ≤ b → Inv w0 (hs ++ [(b, v.cells, t)]) w' → Fits ((d, .pointer (some ⟨b, 0, none⟩)) :: e) n a → K a w') : wpOp P ops Q i K a w :=
  op_val (o := ⟨some d, .box t x, ty, pos, af, gu⟩) hf hi hg (by simp [known, Op.operands, hx]) rfl rfl hn (r_box hx) (fun a hf' => k a _ _ hI.size (hI.alloc v.cells t) hf')

/-! ### Values built of parts -/
def evp (e : Env) : List (Nat × Operand) → Option (List (Nat × Value))
  | [] => some []
  | (i, x) :: xs => match ev e x, evp e xs with
    | some v, some vs => some ((i, v) :: vs)
    | _, _ => none
theorem evp_eq : ∀ {ps : List (Nat × Operand)} {vs : List (Nat × Value)}, evp e ps = some vs → ps.map (fun p => (p.1, evE e p.2)) = vs
  | [], vs, h => by simpa [evp] using h
  | (i, x) :: ps, vs, h => by
    unfold evp at h
    split at h
    · rename_i v us h1 h2
      simp only [Option.some.injEq] at h
      subst h
      rw [List.map_cons, evp_eq h2]
      simp only [evE_eq h1]
    · cases h
theorem r_build {ps : Array (Nat × Operand)} {vs : List (Nat × Value)} (hp : evp e ps.toList = some vs) (hb : ∀ w, (Instr.build t vs.toArray).run P w = .ok v w) :
    (execOp (evE e) ⟨dst, .build t ps, ty, pos, af, gu⟩).run P w = .ok (.value v) w := by
  show Sem.run P (do pure (Next.value (← Instr.build t (ps.map fun (i, x) => (i, evE e x))))) w = _
  have : (ps.map fun (i, x) => (i, evE e x)) = vs.toArray := by
    apply Array.toList_inj.1
    rw [Array.toList_map]
    exact evp_eq hp
  rw [this, Sem.run_bind, hb, Result.andThen_ok]; rfl
/-- A slice literal. -/
theorem run_newRow (cs : Array Value) : (newRow t cs).run P w = .ok ⟨w.heap.size, 0, none⟩ (w.alloc (.cells cs t)) := rfl

theorem op_bslice {len : Nat} {ps : Array (Nat × Operand)} {vs : List (Nat × Value)} {cells : Array Value} (hf : Fits e n a) (hi : ops[i]? = some ⟨some d, .buildSlice t len ps, ty, pos, af, gu⟩) (hg : gd ops e gu = some true) (hn : Nat.blt d n = true) (hp : evp e ps.toList = some vs) (hk : known e ⟨some d, .buildSlice t len ps, ty, pos, af, gu⟩ = true)
    (hb : ∀ w, (Instr.buildSlice t len vs.toArray).run P w = .ok (.slice (some ⟨w.heap.size, 0, none⟩) len len) (w.alloc (.cells cells s))) (hI : Inv w0 hs w)
    (k : ∀ a b w', w0.heap.size ≤ b → Inv w0 (hs ++ [(b, cells, s)]) w' → Fits ((d, .slice (some ⟨b, 0, none⟩) len len) :: e) n a → K a w') : wpOp P ops Q i K a w := by
  refine op_val (o := ⟨some d, .buildSlice t len ps, ty, pos, af, gu⟩) hf hi hg hk rfl rfl hn (w' := w.alloc (.cells cells s)) (v := .slice (some ⟨w.heap.size, 0, none⟩) len len) ?_ (fun a hf' => k a _ _ hI.size (hI.alloc cells s) hf')
  show Sem.run P (do pure (Next.value (← Instr.buildSlice t len (ps.map fun (i, x) => (i, evE e x))))) w = _
  have : (ps.map fun (i, x) => (i, evE e x)) = vs.toArray := by
    apply Array.toList_inj.1
    rw [Array.toList_map]
    exact evp_eq hp
  rw [this, Sem.run_bind, hb, Result.andThen_ok]; rfl
/-- A call through a function value. -/
theorem op_callv {g : FuncId} {fx : Operand} {xs : Array Operand} {ats : Array TypeId} {vs : List Value} {first cap : List Value} {R : Value → World → Prop}
    (hf : Fits e n a) (hi : ops[i]? = some { dst := some d, op := .call { callee := .value fx, args := xs, argTypes := ats }, type := ty, pos, after := af, guard := gu })
    (hg : gd ops e gu = some true) (hfx : ev e fx = some (.func (.func g) first.toArray cap.toArray)) (hx : evs e xs.toList = some vs) (hn : Nat.blt d n = true) (hc : callable P g = true)
    (h : Calls P g (first ++ vs ++ cap).toArray w fun e w' => ∃ v, e = .returned v ∧ R v w')
    (k : ∀ a v w', R v w' → Fits ((d, v) :: e) n a → K a w') : wpOp P ops Q i K a w := by
  unfold wpOp
  rw [hi]
  simp only
  rw [hf.wanted (o := { dst := some d, op := .call { callee := .value fx, args := xs, argTypes := ats }, type := ty, pos, after := af, guard := gu }) hg, if_pos rfl]
  refine .inl ?_
  unfold Oper.wp
  have hex : execOp a.eval { dst := some d, op := .call { callee := .value fx, args := xs, argTypes := ats }, type := ty, pos, after := af, guard := gu } = callFunc g (first ++ vs ++ cap).toArray := by
    show (do let d ← Deferred.ofValue (a.eval fx) (xs.map a.eval); invoke d.target d.args : Sem Next) = _
    have hargs : xs.map a.eval = vs.toArray := by
      apply Array.toList_inj.1
      rw [Array.toList_map]
      exact hf.evals hx
    rw [hf.eval hfx, hargs]
    show callFunc g (first.toArray ++ vs.toArray ++ cap.toArray) = _
    simp
  rw [hex, run_callFunc hc, Oper.upon_enter]
  refine h.mono fun e' w' he => ?_
  obtain ⟨v, rfl, hR⟩ := he
  exact k _ v w' hR (hf.put hn v)

/-! ### Results -/
variable {fn : Func} {R : Ending → World → Prop}
theorem tmps_get {t : Nat} (hf : Fits e n a) (h : e.get t = some v) : a.tmps[t]?.getD undef = v := by rw [hf.get t v h]; rfl
theorem post1 {t : Nat} (hr : fn.results = #[.tmp t]) (hf : Fits e n a) (h : e.get t = some v) (hR : R (.returned v) w) : bodyPost P fn R .ret a w :=
  ⟨hf.defers, v, by simp [results, hr, tmps_get hf h], hR⟩
theorem post2 {t1 t2 : Nat} {v1 v2 : Value} (hr : fn.results = #[.tmp t1, .tmp t2]) (hf : Fits e n a) (h1 : e.get t1 = some v1) (h2 : e.get t2 = some v2) (hR : R (.returned (.tuple #[v1, v2])) w) : bodyPost P fn R .ret a w :=
  ⟨hf.defers, _, by simp [results, hr, tmps_get hf h1, tmps_get hf h2], hR⟩
theorem post3 {t1 t2 t3 : Nat} {v1 v2 v3 : Value} (hr : fn.results = #[.tmp t1, .tmp t2, .tmp t3]) (hf : Fits e n a) (h1 : e.get t1 = some v1) (h2 : e.get t2 = some v2) (h3 : e.get t3 = some v3) (hR : R (.returned (.tuple #[v1, v2, v3])) w) : bodyPost P fn R .ret a w :=
  ⟨hf.defers, _, by simp [results, hr, tmps_get hf h1, tmps_get hf h2, tmps_get hf h3], hR⟩
theorem post4 {t1 t2 t3 t4 : Nat} {v1 v2 v3 v4 : Value} (hr : fn.results = #[.tmp t1, .tmp t2, .tmp t3, .tmp t4]) (hf : Fits e n a) (h1 : e.get t1 = some v1) (h2 : e.get t2 = some v2) (h3 : e.get t3 = some v3) (h4 : e.get t4 = some v4) (hR : R (.returned (.tuple #[v1, v2, v3, v4])) w) : bodyPost P fn R .ret a w :=
  ⟨hf.defers, _, by simp [results, hr, tmps_get hf h1, tmps_get hf h2, tmps_get hf h3, tmps_get hf h4], hR⟩
theorem post0 (hr : fn.results = #[]) (hf : Fits e n a) (hR : R (.returned (.tuple #[])) w) : bodyPost P fn R .normal a w := ⟨hf.defers, _, by simp [results, hr], hR⟩
theorem post0r (hr : fn.results = #[]) (hf : Fits e n a) (hR : R (.returned (.tuple #[])) w) : bodyPost P fn R .ret a w := ⟨hf.defers, _, by simp [results, hr], hR⟩
/-- A variable's cells as they are read at the end. -/
theorem run_loadW {b sz : Nat} {cs : Array Value} {fr : Nat × Nat} (ha : aggB P t = some true) (hz : sizeB P t = some sz) (hb : w.heap[b]? = some (.cells cs tt fr)) (hl : cs.size = sz) : (loadVar t ⟨b, 0, none⟩).run P w = .ok (.agg cs) w := by
  have := run_loadRange (P := P) (w := w) (b := b) (o := 0) (vs := cs.toList) ha hz (by simpa using hl) (fun j v hv => by
    rw [cell_of_row w b _ cs tt fr hb, Nat.zero_add]; simpa using hv)
  simpa using this
theorem postC {p b sz : Nat} {cs : Array Value} {fr : Nat × Nat} (hr : fn.results = #[.cell p t]) (hf : Fits e n a) (h : e.get p = some (.pointer (some ⟨b, 0, none⟩))) (ha : aggB P t = some true) (hz : sizeB P t = some sz) (hb : w.heap[b]? = some (.cells cs tt fr)) (hl : cs.size = sz)
    (hR : R (.returned (.agg cs)) w) : bodyPost P fn R .ret a w :=
  ⟨hf.defers, _, by simp [results, hr, tmps_get hf h, asAddr, run_loadW ha hz hb hl], hR⟩
theorem postC1 {p b sz t1 : Nat} {v1 : Value} {cs : Array Value} {fr : Nat × Nat} (hr : fn.results = #[.cell p t, .tmp t1]) (hf : Fits e n a) (h : e.get p = some (.pointer (some ⟨b, 0, none⟩))) (ha : aggB P t = some true) (hz : sizeB P t = some sz) (hb : w.heap[b]? = some (.cells cs tt fr)) (hl : cs.size = sz)
    (h1 : e.get t1 = some v1) (hR : R (.returned (.tuple #[.agg cs, v1])) w) : bodyPost P fn R .ret a w :=
  ⟨hf.defers, _, by simp [results, hr, tmps_get hf h, tmps_get hf h1, asAddr, run_loadW ha hz hb hl], hR⟩
theorem postC2 {p b sz t1 t2 : Nat} {v1 v2 : Value} {cs : Array Value} {fr : Nat × Nat} (hr : fn.results = #[.cell p t, .tmp t1, .tmp t2]) (hf : Fits e n a) (h : e.get p = some (.pointer (some ⟨b, 0, none⟩))) (ha : aggB P t = some true) (hz : sizeB P t = some sz) (hb : w.heap[b]? = some (.cells cs tt fr)) (hl : cs.size = sz)
    (h1 : e.get t1 = some v1) (h2 : e.get t2 = some v2) (hR : R (.returned (.tuple #[.agg cs, v1, v2])) w) : bodyPost P fn R .ret a w :=
  ⟨hf.defers, _, by simp [results, hr, tmps_get hf h, tmps_get hf h1, tmps_get hf h2, asAddr, run_loadW ha hz hb hl], hR⟩
theorem postC3 {p b sz t1 t2 t3 : Nat} {v1 v2 v3 : Value} {cs : Array Value} {fr : Nat × Nat} (hr : fn.results = #[.cell p t, .tmp t1, .tmp t2, .tmp t3]) (hf : Fits e n a) (h : e.get p = some (.pointer (some ⟨b, 0, none⟩))) (ha : aggB P t = some true) (hz : sizeB P t = some sz) (hb : w.heap[b]? = some (.cells cs tt fr)) (hl : cs.size = sz)
    (h1 : e.get t1 = some v1) (h2 : e.get t2 = some v2) (h3 : e.get t3 = some v3) (hR : R (.returned (.tuple #[.agg cs, v1, v2, v3])) w) : bodyPost P fn R .ret a w :=
  ⟨hf.defers, _, by simp [results, hr, tmps_get hf h, tmps_get hf h1, tmps_get hf h2, tmps_get hf h3, asAddr, run_loadW ha hz hb hl], hR⟩

/-! ### Builtins -/
theorem execOp_bi (b : Builtin) (xs : Array Operand) (ats : Array TypeId) : execOp (evE e) ⟨dst, .call ⟨.builtin b, xs, ats⟩, ty, pos, af, gu⟩ = builtin b ats ty (xs.map fun | .const _ => true | _ => false) (xs.map (evE e)) := rfl
theorem r_len {len cap sz : Nat} {at_ : Option Addr} (hA : slcB P t = some (s, sz)) (hx : ev e x = some (.slice at_ len cap)) :
    (execOp (evE e) ⟨dst, .call ⟨.builtin .len, #[x], #[t]⟩, ty, pos, af, gu⟩).run P w = .ok (.value (.int .i64 len)) w := by
  obtain ⟨hu, _⟩ := slcB_some hA
  rw [execOp_bi]
  simp only [List.map_toArray, List.map_cons, List.map_nil]
  show Sem.run P (do pure (Next.value (← Builtin.len_ #[t] ty #[evE e x]))) w = _
  rw [evE_eq hx]
  have : (Builtin.len_ #[t] ty #[Value.slice at_ len cap]).run P w = .ok (.int .i64 len) w := by
    unfold Builtin.len_
    simp only [List.getElem?_toArray, List.getElem?_cons_zero, Sem.run_bind, run_underlying hu, Result.andThen_ok]; rfl
  rw [Sem.run_bind, this]; rfl
theorem r_min {k : IntKind} {m n : Int} {ats : Array TypeId} (hx : ev e x = some (.int k m)) (hy : ev e y = some (.int k n)) :
    (execOp (evE e) ⟨dst, .call ⟨.builtin .min, #[x, y], ats⟩, ty, pos, af, gu⟩).run P w = .ok (.value (.int k (if n < m then n else m))) w := by
  rw [execOp_bi]
  simp only [List.map_toArray, List.map_cons, List.map_nil]
  show Sem.run P (do pure (Next.value (← Builtin.min_ ats ty #[evE e x, evE e y]))) w = _
  rw [evE_eq hx, evE_eq hy]; rfl
theorem r_min3 {k : IntKind} {m n l : Int} {ats : Array TypeId} (hx : ev e x = some (.int k m)) (hy : ev e y = some (.int k n)) (hz : ev e z = some (.int k l)) :
    (execOp (evE e) ⟨dst, .call ⟨.builtin .min, #[x, y, z], ats⟩, ty, pos, af, gu⟩).run P w = .ok (.value (.int k (if l < (if n < m then n else m) then l else (if n < m then n else m)))) w := by
  rw [execOp_bi]
  simp only [List.map_toArray, List.map_cons, List.map_nil]
  show Sem.run P (do pure (Next.value (← Builtin.min_ ats ty #[evE e x, evE e y, evE e z]))) w = _
  rw [evE_eq hx, evE_eq hy, evE_eq hz]; rfl
theorem r_max {k : IntKind} {m n : Int} {ats : Array TypeId} (hx : ev e x = some (.int k m)) (hy : ev e y = some (.int k n)) :
    (execOp (evE e) ⟨dst, .call ⟨.builtin .max, #[x, y], ats⟩, ty, pos, af, gu⟩).run P w = .ok (.value (.int k (if n > m then n else m))) w := by
  rw [execOp_bi]
  simp only [List.map_toArray, List.map_cons, List.map_nil]
  show Sem.run P (do pure (Next.value (← Builtin.max_ ats ty #[evE e x, evE e y]))) w = _
  rw [evE_eq hx, evE_eq hy]; rfl
end

/-! ### Ways out -/
section
variable {P : Program} {Q : Exit → Act → World → Prop} {K : Act → World → Prop} {a : Act} {w : World}
theorem rounds_go {c : Code} {n : Nat} (h : c.wp P (Exit.then (Code.rounds P c Q n) Q) a w) : Code.rounds P c Q (n + 1) a w := h
theorem then_normal (h : K a w) : Exit.then K Q .normal a w := h
theorem then_exit {id : Nat} (h : Q (.exit id) a w) : Exit.then K Q (.exit id) a w := h
theorem then_ret (h : Q .ret a w) : Exit.then K Q .ret a w := h
theorem block_normal {id : Nat} (h : Q .normal a w) : Exit.inBlock id Q .normal a w := h
theorem block_ret {id : Nat} (h : Q .ret a w) : Exit.inBlock id Q .ret a w := h
theorem block_here {id : Nat} (h : Q .normal a w) : Exit.inBlock id Q (.exit id) a w := by
  show (if id = id then Q .normal a w else Q (.exit id) a w)
  rw [if_pos rfl]; exact h
theorem block_past {id j : Nat} (hne : Nat.beq j id = false) (h : Q (.exit j) a w) : Exit.inBlock id Q (.exit j) a w := by
  show (if j = id then Q .normal a w else Q (.exit j) a w)
  rw [if_neg (fun e => by rw [e, Nat.beq_refl] at hne; cases hne)]; exact h
end
theorem fresh_keys {hs : List Blk} {ks : List Nat} {n : Nat} (h : hs.map (·.1) = ks) (hk : ∀ k ∈ ks, n ≤ k) : ∀ x ∈ hs, n ≤ x.1 := fun x hx => hk _ (h ▸ List.mem_map_of_mem hx)
theorem Inv.drop {w0 w : World} {A B : List Blk} (h : Inv w0 (A ++ B) w) (hB : ∀ x ∈ B, w0.heap.size ≤ x.1) : Inv w0 A w :=
  h.forget (List.sublist_append_left A B) (fun x hx => (List.mem_append.1 hx).elim .inl (fun hx => .inr (hB x hx)))
/-- What was only read is as it was. -/
theorem Inv.unread {w w' : World} {A : List Blk} (h : Inv w A w') (h0 : Has A w) : Inv w [] w' :=
  ⟨h.os, h.tape, h.output, h.size, fun k hk _ => by
    by_cases hA : ∃ x ∈ A, x.1 = k
    · obtain ⟨x, hx, rfl⟩ := hA
      obtain ⟨i, hi, rfl⟩ := List.mem_iff_getElem.1 hx
      rw [h.blk _ hx, h0 i _ (List.getElem?_eq_getElem hi)]
    · exact h.old k hk (fun x hx e => hA ⟨x, hx, e⟩), fun _ hx => (by cases hx), List.Pairwise.nil⟩
theorem fk_nil {n : Nat} : ∀ k ∈ ([] : List Nat), n ≤ k := fun _ h => by cases h
theorem fk_cons {n m : Nat} {l : List Nat} (h : n ≤ m) (hl : ∀ k ∈ l, n ≤ k) : ∀ k ∈ m :: l, n ≤ k := fun k hk => by
  rcases List.mem_cons.1 hk with rfl | hk
  · exact h
  · exact hl k hk
end Go.Proofs.Ytjelaoblpchmmaa
