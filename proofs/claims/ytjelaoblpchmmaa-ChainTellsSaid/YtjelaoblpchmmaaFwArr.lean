/-
  The calculus of walks: rows of numbers of the call's own: made, copied, cleared; deferred calls that recover.
-/
import Derived.Test.YtjelaoblpchmmaaFwFun
import Derived.Deep.OwnRows
import Derived.Laws.Append
import Derived.Recover
import Derived.Laws.Cover3
namespace Go.Proofs.Ytjelaoblpchmmaa
set_option linter.unusedVariables false
set_option linter.unusedSimpArgs false
open Go.RowKit

section
variable {P : Program} {ops : Array Oper} {Q : Exit → Act → World → Prop} {K : Act → World → Prop} {e : Env} {n i d : Nat} {a : Act} {w w' w0 : World} {hs : List Blk} {dst : Option Tmp} {ty : TypeId} {pos : String} {af : Array Edge} {gu : Option (Nat × Bool)} {v : Value} {x y : Operand} {t et : TypeId} {k : IntKind} {z : Value}

theorem Inv.unreadB {w w' : World} {A B : List Blk} (h : Inv w (A ++ B) w') (h0 : Has B w) : Inv w A w' :=
  ⟨h.os, h.tape, h.output, h.size, fun k hk hn => by
    by_cases hb : ∃ x ∈ B, x.1 = k
    · obtain ⟨x, hx, rfl⟩ := hb
      obtain ⟨i, hi, e⟩ := List.mem_iff_getElem.1 hx
      rw [h.blk x (List.mem_append_right _ hx), h0 i x (by rw [List.getElem?_eq_getElem hi, e])]
    · exact h.old k hk (fun x hx => (List.mem_append.1 hx).elim (hn x) (fun hx e => hb ⟨x, hx, e⟩)), fun x hx => h.blk x (List.mem_append_left _ hx), (List.pairwise_append.1 h.nodup).1⟩
theorem Inv.unreadA {w w' : World} {A B : List Blk} (h : Inv w (A ++ B) w') (h0 : Has A w) : Inv w B w' := (h.perm List.perm_append_comm).unreadB h0
theorem Inv.ne {w0 w : World} {hs : List Blk} (h : Inv w0 hs w) {i j : Nat} {x y : Blk} (hi : hs[i]? = some x) (hj : hs[j]? = some y) (hij : i ≠ j) : x.1 ≠ y.1 := by
  obtain ⟨hi', rfl⟩ := List.getElem?_eq_some_iff.1 hi
  obtain ⟨hj', rfl⟩ := List.getElem?_eq_some_iff.1 hj
  have hp := List.pairwise_iff_getElem.1 h.nodup
  rcases Nat.lt_or_gt_of_ne hij with g | g
  · exact hp i j hi' hj' g
  · exact (hp j i hj' hi' g).symm

/-! ### New rows -/
theorem zeroCells_one (z : Value) (m : Nat) : Builtin.zeroCells #[z] m = Array.replicate m z := by
  unfold Builtin.zeroCells
  apply Array.ext
  · simp
  · intro j h1 h2
    simp [Nat.mod_one]
theorem madeCells_one (z : Value) (m : Nat) : madeCells #[z] m = Array.replicate m z := by
  unfold madeCells
  apply Array.ext
  · simp
  · intro j h1 h2
    simp [Nat.mod_one]
/-- 'make': a row of so many noughts (of whatever one cell). -/
theorem op_make {bytes m : Nat} {kl kc : IntKind} {l c : Operand} (hf : Fits e n a) (hi : ops[i]? = some ⟨some d, .makeSlice t l c, ty, pos, af, gu⟩) (hg : gd ops e gu = some true) (hn : Nat.blt d n = true)
    (hA : P.underlying t = some (.slice et)) (hE : (P.info? et).map (fun i => (i.zero, i.size, i.bytes)) = some (some z, 1, bytes)) (hz : z.cells = #[z]) (hl : ev e l = some (.int kl (m : Int))) (hc : ev e c = some (.int kc (m : Int)))
    (hb : bytes * m ≤ 281474976710656) (h63 : m ≤ 9223372036854775807) (hI : Inv w0 hs w)
    (kk : ∀ a b w', w0.heap.size ≤ b → Inv w0 (hs ++ [(b, Array.replicate m z, et)]) w' → Fits ((d, .slice (some ⟨b, 0, none⟩) m m) :: e) n a → K a w') : wpOp P ops Q i K a w := by
  refine op_val (o := ⟨some d, .makeSlice t l c, ty, pos, af, gu⟩) (v := .slice (some ⟨w.heap.size, 0, none⟩) m m) (w' := w.alloc (.cells (Array.replicate m z) et)) hf hi hg (by simp [known, Op.operands, hl, hc]) rfl rfl hn ?_ (fun a hf' => kk a _ _ hI.size (hI.alloc _ et) hf')
  show Sem.run P (do pure (Next.value (← Instr.makeSlice t (evE e l) (evE e c)))) w = _
  rw [evE_eq hl, evE_eq hc, Sem.run_bind, run_make_row' t et z bytes hA hE hz kl kc m hb h63 w, Result.andThen_ok, madeCells_one]; rfl
theorem Inv.has0 {hs : List Blk} (h : Inv w0 hs w) : Has [] w := Has.nil
theorem len_rep (n : Nat) : (List.replicate n (0 : Int)).length = n := List.length_replicate
theorem arr_rep {m : Nat} {c : Int} : Array.replicate m (.int k c) = arr k (List.replicate m c) := by
  unfold arr
  apply Array.toList_inj.1
  simp
/-- A copy: what is appended to nothing. -/
theorem op_clone {bytes b0 cap l : Nat} {p : Option Addr} {xs : List Int} (hl : xs.length = l) (hf : Fits e n a) (hi : ops[i]? = some ⟨some d, .call ⟨.builtin .append, #[x, y], #[t, t]⟩, ty, pos, af, gu⟩) (hg : gd ops e gu = some true) (hn : Nat.blt d n = true)
    (hA : P.underlying t = some (.slice et)) (hE : (P.info? et).map (fun i => (i.zero, i.size, i.bytes)) = some (some (.int k 0), 1, bytes)) (hx : ev e x = some (.slice (some ⟨b0, 0, none⟩) 0 0)) (hy : ev e y = some (.slice p l cap)) (hr : Rd w k p xs) (h0 : 0 < l)
    (hm : l ≤ maxLen) (hb : l * bytes ≤ 281474976710656) (hI : Inv w0 hs w)
    (kk : ∀ a b m w', w0.heap.size ≤ b → l + m ≤ maxLen → Inv w0 (hs ++ [(b, arr k (xs ++ List.replicate m 0), et)]) w' → Fits ((d, .slice (some ⟨b, 0, none⟩) l (l + m)) :: e) n a → K a w') : wpOp P ops Q i K a w := by
  subst hl
  obtain ⟨ii, hi1, hz, hs1, hb1⟩ := info_parts hE
  obtain ⟨ad, rfl, _⟩ := hr 0 h0
  have hrun := run_append_grow (P := P) w t ty et ii (.int k 0) hA hi1 hz ⟨b0, 0, none⟩ 0 0 [] (by simp) (fun j v hv => by cases hv) ad xs.length cap (xs.map (Value.int k)) (by simp [hs1])
    (fun j v hv => by
      have hj : j < xs.length := by have := (List.getElem?_eq_some_iff.1 hv).1; simpa using this
      obtain ⟨a', ha, hc⟩ := hr j hj
      have := Option.some.inj ha
      subst this
      rw [hc]
      simp [List.getElem?_eq_getElem hj] at hv
      simp [List.getElem?_eq_getElem hj, hv]) (by omega) (by simp only [maxLen] at hm; omega) (by rw [Nat.zero_add, nextslicecap_zero h0, hb1]; exact hb)
  rw [Nat.zero_add] at hrun
  have hge := grownCap_ge w xs.length 0 et
  obtain ⟨m, hm'⟩ : ∃ m, grownCap w xs.length 0 et = xs.length + m := ⟨_, (Nat.add_sub_cancel' hge).symm⟩
  have hcap : grownCap w xs.length 0 et ≤ maxLen := grownCap_le_maxLen w xs.length 0 et hm
  have hcells : (([] : List Value).toArray ++ (xs.map (Value.int k)).toArray ++ Builtin.zeroCells (Value.int k 0).cells (grownCap w xs.length 0 et - xs.length)) = arr k (xs ++ List.replicate m 0) := by
    rw [hm', Nat.add_sub_cancel_left]
    show _ ++ Builtin.zeroCells #[Value.int k 0] m = _
    rw [zeroCells_one]
    unfold arr
    apply Array.toList_inj.1
    simp
  rw [hcells, hm'] at hrun
  refine op_val (o := ⟨some d, .call ⟨.builtin .append, #[x, y], #[t, t]⟩, ty, pos, af, gu⟩) hf hi hg (by simp [known, Op.operands, Call.operands, hx, hy]) rfl rfl hn ?_ (fun a hf' => kk a _ m (w.drew.alloc (.cells (arr k (xs ++ List.replicate m 0)) et)) hI.size (by rw [← hm']; exact hcap) (hI.drew.alloc _ et) hf')
  rw [execOp_bi]
  simp only [List.map_toArray, List.map_cons, List.map_nil]
  show Sem.run P (do pure (Next.value (← Builtin.append_ #[t, t] ty #[evE e x, evE e y]))) w = _
  rw [evE_eq hx, evE_eq hy, Sem.run_bind, hrun]
  rfl
theorem arr_take {xs : List Int} : (arr k xs).toList.take xs.length = xs.map (Value.int k) := by
  have : (arr k xs).toList = xs.map (Value.int k) := by simp [arr]
  rw [this, List.take_of_length_le (by simp)]
theorem arr_take2 {xs ys : List Int} : (arr k (xs ++ ys)).toList.take xs.length = xs.map (Value.int k) := by
  have : (arr k (xs ++ ys)).toList = xs.map (Value.int k) ++ ys.map (Value.int k) := by simp [arr]
  rw [this, List.take_left' (by simp)]
/-- 'clear': noughts in all of a row. -/
theorem op_clear {bytes b m cap : Nat} {xs : List Int} (j : Nat) (hf : Fits e n a) (hi : ops[i]? = some ⟨none, .call ⟨.builtin .clear, #[x], #[t]⟩, ty, pos, af, gu⟩) (hg : gd ops e gu = some true)
    (hA : P.underlying t = some (.slice et)) (hE : (P.info? et).map (fun i => (i.zero, i.size, i.bytes)) = some (some (.int k 0), 1, bytes)) (hx : ev e x = some (.slice (some ⟨b, 0, none⟩) m cap)) (h0 : 0 < m) (hl : xs.length = m) (hI : Inv w0 hs w) (hj : hs[j]? = some (b, arr k xs, et))
    (kk : ∀ w', Inv w0 (hs.set j (b, arr k (List.replicate m 0), et)) w' → K (a.put none (.tuple #[])) w') : wpOp P ops Q i K a w := by
  obtain ⟨ii, hi1, hz, hs1, hb1⟩ := info_parts hE
  have hzc : (Builtin.zeroCells (Value.int k 0).cells m).toList = List.replicate m (Value.int k 0) := by
    show (Builtin.zeroCells #[Value.int k 0] m).toList = _
    rw [zeroCells_one]; simp
  obtain ⟨w1, hw1, hI1⟩ := run_storeN (P := P) (List.replicate m (Value.int k 0)) b 0 0 (arr k xs) w hs j hI hj (fun v hv => by rw [List.eq_of_mem_replicate hv]; rfl) (by simp [arr, hl])
  have hsp : spl (arr k xs) (0 + 0) (List.replicate m (Value.int k 0)) = arr k (List.replicate m 0) := by
    rw [Nat.add_zero, spl_whole _ _ (by simp [arr, hl]), ← arr_rep]
    apply Array.toList_inj.1
    simp
  rw [hsp] at hI1
  unfold wpOp
  rw [hi]
  simp only [hf.wanted (o := ⟨none, .call ⟨.builtin .clear, #[x], #[t]⟩, ty, pos, af, gu⟩) hg, if_true]
  refine .inl ?_
  unfold Oper.wp
  rw [hf.exec _ (by simp [known, Op.operands, Call.operands, hx]) rfl, execOp_bi]
  simp only [List.map_toArray, List.map_cons, List.map_nil]
  have hrun : Sem.run P (do pure (Next.value (← Builtin.clear_ #[t] ty #[evE e x]))) w = .ok (.value (.tuple #[])) w1 := by
    rw [evE_eq hx]
    obtain ⟨m', rfl⟩ : ∃ m', m = m' + 1 := ⟨m - 1, by omega⟩
    simp only [Builtin.clear_, Sem.run_bind, run_underlying hA, Result.andThen_ok, zeroValue, typeInfo]
    simp [hi1, hz, hzc, hw1, run_underlying hA, storeCells]
  show Oper.upon P _ a K Q (Sem.run P (do pure (Next.value (← Builtin.clear_ #[t] ty #[evE e x]))) w)
  rw [hrun, Oper.upon_value]
  exact kk w1 hI1

theorem r_eqSl {p : Option Addr} {len cap : Nat} {s : TypeId} {b : Bool} (hu : P.underlying t = some (.slice et)) (hx : ev e x = some (.slice p len cap)) (hy : ev e y = some (.slice none 0 0)) (hb : p.isNone = b) :
    (execOp (evE e) ⟨dst, .binOp .eql t x y s, ty, pos, af, gu⟩).run P w = .ok (.value (.bool b)) w :=
  r_eq hx hy (fun _ => rfl) (fun w => by
    show (do pure (.bool (← Op.equal t (.slice p len cap) (.slice none 0 0))) : Sem Value).run P w = _
    rw [Sem.run_bind, run_equal_slice_nil (P := P) (w := w) (t := t) (e := et) (a := p) (l := len) (c := cap) hu, hb]; rfl)

/-! ### Fields of rows that came in -/
theorem r_fieldAddrR {p : Option Addr} {s : TypeId} {f q o : Nat} (hF : fieldB P s f = some (o, t)) (hx : ev e x = some (.pointer (slAt p q))) (hp : ∃ a, p = some a) :
    (execOp (evE e) ⟨dst, .fieldAddr s x f, ty, pos, af, gu⟩).run P w = .ok (.value (.pointer (slAt p (q + o)))) w := by
  obtain ⟨a, rfl⟩ := hp
  obtain ⟨fs, fl, hu, hf, rfl, rfl, m, hm⟩ := fieldB_some hF
  show Sem.run P (do pure (Next.value (← Instr.fieldAt s (evE e x) f))) w = _
  rw [evE_eq hx]
  simp only [slAt, Option.map_some, Instr.fieldAt, Instr.sureAddr, fieldPlace, Sem.run_bind, Sem.run_pure, run_underlying hu, Result.andThen_ok, hf, run_sizeOf hm]
  rw [if_neg (Nat.succ_ne_zero m)]
  simp only [Sem.run_pure, Result.andThen_ok, add_add]
theorem r_loadF {p : Option Addr} {i o sz : Nat} {rows : List (List Value)} {row : List Value} (ha : aggB P t = some false) (hx : ev e x = some (.pointer (slAt p (i * sz + o)))) (hr : Rows_ w p sz rows) (hi : rows[i]? = some row) (hv : row[o]? = some v) :
    (execOp (evE e) ⟨dst, .load t x, ty, pos, af, gu⟩).run P w = .ok (.value v) w := by
  obtain ⟨a, rfl, hc⟩ := hr i row hi
  show Sem.run P (do pure (Next.value (← Instr.loadAt t (evE e x)))) w = _
  rw [evE_eq hx]
  simp only [slAt, Option.map_some, Instr.loadAt, Instr.sureAddr, loadVar, Sem.run_bind, Sem.run_pure, Result.andThen_ok, run_isAgg ha]
  rw [if_neg Bool.false_ne_true, run_load, hc o v hv]; rfl

/-! ### Deferred calls -/
structure FitsD (ds : List Deferred) (e : Env) (n : Nat) (a : Act) : Prop where
  defers : a.defers = ds
  f : Fits e n { a with defers := [] }
theorem FitsD.put {ds : List Deferred} (h : FitsD ds e n a) (hd : Nat.blt d n = true) (v : Value) : FitsD ds ((d, v) :: e) n (a.put (some d) v) := ⟨h.defers, h.f.put hd v⟩
theorem op_valD {ds : List Deferred} {o : Oper} (hf : FitsD ds e n a) (hi : ops[i]? = some o) (hg : gd ops e o.guard = some true) (hk : known e o = true) (hs : noSel o.op = true) (hd : o.dst = some d) (hn : Nat.blt d n = true)
    (hr : (execOp (evE e) o).run P w = .ok (.value v) w') (k : ∀ a, FitsD ds ((d, v) :: e) n a → K a w') : wpOp P ops Q i K a w := by
  unfold wpOp
  rw [hi]
  have hw : Region.wanted o (yielded ops a.tmps) = true := hf.f.wanted hg
  simp only [hw, if_true]
  refine .inl ?_
  unfold Oper.wp
  have he : execOp a.eval o = execOp (evE e) o := hf.f.exec o hk hs
  rw [he, hr, Oper.upon_value, hd]
  exact k _ (hf.put hn v)
theorem op_panD {ds : List Deferred} {o : Oper} (hf : FitsD ds e n a) (hi : ops[i]? = some o) (hg : gd ops e o.guard = some true) (hk : known e o = true) (hs : noSel o.op = true)
    (hr : (execOp (evE e) o).run P w = .halt (.panic v) w') (k : Q (.panic [{ v, recovered := false }]) a w') : wpOp P ops Q i K a w := by
  unfold wpOp
  rw [hi]
  have hw : Region.wanted o (yielded ops a.tmps) = true := hf.f.wanted hg
  simp only [hw, if_true]
  refine .inl ?_
  unfold Oper.wp
  have he : execOp a.eval o = execOp (evE e) o := hf.f.exec o hk hs
  rw [he, hr]
  exact k
theorem op_defer {g : FuncId} {fx : Operand} {ats : Array TypeId} {cap : Array Value} (hf : Fits e n a) (hi : ops[i]? = some ⟨none, .defer ⟨.value fx, #[], ats⟩, ty, pos, af, gu⟩) (hg : gd ops e gu = some true) (hfx : ev e fx = some (.func (.func g) #[] cap))
    (k : ∀ a, FitsD [⟨.fn (.func g) cap, #[]⟩] e n a → K a w) : wpOp P ops Q i K a w := by
  unfold wpOp
  rw [hi]
  simp only [hf.wanted (o := ⟨none, .defer ⟨.value fx, #[], ats⟩, ty, pos, af, gu⟩) hg, if_true]
  refine .inl ?_
  unfold Oper.wp
  rw [hf.exec _ (by simp [known, Op.operands, Call.operands, hfx]) rfl]
  have hr : (execOp (evE e) ⟨none, .defer ⟨.value fx, #[], ats⟩, ty, pos, af, gu⟩).run P w = .ok (.defer ⟨.fn (.func g) cap, #[]⟩) w := by
    show Sem.run P (do pure (Next.defer (← resolve (evE e) ⟨.value fx, #[], ats⟩ ty))) w = _
    simp only [resolve, evE_eq hfx]
    simp [Deferred.ofValue]
  rw [hr, Oper.upon_defer]
  refine k _ ⟨?_, ?_⟩
  · show _ :: a.defers = _
    rw [hf.defers]
  · exact ⟨rfl, hf.size, hf.get⟩
theorem op_callvD {ds : List Deferred} {g : FuncId} {fx : Operand} {xs : Array Operand} {ats : Array TypeId} {vs cap : List Value} {R : Value → World → Prop}
    (hf : FitsD ds e n a) (hi : ops[i]? = some { dst := some d, op := .call { callee := .value fx, args := xs, argTypes := ats }, type := ty, pos, after := af, guard := gu })
    (hg : gd ops e gu = some true) (hfx : ev e fx = some (.func (.func g) #[] cap.toArray)) (hx : evs e xs.toList = some vs) (hn : Nat.blt d n = true) (hc : callable P g = true)
    (h : Calls P g (vs ++ cap).toArray w fun e w' => ∃ v, e = .returned v ∧ R v w')
    (k : ∀ a v w', R v w' → FitsD ds ((d, v) :: e) n a → K a w') : wpOp P ops Q i K a w := by
  unfold wpOp
  rw [hi]
  have hw : Region.wanted { dst := some d, op := .call { callee := .value fx, args := xs, argTypes := ats }, type := ty, pos, after := af, guard := gu } (yielded ops a.tmps) = true := hf.f.wanted hg
  simp only [hw, if_true]
  refine .inl ?_
  unfold Oper.wp
  have hex : execOp a.eval { dst := some d, op := .call { callee := .value fx, args := xs, argTypes := ats }, type := ty, pos, after := af, guard := gu } = callFunc g (vs ++ cap).toArray := by
    show (do let d ← Deferred.ofValue (a.eval fx) (xs.map a.eval); invoke d.target d.args : Sem Next) = _
    have h1 : a.eval fx = .func (.func g) #[] cap.toArray := hf.f.eval hfx
    have hargs : xs.map a.eval = vs.toArray := by
      apply Array.toList_inj.1
      rw [Array.toList_map]
      exact hf.f.evals hx
    rw [h1, hargs]
    show callFunc g (#[] ++ vs.toArray ++ cap.toArray) = _
    simp
  rw [hex, run_callFunc hc, Oper.upon_enter]
  refine h.mono fun e' w' he => ?_
  obtain ⟨v, rfl, hR⟩ := he
  exact k _ v w' hR (hf.put hn v)
theorem op_store1D {ds : List Deferred} {b o : Nat} {cs cs' : Array Value} (j : Nat) {tt : TypeId} (hf : FitsD ds e n a) (hi : ops[i]? = some ⟨none, .store t x y, ty, pos, af, gu⟩) (hg : gd ops e gu = some true) (hz : sizeB P t = some 1) (hvc : v.cells = #[v])
    (hx : ev e x = some (.pointer (some ⟨b, o, none⟩))) (hy : ev e y = some v) (hv : v.oneCell' = true) (hI : Inv w0 hs w) (hj : hs[j]? = some (b, cs, tt)) (ho : o < cs.size) (hc : cs.setIfInBounds o v = cs')
    (k : ∀ a w', FitsD ds e n a → Inv w0 (hs.set j (b, cs', tt)) w' → K a w') : wpOp P ops Q i K a w := by
  unfold wpOp
  rw [hi]
  have hw : Region.wanted ⟨none, .store t x y, ty, pos, af, gu⟩ (yielded ops a.tmps) = true := hf.f.wanted hg
  simp only [hw, if_true]
  refine .inl ?_
  unfold Oper.wp
  have he : execOp a.eval ⟨none, .store t x y, ty, pos, af, gu⟩ = execOp (evE e) ⟨none, .store t x y, ty, pos, af, gu⟩ := hf.f.exec _ (by simp [known, Op.operands, hx, hy]) rfl
  have hb := hI.at j hj
  have h1 := run_store1 (P := P) (v := v) hv hb ho
  have hr : (execOp (evE e) ⟨none, .store t x y, ty, pos, af, gu⟩).run P w = .ok .skip (w.setCell ⟨b, o, none⟩ v) := by
    show Sem.run P (do Instr.storeAt t (evE e x) (evE e y); pure Next.skip) w = _
    rw [evE_eq hx, evE_eq hy]
    simp only [Instr.storeAt, Instr.sureAddr, storeVar, Sem.run_bind, Sem.run_pure, Result.andThen_ok, run_sizeOf hz, hvc]
    rw [if_neg (by simp)]
    simp [storeCells, add_none, h1]
  rw [he, hr, Oper.upon_skip]
  obtain ⟨f1, f2, f3, f4, f5, f6⟩ := setCell_facts w b o v cs tt hb
  rw [hc] at f6
  exact k _ _ hf (hI.set j hj f1 f2 f3 f4 f5 f6)
theorem enterD {f : FuncId} {fn : Func} {c : Code} {args : List Value} {R : Ending → World → Prop}
    (hf : P.funcs[f]? = some fn) (hb : fn.body = some c) (hn : fn.ntmps = n) (hl : Nat.ble args.length n = true)
    (h : ∀ a, Fits (enterEnv args 0) n a → c.wp P (bodyPostD P fn R) a w) : Calls P f args.toArray w R := by
  have hl' : args.length ≤ n := Nat.le_of_ble_eq_true hl
  refine calls_of_wp_defers hf hb (h _ ⟨rfl, by simp [hn]; omega, fun t v ht => ?_⟩)
  obtain ⟨j, h1, h2⟩ := enterEnv_get args 0 t v ht
  have hj : t = j := by omega
  subst hj
  have hlt : t < args.length := (List.getElem?_eq_some_iff.1 h2).1
  show (args.toArray ++ Array.replicate (fn.ntmps - args.toArray.size) undef)[t]? = some v
  rw [Array.getElem?_append_left (by simpa using hlt)]
  simpa using h2
theorem run_bounds {α : Type} {kk : IntKind} {x y : Int} {code : BoundsCode} : ∃ T pv w', (boundsPanic kk x y code : Sem α).run P w = .halt (.panic (.iface T pv)) w' ∧ (w' = w ∨ w' = w.drew) := by
  unfold boundsPanic
  split
  · exact ⟨_, _, _, rfl, .inr rfl⟩
  · exact ⟨_, _, _, rfl, .inl rfl⟩
theorem r_indexOut {s : TypeId} {p : Option Addr} {len cap sz : Nat} {m : Int} (hA : slcB P t = some (s, sz)) (hx : ev e x = some (.slice p len cap)) (hy : ev e y = some (.int k m)) (hp : p = none → len = 0) (ho : m < 0 ∨ (len : Int) ≤ m) :
    ∃ T pv w', (execOp (evE e) ⟨dst, .indexAddr t x y, ty, pos, af, gu⟩).run P w = .halt (.panic (.iface T pv)) w' ∧ (w' = w ∨ w' = w.drew) := by
  obtain ⟨hu, hs⟩ := slcB_some hA
  cases p with
  | none =>
    obtain ⟨T, pv, w', h, hw⟩ := run_bounds (P := P) (w := w) (α := Value) (kk := k) (x := m) (y := ((0 : Nat) : Int)) (code := .index)
    refine ⟨T, pv, w', ?_, hw⟩
    show Sem.run P (do pure (Next.value (← Instr.indexAt t (evE e x) (evE e y)))) w = _
    rw [evE_eq hx, evE_eq hy, Sem.run_bind]
    have : (Instr.indexAt t (.slice none len cap) (.int k m)).run P w = (boundsPanic k m ((0 : Nat) : Int) .index : Sem Value).run P w := by
      simp [Instr.indexAt, asIntOf, run_underlying hu]
    rw [this, h]; rfl
  | some a0 =>
    obtain ⟨T, pv, w', h, hw⟩ := run_bounds (P := P) (w := w) (α := Value) (kk := k) (x := m) (y := (len : Int)) (code := .index)
    refine ⟨T, pv, w', ?_, hw⟩
    show Sem.run P (do pure (Next.value (← Instr.indexAt t (evE e x) (evE e y)))) w = _
    rw [evE_eq hx, evE_eq hy, Sem.run_bind]
    have : (Instr.indexAt t (.slice (some a0) len cap) (.int k m)).run P w = (boundsPanic k m (len : Int) .index : Sem Value).run P w := by
      simp [Instr.indexAt, asIntOf, run_underlying hu]
      omega
    rw [this, h]; rfl
theorem r_nilCheckOut (hx : ev e x = some (.pointer none)) : ∃ T pv, (execOp (evE e) ⟨dst, .nilCheck x, ty, pos, af, gu⟩).run P w = .halt (.panic (.iface T pv)) w := by
  unfold execOp
  simp only [evE_eq hx]
  exact ⟨_, _, rfl⟩
theorem leaves_one {fn : Func} {R : Ending → World → Prop} {g : FuncId} {cap : Array Value} {u : FrameMode} (hf : FitsD [⟨.fn (.func g) cap, #[]⟩] e n a) (hu : u ≠ .run) (hc : callable P g = true)
    (h : CallsD P g cap u w fun
      | .returned _, u', w' => Leaves P fn a.tmps R [] (settle u') w'
      | .panicked chain, u', w' => Leaves P fn a.tmps R [] (raised u' chain) w'
      | .outgrown, _, w' => R .outgrown w') : Leaves P fn a.tmps R a.defers u w := by
  rw [hf.defers]
  refine leaves_cons (f := g) (args := cap) hu ?_ h
  show (callFunc g (#[] ++ #[] ++ cap)).run P w = _
  rw [Array.empty_append, Array.empty_append]
  exact run_callFunc hc cap w
end
end Go.Proofs.Ytjelaoblpchmmaa
