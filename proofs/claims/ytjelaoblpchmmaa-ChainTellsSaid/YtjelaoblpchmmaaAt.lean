/-
  Rows of pairs.
-/
import Derived.Test.YtjelaoblpchmmaaTab
import Derived.Laws.MakeOwn
namespace Go.Proofs.Ytjelaoblpchmmaa
set_option linter.unusedVariables false
set_option linter.unusedSimpArgs false
set_option maxRecDepth 100000
open Go.RowKit
theorem wrap_i64 {x : Int} (h1 : -9223372036854775808 ≤ x) (h2 : x ≤ 9223372036854775807) : IntKind.wrap .i64 x = x := IntWalk.i64_in x ⟨h1, h2⟩

theorem wrap_u8 {x : Int} (h1 : 0 ≤ x) (h2 : x ≤ 255) : IntKind.wrap .u8 x = x := by rw [IntKind.wrap_u8]; omega
theorem made2 (c : Int) (m : Nat) : madeCells (Value.agg #[.int .i64 c, .int .i64 c]).cells (m * 2) = arr .i64 (List.replicate (2 * m) c) := by
  unfold madeCells arr
  apply Array.ext
  · simp; omega
  · intro j h1 h2
    have h3 : j % 2 = 0 ∨ j % 2 = 1 := by omega
    simp only [Value.cells, Array.getElem_map, Array.getElem_range, List.getElem_toArray, List.getElem_map, List.getElem_replicate]
    show #[Value.int .i64 c, Value.int .i64 c][j % 2]! = _
    rcases h3 with h | h <;> rw [h] <;> rfl
/-- 'make' of pairs. -/
theorem op_make2 {P : Program} {ops : Array Oper} {Q : Exit → Act → World → Prop} {K : Act → World → Prop} {e : Env} {n i d : Nat} {a : Act} {w w0 : World} {hs : List Blk} {t et ty : TypeId} {pos : String} {af : Array Edge} {gu : Option (Nat × Bool)} {bytes m : Nat} {kl kc : IntKind} {l c : Operand}
    (hf : Fits e n a) (hi : ops[i]? = some ⟨some d, .makeSlice t l c, ty, pos, af, gu⟩) (hg : gd ops e gu = some true) (hn : Nat.blt d n = true)
    (hA : P.underlying t = some (.slice et)) (hE : (P.info? et).map (fun i => (i.zero, i.size, i.bytes)) = some (some (.agg #[.int .i64 0, .int .i64 0]), 2, bytes)) (hl : ev e l = some (.int kl (m : Int))) (hc : ev e c = some (.int kc (m : Int)))
    (hb : bytes * m ≤ 281474976710656) (h63 : m ≤ 9223372036854775807) (hI : Inv w0 hs w)
    (kk : ∀ a b w', w0.heap.size ≤ b → Inv w0 (hs ++ [(b, arr .i64 (List.replicate (2 * m) 0), et)]) w' → Fits ((d, .slice (some ⟨b, 0, none⟩) m m) :: e) n a → K a w') : wpOp P ops Q i K a w := by
  refine op_val (o := ⟨some d, .makeSlice t l c, ty, pos, af, gu⟩) (v := .slice (some ⟨w.heap.size, 0, none⟩) m m) (w' := w.alloc (.cells (arr .i64 (List.replicate (2 * m) 0)) et)) hf hi hg (by simp [known, Op.operands, hl, hc]) rfl rfl hn ?_ (fun a hf' => kk a _ _ hI.size (hI.alloc _ et) hf')
  show Sem.run P (do pure (Next.value (← Instr.makeSlice t (evE e l) (evE e c)))) w = _
  obtain ⟨i', hi', hzz⟩ := Option.map_eq_some_iff.1 hE
  simp only [Prod.mk.injEq] at hzz
  obtain ⟨hz, hs', hb'⟩ := hzz
  have hbb : (i'.bytes : Int) * (m : Int) ≤ 281474976710656 := by
    have h : ((i'.bytes * m : Nat) : Int) ≤ 281474976710656 := by rw [hb']; omega
    rwa [Int.natCast_mul] at h
  have hr := run_make (P := P) w t et i' _ hA hi' hz kl kc m m (by omega) (Int.le_refl _) hbb (by omega)
  simp only [Int.toNat_natCast, hs'] at hr
  rw [evE_eq hl, evE_eq hc, Sem.run_bind, hr, Result.andThen_ok, made2]; rfl
/-- Four places, all different. -/
structure Nd (a b c d : Nat) : Prop where
  ab : a ≠ b
  ac : a ≠ c
  ad : a ≠ d
  bc : b ≠ c
  bd : b ≠ d
  cd : c ≠ d
theorem Nd.pw {a b c d : Nat} (h : Nd a b c d) {u1 u2 u3 u4 : Array Value} {t1 t2 t3 t4 : TypeId} : ([(a, u1, t1), (b, u2, t2), (c, u3, t3), (d, u4, t4)] : List Blk).Pairwise fun x y => x.1 ≠ y.1 := by
  simp [h.ab, h.ac, h.ad, h.bc, h.bd, h.cd]
theorem Inv.nd {w0 w : World} {hs : List Blk} (h : Inv w0 hs w) (i : Nat) {a b c d : Nat} {u1 u2 u3 u4 : Array Value} {t1 t2 t3 t4 : TypeId} (h1 : hs[i]? = some (a, u1, t1)) (h2 : hs[i + 1]? = some (b, u2, t2)) (h3 : hs[i + 2]? = some (c, u3, t3)) (h4 : hs[i + 3]? = some (d, u4, t4)) : Nd a b c d :=
  ⟨h.ne h1 h2 (by omega), h.ne h1 h3 (by omega), h.ne h1 h4 (by omega), h.ne h2 h3 (by omega), h.ne h2 h4 (by omega), h.ne h3 h4 (by omega)⟩
theorem spl2 {xs : List Int} {o : Nat} {a b : Int} : spl (arr .i64 xs) o #[Value.int .i64 a, Value.int .i64 b].toList = arr .i64 ((xs.set o a).set (o + 1) b) := by
  simp only [spl, arr_set]
theorem below_of {P : Program} {g : FuncId} {vs : Array Value} {w : World} {v : Value} (h : Calls P g vs w fun e w' => e = .returned v ∧ Inv w [] w') : Calls P g vs w fun e w' => e = .returned v ∧ Below w.heap.size w w' := h.mono fun _ _ ⟨he, hI⟩ => ⟨he, hI.below⟩
theorem fk4 {a b c d n : Nat} {u1 u2 u3 u4 : Array Value} {t1 t2 t3 t4 : TypeId} (h1 : n ≤ a) (h2 : n ≤ b) (h3 : n ≤ c) (h4 : n ≤ d) : ∀ x ∈ ([(a, u1, t1), (b, u2, t2), (c, u3, t3), (d, u4, t4)] : List Blk), n ≤ x.1 := fun x hx => by
  simp only [List.mem_cons, List.mem_nil_iff, or_false] at hx
  rcases hx with rfl | rfl | rfl | rfl <;> assumption
/-- A call's row: its kind, and two numbers. -/
def opKinds : List CK := [.i .u8, .i .i64, .i .i64]
theorem op_row {rows : List (List Value)} (ho : ∀ row ∈ rows, Oks opKinds row) {i : Nat} (h : i < rows.length) : ∃ kd ii nn : Int, rows[i]? = some [.int .u8 kd, .int .i64 ii, .int .i64 nn] ∧ (Lit.int .i64 ii).wf = true ∧ (Lit.int .i64 nn).wf = true := by
  obtain ⟨v0, l0, e0, ⟨kd, rfl, _⟩, q0⟩ := Oks_cons (ho rows[i] (List.getElem_mem h))
  obtain ⟨v1, l1, rfl, ⟨ii, rfl, w1⟩, q1⟩ := Oks_cons q0
  obtain ⟨v2, l2, rfl, ⟨nn, rfl, w2⟩, q2⟩ := Oks_cons q1
  obtain rfl := Oks_nil q2
  exact ⟨kd, ii, nn, by rw [List.getElem?_eq_getElem h, e0], w1, w2⟩
theorem Inv.callST {w0 w w' : World} {A S S' L N T : List Blk} (h : Inv w0 (A ++ S ++ L ++ T) w) (h' : Inv w (S' ++ N) w') (hk : S'.map (·.1) = S.map (·.1)) (hN : ∀ x ∈ N, w.heap.size ≤ x.1) : Inv w0 (A ++ S' ++ L ++ N ++ T) w' := by
  refine (Inv.callS (A := A) (S := S) (S' := S') (L := L ++ T) (N := N) (by simpa [List.append_assoc] using h) h' hk hN).perm ?_
  simp only [List.append_assoc]
  exact ((List.perm_append_comm.append_left L).append_left S').append_left A

end Go.Proofs.Ytjelaoblpchmmaa
