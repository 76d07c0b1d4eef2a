/-
  The calculus of walks: rows of cells of the call's own, what is appended to them from wherever it is read, and cuts from the front.
-/
import Derived.Test.YtjelaoblpchmmaaFwArr
namespace Go.Proofs.Ytjelaoblpchmmaa
set_option linter.unusedVariables false
set_option linter.unusedSimpArgs false
open Go.RowKit

/-- Cells, from an address on. -/
def Rv (w : World) (p : Option Addr) (vs : List Value) : Prop := ∀ i v, vs[i]? = some v → ∃ a, p = some a ∧ w.cell? (a.add i) = some v
theorem Rd.rv {w : World} {k : IntKind} {p : Option Addr} {xs : List Int} (h : Rd w k p xs) : Rv w p (xs.map (Value.int k)) := fun i v hv => by
  have hi : i < xs.length := by have := (List.getElem?_eq_some_iff.1 hv).1; simpa using this
  obtain ⟨a, ha, hc⟩ := h i hi
  refine ⟨a, ha, hc.trans ?_⟩
  simp [List.getElem?_eq_getElem hi] at hv ⊢
  exact hv
theorem Rv.rd {w : World} {k : IntKind} {p : Option Addr} {xs : List Int} (h : Rv w p (xs.map (Value.int k))) : Rd w k p xs := fun i hi =>
  h i _ (by simp [List.getElem?_eq_getElem hi, List.getD])
/-- A row of the call's own: nothing, or at the head of the one block of S; n places of sz cells. -/
def Sc (e : TypeId) (sz : Nat) (S : List Blk) (p : Option Addr) (cap n : Nat) (vs : List Value) : Prop :=
  vs.length = n * sz ∧ ((p = none ∧ cap = 0 ∧ S = [] ∧ n = 0) ∨ ∃ b cs, p = some ⟨b, 0, none⟩ ∧ S = [(b, cs, e)] ∧ n ≤ cap ∧ cap ≤ maxLen ∧ cs.size = cap * sz ∧ cs.toList.take (n * sz) = vs)
theorem Sl.sc {e : TypeId} {k : IntKind} {S : List Blk} {p : Option Addr} {cap : Nat} {xs : List Int} (h : Sl e k S p cap xs) : Sc e 1 S p cap xs.length (xs.map (Value.int k)) := by
  refine ⟨by simp, ?_⟩
  rcases h with ⟨h1, h2, h3, rfl⟩ | ⟨b, cs, h1, h2, h3, h4, h5, h6⟩
  · exact .inl ⟨h1, h2, h3, rfl⟩
  · exact .inr ⟨b, cs, h1, h2, h3, h4, by omega, by rw [Nat.mul_one]; exact h6⟩
theorem Sc.sl {e : TypeId} {k : IntKind} {S : List Blk} {p : Option Addr} {cap : Nat} {xs : List Int} (h : Sc e 1 S p cap xs.length (xs.map (Value.int k))) : Sl e k S p cap xs := by
  rcases h.2 with ⟨h1, h2, h3, h4⟩ | ⟨b, cs, h1, h2, h3, h4, h5, h6⟩
  · exact .inl ⟨h1, h2, h3, List.length_eq_zero_iff.1 h4⟩
  · exact .inr ⟨b, cs, h1, h2, h3, h4, by omega, by rw [Nat.mul_one] at h6; exact h6⟩
/-- A literal of no elements. -/
theorem Sc.lit0 {e : TypeId} {sz b : Nat} : Sc e sz [(b, #[], e)] (some ⟨b, 0, none⟩) 0 0 [] := ⟨by simp, .inr ⟨b, #[], rfl, rfl, Nat.le_refl _, Nat.zero_le _, by simp, by simp⟩⟩
theorem Sl.lit0 {e : TypeId} {k : IntKind} {b : Nat} : Sl e k [(b, #[], e)] (some ⟨b, 0, none⟩) 0 [] := (Sc.lit0 (sz := 1)).sl

section
variable {P : Program} {ops : Array Oper} {Q : Exit → Act → World → Prop} {K : Act → World → Prop} {e : Env} {n i d : Nat} {a : Act} {w w' w0 : World} {o : Oper} {v u : Value} {hs : List Blk}
  {dst : Option Tmp} {ty : TypeId} {pos : String} {af : Array Edge} {gu : Option (Nat × Bool)} {x y z : Operand} {t s tt : TypeId} {k : IntKind} {m zc : Int}
theorem Sc.owns {b0 sz : Nat} {et : TypeId} {S A : List Blk} {p : Option Addr} {cap l : Nat} {vs : List Value} (h : Sc et sz S p cap l vs) (hI : Inv w0 (A ++ S) w) (hf : ∀ x ∈ S, b0 ≤ x.1) : w.ownsRow b0 et sz (.slice p l cap) l vs := by
  refine ⟨h.1, ?_⟩
  rcases h.2 with ⟨rfl, rfl, _, rfl⟩ | ⟨b, cs, rfl, rfl, h1, h2, h3, h4⟩
  · exact .inl ⟨rfl, rfl⟩
  · exact .inr ⟨b, cap, cs, rfl, hf _ (List.mem_singleton.2 rfl), hI.blk (b, cs, et) (by simp), h1, h2, h3, h4⟩
theorem run_append_none {et : TypeId} {ii : TypeInfo} {p : Option Addr} {l cap c : Nat} (hA : P.underlying t = some (.slice et)) (hi : P.info? et = some ii) (hl : l ≤ cap) :
    (Builtin.append_ #[t, t] ty #[.slice p l cap, .slice none 0 c]).run P w = .ok (.slice p l cap) w := by
  cases p <;> simp [Builtin.append_, run_underlying hA, sizeOf, typeInfo, hi, Builtin.lenOf, Builtin.firstCells, hl, storeCells]
/-- 'append(x, y...)'. -/
theorem op_appendC {et : TypeId} {bytes sz c : Nat} {zv : Value} {S A : List Blk} {p q : Option Addr} {cap l m : Nat} {vs us : List Value}
    (hf : Fits e n a) (hi : ops[i]? = some ⟨some d, .call ⟨.builtin .append, #[x, y], #[t, t]⟩, ty, pos, af, gu⟩) (hg : gd ops e gu = some true) (hn : Nat.blt d n = true)
    (hA : P.underlying t = some (.slice et)) (hE : (P.info? et).map (fun i => (i.zero, i.size, i.bytes)) = some (some zv, sz, bytes)) (hz : zv.cells.size = sz) (hsz : 0 < sz)
    (hx : ev e x = some (.slice p l cap)) (hS : Sc et sz S p cap l vs) (hy : ev e y = some (.slice q m c)) (hu : Rv w q us) (hul : us.length = m * sz) (h1 : ∀ u ∈ us, u.oneCell' = true)
    (hI : Inv w0 (A ++ S) w) (hF : ∀ x ∈ S, w0.heap.size ≤ x.1) (hm : l + m ≤ maxLen) (hb : (l + m) * bytes ≤ 140737488355328)
    (kk : ∀ a p' cap' S' w', Sc et sz S' p' cap' (l + m) (vs ++ us) → (∀ x ∈ S', w0.heap.size ≤ x.1) → Inv w0 (A ++ S') w' → Fits ((d, .slice p' (l + m) cap') :: e) n a → K a w') : wpOp P ops Q i K a w := by
  obtain ⟨ii, hi1, hz1, hs1, hb1⟩ := info_parts hE
  have fin : ∀ (v' : Value) (w' : World), (Builtin.append_ #[t, t] ty #[.slice p l cap, .slice q m c]).run P w = .ok v' w' → (∀ a, Fits ((d, v') :: e) n a → K a w') → wpOp P ops Q i K a w := fun v' w' hrun k => by
    refine op_val (o := ⟨some d, .call ⟨.builtin .append, #[x, y], #[t, t]⟩, ty, pos, af, gu⟩) (v := v') (w' := w') hf hi hg (by simp [known, Op.operands, Call.operands, hx, hy]) rfl rfl hn ?_ k
    rw [execOp_bi]
    simp only [List.map_toArray, List.map_cons, List.map_nil]
    show Sem.run P (do pure (Next.value (← Builtin.append_ #[t, t] ty #[evE e x, evE e y]))) w = _
    rw [evE_eq hx, evE_eq hy, Sem.run_bind, hrun]; rfl
  have hlc : l ≤ cap := by
    rcases hS.2 with ⟨_, h2, _, h4⟩ | ⟨_, _, _, _, h5, _⟩
    · omega
    · exact h5
  cases q with
  | none =>
    have hu0 : us = [] := by
      cases us with
      | nil => rfl
      | cons u us => obtain ⟨_, h, _⟩ := hu 0 u rfl; cases h
    subst hu0
    have hm0 : m = 0 := by
      rcases Nat.eq_zero_or_pos m with h | h
      · exact h
      · have := Nat.mul_pos h hsz; simp at hul; omega
    subst hm0
    refine fin _ w (run_append_none hA hi1 hlc) (fun a hf' => kk a p cap S w ?_ hF hI hf')
    rw [List.append_nil]; exact hS
  | some ad =>
    have hown := hS.owns hI hF
    obtain ⟨v', w', hrun, hown', hgrow, hnil, hat⟩ := run_append_own_at (P := P) w w0.heap.size t ty et ii zv sz bytes hA hi1 hz1 hs1 hb1 hz hsz (.slice p l cap) l vs hown
      ad m c us hul (fun j u hj => by
        obtain ⟨a', ha, hc⟩ := hu j u hj
        cases ha; exact hc) h1 hm hb hI.size
    obtain ⟨hlen, hshape⟩ := hown'
    have hfar : ∀ x ∈ A, ∀ g, (Value.slice p l cap).ownBlock = some g → x.1 ≠ g := by
      intro bx hbx g hg
      rcases hS.2 with ⟨rfl, _, _, _⟩ | ⟨b, cs, rfl, rfl, _⟩
      · cases hg
      · have hg' : b = g := Option.some.inj hg
        subst hg'
        exact (List.pairwise_append.1 hI.nodup).2.2 bx hbx _ (List.mem_singleton.2 rfl)
    have hkeep : ∀ x ∈ A, w'.heap[x.1]? = w.heap[x.1]? := fun x hx => hgrow.block _ (hI.lt (List.mem_append_left S hx)) (fun e' => hfar x hx _ e'.symm rfl)
    have hold : ∀ j, j < w0.heap.size → (∀ x ∈ A, x.1 ≠ j) → w'.heap[j]? = w0.heap[j]? := fun j hj hn => by
      rw [hgrow.block j (Nat.lt_of_lt_of_le hj hI.size) (fun e' => ?_)]
      · refine hI.old j hj (fun x hx => ?_)
        rcases List.mem_append.1 hx with hx | hx
        · exact hn x hx
        · have := hF x hx; omega
      · rcases hS.2 with ⟨rfl, _, _, _⟩ | ⟨b, cs, rfl, rfl, _⟩
        · cases e'
        · have hg' : j = b := Option.some.inj e'
          have := hF _ (List.mem_singleton.2 rfl)
          simp only at this
          omega
    rcases hshape with ⟨rfl, h0⟩ | ⟨g, cap', cur, rfl, hbg, hgb, hnc, hcm, hcs, htake⟩
    · have hInv : Inv w0 (A ++ []) w' := by
        rw [List.append_nil]
        exact ⟨hgrow.os.trans hI.os, hgrow.tape.trans hI.tape, hgrow.output.trans hI.output, Nat.le_trans hI.size hgrow.size, hold, fun x hx => by rw [hkeep x hx]; exact hI.blk x (List.mem_append_left _ hx), (List.pairwise_append.1 hI.nodup).1⟩
      refine fin _ w' hrun (fun a hf' => kk a none 0 [] w' ⟨hlen, .inl ⟨rfl, rfl, rfl, h0⟩⟩ (fun _ h => by cases h) hInv (by rw [h0]; exact hf'))
    · have hInv : Inv w0 (A ++ [(g, cur, et)]) w' := by
        refine ⟨hgrow.os.trans hI.os, hgrow.tape.trans hI.tape, hgrow.output.trans hI.output, Nat.le_trans hI.size hgrow.size, fun j hj hn => hold j hj (fun x hx => hn x (List.mem_append_left _ hx)), fun x hx => ?_, ?_⟩
        · rcases List.mem_append.1 hx with hx | hx
          · rw [hkeep x hx]; exact hI.blk x (List.mem_append_left _ hx)
          · simp only [List.mem_singleton] at hx; subst hx; exact hgb
        · rw [List.pairwise_append]
          refine ⟨(List.pairwise_append.1 hI.nodup).1, List.pairwise_singleton _ _, fun x hx y hy => ?_⟩
          simp only [List.mem_singleton] at hy
          subst hy
          rcases hat with hat | hat
          · exact hfar x hx g (by rw [← hat]; rfl)
          · have hg' : g = w.heap.size := Option.some.inj hat
            have := hI.lt (List.mem_append_left S hx)
            show x.1 ≠ g
            omega
      exact fin _ w' hrun (fun a hf' => kk a _ cap' _ w' ⟨hlen, .inr ⟨g, cur, rfl, rfl, hnc, hcm, hcs, htake⟩⟩ (fun x hx => by simp only [List.mem_singleton] at hx; subst hx; exact hbg) hInv hf')
/-- .. of numbers. -/
theorem op_appendN {et : TypeId} {bytes c : Nat} {S A : List Blk} {p q : Option Addr} {cap l m : Nat} {xs ys : List Int} (hl : xs.length = l) (hm' : ys.length = m)
    (hf : Fits e n a) (hi : ops[i]? = some ⟨some d, .call ⟨.builtin .append, #[x, y], #[t, t]⟩, ty, pos, af, gu⟩) (hg : gd ops e gu = some true) (hn : Nat.blt d n = true)
    (hA : P.underlying t = some (.slice et)) (hE : (P.info? et).map (fun i => (i.zero, i.size, i.bytes)) = some (some (.int k zc), 1, bytes))
    (hx : ev e x = some (.slice p l cap)) (hS : Sl et k S p cap xs) (hy : ev e y = some (.slice q m c)) (hu : Rd w k q ys)
    (hI : Inv w0 (A ++ S) w) (hF : ∀ x ∈ S, w0.heap.size ≤ x.1) (hm : l + m ≤ maxLen) (hb : (l + m) * bytes ≤ 140737488355328)
    (kk : ∀ a p' cap' S' w', Sl et k S' p' cap' (xs ++ ys) → (∀ x ∈ S', w0.heap.size ≤ x.1) → Inv w0 (A ++ S') w' → Fits ((d, .slice p' (xs ++ ys).length cap') :: e) n a → K a w') : wpOp P ops Q i K a w := by
  subst hl; subst hm'
  refine op_appendC (sz := 1) (us := ys.map (Value.int k)) hf hi hg hn hA hE rfl (by decide) hx hS.sc hy hu.rv (by simp) (fun u hu => ?_) hI hF hm hb (fun a p' cap' S' w' h1 h2 h3 h4 => kk a p' cap' S' w' ?_ h2 h3 ?_)
  · obtain ⟨_, _, rfl⟩ := List.mem_map.1 hu; rfl
  · have : xs.map (Value.int k) ++ ys.map (Value.int k) = (xs ++ ys).map (Value.int k) := by simp
    rw [this, ← List.length_append] at h1
    exact h1.sl
  · rw [List.length_append]; exact h4

/-! ### 'x[l:]' -/
def loP (p : Option Addr) (cap j sz : Nat) : Option Addr := if cap = j then p else p.map (·.add (j * sz))
theorem r_sliceL {p : Option Addr} {len cap j sz : Nat} (hA : slcB P t = some (s, sz)) (hx : ev e x = some (.slice p len cap)) (hy : ev e y = some (.int k m)) (hm : m = (j : Int)) (hj : j ≤ len) :
    (execOp (evE e) ⟨dst, .slice t x (some y) none none, ty, pos, af, gu⟩).run P w = .ok (.value (.slice (loP p cap j sz) (len - j) (cap - j))) w := by
  subst hm
  obtain ⟨hu, hs⟩ := slcB_some hA
  have he : P.elem t = s := by unfold Program.elem; rw [hu]
  show Sem.run P (do pure (Next.value (← Instr.sliceAt t (evE e x) (some (evE e y)) none none))) w = _
  rw [evE_eq hx, evE_eq hy]
  have h1 : (Instr.sliceAt t (.slice p len cap) (some (.int k (j : Int))) none none).run P w = .ok (.slice (loP p cap j sz) (len - j) (cap - j)) w := by
    rw [run_sliceAt_slice w t _ _ _ _ (by rw [he]; exact hu), run_slice_l w t p len cap (by rw [he]; exact hu) k (j : Int) (by omega) (by omega), he, run_sizeOf hs, Result.andThen_ok]
    simp only [sliced, Int.toNat_natCast, loP]
  rw [Sem.run_bind, h1]; rfl
theorem Rv.low {w : World} {p : Option Addr} {vs : List Value} {cap j sz : Nat} (h : Rv w p vs) (hc : vs.length ≤ cap * sz) : Rv w (loP p cap j sz) (vs.drop (j * sz)) := fun i v hv => by
  rw [List.getElem?_drop] at hv
  obtain ⟨a, rfl, ha⟩ := h _ _ hv
  have hlt := (List.getElem?_eq_some_iff.1 hv).1
  unfold loP
  by_cases e : cap = j
  · subst e; omega
  · rw [if_neg e]
    exact ⟨_, rfl, by rw [add_add]; exact ha⟩
theorem Rd.low {w : World} {p : Option Addr} {k : IntKind} {xs : List Int} {cap j : Nat} (h : Rd w k p xs) (hc : xs.length ≤ cap) : Rd w k (loP p cap j 1) (xs.drop j) := by
  have := h.rv.low (cap := cap) (j := j) (sz := 1) (by simpa using hc)
  rw [Nat.mul_one, ← List.map_drop] at this
  exact this.rd
theorem Sl.le {e : TypeId} {k : IntKind} {S : List Blk} {p : Option Addr} {cap : Nat} {xs : List Int} (h : Sl e k S p cap xs) : xs.length ≤ cap := by
  rcases h with ⟨_, _, _, rfl⟩ | ⟨_, _, _, _, h, _⟩
  · simp
  · exact h
end
end Go.Proofs.Ytjelaoblpchmmaa
