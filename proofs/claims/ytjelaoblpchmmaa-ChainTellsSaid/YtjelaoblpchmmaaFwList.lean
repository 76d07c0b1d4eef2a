/-
  The calculus of walks: arrays and slices of numbers whose numbers are not written out; 'append'; strings made of bytes.
-/
import Derived.Test.YtjelaoblpchmmaaFwJoin
import Derived.Maps.AppendAt
import Derived.Laws.IdiomStrings
import Derived.Laws.StructEq
import Derived.ChangeKeysEq
namespace Go.Proofs.Ytjelaoblpchmmaa
set_option linter.unusedVariables false
set_option linter.unusedSimpArgs false
open Go.RowKit

/-! ### Arrays of numbers -/
def arr (k : IntKind) (xs : List Int) : Array Value := (xs.map (Value.int k)).toArray
theorem arr_size {k : IntKind} {xs : List Int} {n : Nat} (h : xs.length = n) : (arr k xs).size = n := by simp [arr, h]
theorem arr_get {k : IntKind} {xs : List Int} {i : Nat} (h : i < xs.length) : (arr k xs)[i]? = some (.int k (xs.getD i 0)) := by
  simp [arr, List.getElem?_eq_getElem h, List.getD]
theorem arr_get1 {k : IntKind} {xs : List Int} {i : Nat} (h : i < xs.length) : (arr k xs)[i * 1]? = some (.int k (xs.getD i 0)) := by rw [Nat.mul_one]; exact arr_get h
theorem arr_get0 {k : IntKind} {xs : List Int} {i : Nat} (h : i < xs.length) : (arr k xs)[0 + i * 1]? = some (.int k (xs.getD i 0)) := by rw [Nat.mul_one, Nat.zero_add]; exact arr_get h
theorem arr_set {k : IntKind} {xs : List Int} {i : Nat} {v : Int} : (arr k xs).setIfInBounds i (.int k v) = arr k (xs.set i v) := by
  apply Array.toList_inj.1
  simp [arr, List.map_set]
theorem arr_set0 {k : IntKind} {xs : List Int} {i : Nat} {v : Int} : (arr k xs).setIfInBounds (0 + i * 1) (.int k v) = arr k (xs.set i v) := by rw [Nat.mul_one, Nat.zero_add]; exact arr_set
theorem arr_one {k : IntKind} {xs : List Int} : (arr k xs).toList.all Value.oneCell' = true := by
  simp [arr, Value.oneCell']
theorem arr_inj {k : IntKind} {xs ys : List Int} (h : arr k xs = arr k ys) : xs = ys := by
  have h' : xs.map (Value.int k) = ys.map (Value.int k) := by simpa [arr] using h
  exact (List.map_inj_right (fun a b e => by cases e; rfl)).1 h'
def InK (k : IntKind) (xs : List Int) : Prop := ∀ x ∈ xs, (Lit.int k x).wf = true
theorem InK.oks {k : IntKind} : ∀ {xs : List Int}, InK k xs → Oks (List.replicate xs.length (.i k)) (arr k xs).toList
  | [], _ => trivial
  | x :: xs, h => by
    have := InK.oks (xs := xs) (fun y hy => h y (List.mem_cons_of_mem _ hy))
    refine ⟨⟨x, rfl, h x (List.mem_cons_self ..)⟩, ?_⟩
    simpa [arr] using this
theorem arr_of : ∀ {n : Nat} {k : IntKind} {cs : List Value}, Oks (List.replicate n (.i k)) cs → ∃ xs : List Int, cs.toArray = arr k xs ∧ xs.length = n ∧ InK k xs
  | 0, k, cs, o => by
    have : cs = [] := by cases cs with
      | nil => rfl
      | cons c cs => exact absurd o (by simp [Oks])
    exact ⟨[], by simp [this, arr], rfl, fun x hx => by cases hx⟩
  | n + 1, k, cs, o => by
    cases cs with
    | nil => exact absurd o (by simp [Oks, List.replicate])
    | cons c cs =>
      obtain ⟨⟨m, rfl, hm⟩, o'⟩ := o
      obtain ⟨xs, h1, h2, h3⟩ := arr_of o'
      refine ⟨m :: xs, ?_, by simp [h2], fun x hx => ?_⟩
      · have : cs = xs.map (Value.int k) := by simpa [arr] using h1
        simp [arr, this]
      · rcases List.mem_cons.1 hx with rfl | hx
        · exact hm
        · exact h3 x hx
theorem InK.getD {k : IntKind} {xs : List Int} (h : InK k xs) {i : Nat} (hi : i < xs.length) : (Lit.int k (xs.getD i 0)).wf = true := by
  simp only [List.getD, List.getElem?_eq_getElem hi, Option.getD_some]
  exact h _ (List.getElem_mem hi)
theorem InK.set {k : IntKind} {xs : List Int} (h : InK k xs) {i : Nat} {v : Int} (hv : (Lit.int k v).wf = true) : InK k (xs.set i v) := fun x hx => by
  rcases List.mem_or_eq_of_mem_set hx with hx | rfl
  · exact h x hx
  · exact hv
theorem InK.append {k : IntKind} {xs ys : List Int} (h : InK k xs) (g : InK k ys) : InK k (xs ++ ys) := fun x hx => (List.mem_append.1 hx).elim (h x) (g x)

/-! ### Slices of numbers -/
/-- A slice of the call's own: nothing, or at the head of the one block of S. -/
def Sl (e : TypeId) (k : IntKind) (S : List Blk) (p : Option Addr) (cap : Nat) (xs : List Int) : Prop :=
  (p = none ∧ cap = 0 ∧ S = [] ∧ xs = []) ∨ ∃ b cs, p = some ⟨b, 0, none⟩ ∧ S = [(b, cs, e)] ∧ xs.length ≤ cap ∧ cap ≤ maxLen ∧ cs.size = cap ∧ cs.toList.take xs.length = xs.map (Value.int k)
/-- A slice's numbers, as they are read. -/
def Rd (w : World) (k : IntKind) (p : Option Addr) (xs : List Int) : Prop := ∀ i, i < xs.length → ∃ a, p = some a ∧ w.cell? (a.add i) = some (.int k (xs.getD i 0))
def slAt (p : Option Addr) (i : Nat) : Option Addr := p.map fun a => a.add i

theorem Sl.nil {e : TypeId} {k : IntKind} : Sl e k [] none 0 [] := .inl ⟨rfl, rfl, rfl, rfl⟩
theorem Sl.rd {e : TypeId} {k : IntKind} {S : List Blk} {p : Option Addr} {cap : Nat} {xs : List Int} (h : Sl e k S p cap xs) {w0 w : World} {hs : List Blk} (hI : Inv w0 hs w) (hS : ∀ x ∈ S, x ∈ hs) : Rd w k p xs := by
  intro i hi
  rcases h with ⟨_, _, _, rfl⟩ | ⟨b, cs, rfl, rfl, h1, h2, h3, h4⟩
  · simp at hi
  · refine ⟨_, rfl, ?_⟩
    have hb := hI.blk _ (hS _ (List.mem_singleton.2 rfl))
    rw [add_none, cell_of_row w b _ cs e _ hb, Nat.zero_add]
    have h5 : (cs.toList.take xs.length)[i]? = (xs.map (Value.int k))[i]? := by rw [h4]
    rw [List.getElem?_take_of_lt hi] at h5
    simp [List.getElem?_eq_getElem hi] at h5 ⊢
    exact h5
theorem Rd.old {w0 w : World} {hs : List Blk} {k : IntKind} {p : Option Addr} {xs : List Int} (h : Rd w0 k p xs) (hI : Inv w0 hs w) (hf : ∀ x ∈ hs, w0.heap.size ≤ x.1) : Rd w k p xs := by
  intro i hi
  obtain ⟨a, rfl, ha⟩ := h i hi
  refine ⟨a, rfl, ?_⟩
  rw [← ha]
  have hlt : (a.add i).block < w0.heap.size := by
    unfold World.cell? at ha
    rcases Nat.lt_or_ge (a.add i).block w0.heap.size with h | h
    · exact h
    · rw [Array.getElem?_eq_none h] at ha; cases ha
  exact World.cell?_of_block (hI.old _ hlt (fun x hx e => by have := hf x hx; omega))

section
variable {P : Program} {ops : Array Oper} {Q : Exit → Act → World → Prop} {K : Act → World → Prop} {e : Env} {n i d : Nat} {a : Act} {w w' w0 : World} {o : Oper} {v u : Value} {hs : List Blk}
  {dst : Option Tmp} {ty : TypeId} {pos : String} {af : Array Edge} {gu : Option (Nat × Bool)} {x y z : Operand} {t s tt : TypeId} {k : IntKind} {m zc : Int}

theorem Inv.tail {A T N : List Blk} (h : Inv w0 (A ++ T ++ N) w) : Inv w0 (A ++ N ++ T) w :=
  ⟨h.os, h.tape, h.output, h.size, fun j hj hn => h.old j hj (fun x hx => hn x (by simp only [List.mem_append] at hx ⊢; rcases hx with (h | h) | h <;> simp [h])), fun x hx => h.blk x (by simp only [List.mem_append] at hx ⊢; rcases hx with (h | h) | h <;> simp [h]),
   ((List.perm_append_comm (l₁ := T) (l₂ := N)).append_left A |> fun p => by
      have hp := h.nodup
      rw [List.append_assoc] at hp ⊢
      exact (p.pairwise_iff (fun hab => fun e => hab e.symm)).1 hp)⟩
theorem Inv.keep {A N T : List Blk} (h : Inv w0 (A ++ N ++ T) w) (hN : ∀ x ∈ N, w0.heap.size ≤ x.1) : Inv w0 (A ++ T) w :=
  h.forget (by rw [List.append_assoc]; exact (List.sublist_append_right N T).append_left A) (fun x hx => by
    simp only [List.mem_append] at hx ⊢
    rcases hx with (hx | hx) | hx
    · exact .inl (.inl hx)
    · exact .inr (hN x hx)
    · exact .inl (.inr hx))
theorem fk_app {A T : List Blk} {n : Nat} (h : ∀ x ∈ A, n ≤ x.1) (g : ∀ x ∈ T, n ≤ x.1) : ∀ x ∈ A ++ T, n ≤ x.1 := fun x hx => (List.mem_append.1 hx).elim (h x) (g x)
theorem fk_le {T : List Blk} {n m : Nat} (h : n ≤ m) (g : ∀ x ∈ T, m ≤ x.1) : ∀ x ∈ T, n ≤ x.1 := fun x hx => Nat.le_trans h (g x hx)

theorem r_indexAddrV {p : Option Addr} {len cap i : Nat} (hA : slcB P t = some (s, 1)) (hx : ev e x = some (.slice p len cap)) (hy : ev e y = some (.int k m)) (hm : m = (i : Int)) (hi : i < len) (hp : ∃ a, p = some a) :
    (execOp (evE e) ⟨dst, .indexAddr t x y, ty, pos, af, gu⟩).run P w = .ok (.value (.pointer (slAt p i))) w := by
  obtain ⟨a, rfl⟩ := hp
  obtain ⟨hu, hs⟩ := slcB_some hA
  show Sem.run P (do pure (Next.value (← Instr.indexAt t (evE e x) (evE e y)))) w = _
  rw [evE_eq hx, evE_eq hy, hm]
  simp only [Instr.indexAt, asIntOf, Sem.run_bind, Sem.run_pure, Result.andThen_ok, run_underlying hu]
  rw [if_pos ⟨by omega, by omega⟩]
  simp only [Sem.run_bind, run_sizeOf hs, Result.andThen_ok, Int.toNat_natCast, Sem.run_pure, Nat.mul_one, slAt, Option.map_some]
theorem r_loadV {p : Option Addr} {i : Nat} {xs : List Int} (ha : aggB P t = some false) (hx : ev e x = some (.pointer (slAt p i))) (hr : Rd w k p xs) (hi : i < xs.length) :
    (execOp (evE e) ⟨dst, .load t x, ty, pos, af, gu⟩).run P w = .ok (.value (.int k (xs.getD i 0))) w := by
  obtain ⟨a, rfl, hc⟩ := hr i hi
  show Sem.run P (do pure (Next.value (← Instr.loadAt t (evE e x)))) w = _
  rw [evE_eq hx]
  simp only [slAt, Option.map_some, Instr.loadAt, Instr.sureAddr, loadVar, Sem.run_bind, Sem.run_pure, Result.andThen_ok, run_isAgg ha]
  rw [if_neg Bool.false_ne_true, run_load, hc]; rfl

/-! ### Bytes and strings -/
def strOf (xs : List Int) : ByteArray := ⟨(xs.map fun n => UInt8.ofNat n.toNat).toArray⟩
theorem byte_back {n : Int} (h : (Lit.int .u8 n).wf = true) : ((UInt8.ofNat n.toNat).toNat : Int) = n := by
  have := bounds_u8 h
  rw [UInt8.toNat_ofNat']
  omega
theorem strOf_eq {xs ys : List Int} (hx : InK .u8 xs) (hy : InK .u8 ys) : ((strOf xs).toList == (strOf ys).toList) = (xs == ys) := by
  rw [ByteArray.toList_eq, ByteArray.toList_eq, Bool.eq_iff_iff, beq_iff_eq, beq_iff_eq]
  simp only [strOf]
  constructor
  · intro h
    have key : ∀ {l : List Int}, InK .u8 l → (l.map fun n => UInt8.ofNat n.toNat).map (fun b => (b.toNat : Int)) = l := by
      intro l hl
      rw [List.map_map]
      conv => rhs; rw [← List.map_id l]
      exact List.map_congr_left fun n hn => byte_back (hl n hn)
    rw [← key hx, ← key hy]
    exact congrArg _ h
  · rintro rfl; rfl
theorem r_convS {p : Option Addr} {cap : Nat} {xs : List Int} (h1 : P.underlying t = some (.slice tt)) (h2 : P.underlying tt = some (.int .u8)) (h3 : P.underlying s = some .string) (hx : ev e x = some (.slice p xs.length cap)) (hr : Rd w .u8 p xs) (hk : InK .u8 xs) :
    (execOp (evE e) ⟨dst, .convert t s x, ty, pos, af, gu⟩).run P w = .ok (.value (.string (strOf xs))) w := by
  show Sem.run P (do pure (Next.value (← convert t s (evE e x)))) w = _
  rw [evE_eq hx]
  have : (convert t s (.slice p xs.length cap)).run P w = .ok (.string (strOf xs)) w := by
    cases p with
    | none =>
      have : xs = [] := by
        cases xs with
        | nil => rfl
        | cons c cs => obtain ⟨_, h, _⟩ := hr 0 (by simp); cases h
      subst this
      rw [run_convert_bytes_string w t s tt none _ cap h1 h2 h3]; rfl
    | some a =>
      have := run_convert_bytes_back (P := P) w t s tt a cap (xs.map fun n => UInt8.ofNat n.toNat) h1 h2 h3 (fun j hj => by
        have hj' : j < xs.length := by simpa using hj
        obtain ⟨b, hb, hc⟩ := hr j hj'
        cases hb
        rw [hc, List.getElem_map, byte_back (hk _ (List.getElem_mem hj'))]
        simp [List.getD, List.getElem?_eq_getElem hj'])
      rw [List.length_map] at this
      exact this
  rw [Sem.run_bind, this]; rfl
theorem r_eqS {xs ys : List Int} (hx : ev e x = some (.string (strOf xs))) (hy : ev e y = some (.string (strOf ys))) (hk : InK .u8 xs) (hl : InK .u8 ys) :
    (execOp (evE e) ⟨dst, .binOp .eql t x y s, ty, pos, af, gu⟩).run P w = .ok (.value (.bool (xs == ys))) w := by
  rw [← strOf_eq hk hl]
  exact r_eq hx hy (fun w => by rfl) (fun w => by rfl)

/-! ### 'append' -/
theorem Sl.owns {b0 : Nat} {et : TypeId} {S A : List Blk} {p : Option Addr} {cap : Nat} {xs : List Int} (h : Sl et k S p cap xs) (hI : Inv w0 (A ++ S) w) (hf : ∀ x ∈ S, b0 ≤ x.1) : w.ownsRow b0 et 1 (.slice p xs.length cap) xs.length (xs.map (Value.int k)) := by
  refine ⟨by simp, ?_⟩
  rcases h with ⟨rfl, rfl, _, rfl⟩ | ⟨b, cs, rfl, rfl, h1, h2, h3, h4⟩
  · exact .inl ⟨rfl, rfl⟩
  · exact .inr ⟨b, cap, cs, rfl, hf _ (List.mem_singleton.2 rfl), hI.blk (b, cs, et) (by simp), h1, h2, by omega, by simpa using h4⟩
theorem op_append1 {et : TypeId} {bytes : Nat} {S A : List Blk} {p : Option Addr} {cap b2 c2 : Nat} {xs : List Int} {cs2 : Array Value} {t2 : TypeId} {v : Int}
    (hf : Fits e n a) (hi : ops[i]? = some ⟨some d, .call ⟨.builtin .append, #[x, y], #[t, t]⟩, ty, pos, af, gu⟩) (hg : gd ops e gu = some true) (hn : Nat.blt d n = true)
    (hA : P.underlying t = some (.slice et)) (hE : (P.info? et).map (fun i => (i.zero, i.size, i.bytes)) = some (some (.int k zc), 1, bytes)) (hx : ev e x = some (.slice p xs.length cap)) (hS : Sl et k S p cap xs) (hy : ev e y = some (.slice (some ⟨b2, 0, none⟩) 1 c2))
    (hI : Inv w0 (A ++ S) w) (hF : ∀ x ∈ S, w0.heap.size ≤ x.1) (h2 : (b2, cs2, t2) ∈ A) (hc2 : cs2[0]? = some (.int k v)) (hm : xs.length + 1 ≤ maxLen) (hb : (xs.length + 1) * bytes ≤ 140737488355328)
    (kk : ∀ a p' cap' S' w', Sl et k S' p' cap' (xs ++ [v]) → (∀ x ∈ S', w0.heap.size ≤ x.1) → Inv w0 (A ++ S') w' → Fits ((d, .slice p' (xs ++ [v]).length cap') :: e) n a → K a w') : wpOp P ops Q i K a w := by
  obtain ⟨ii, hi1, hz, hs1, hb1⟩ := info_parts hE
  have hown := hS.owns hI hF
  have hblk := hI.blk _ (List.mem_append_left S h2)
  obtain ⟨v', w', hrun, hown', hgrow, hnil, hat⟩ := run_append_own_at (P := P) w w0.heap.size t ty et ii (.int k zc) 1 bytes hA hi1 hz hs1 hb1 rfl (by decide) (.slice p xs.length cap) xs.length (xs.map (Value.int k)) hown
    ⟨b2, 0, none⟩ 1 c2 [.int k v] rfl (fun j u hu => by
      have : j = 0 := by
        have := (List.getElem?_eq_some_iff.1 hu).1
        simp at this; exact this
      subst this
      rw [add_none, cell_of_row w b2 _ cs2 t2 _ hblk, Nat.add_zero, hc2]
      simpa using hu) (fun u hu => by simp at hu; subst hu; rfl) hm hb hI.size
  obtain ⟨hlen, hshape⟩ := hown'
  have hfar : ∀ x ∈ A, ∀ g, (Value.slice p xs.length cap).ownBlock = some g → x.1 ≠ g := by
    intro bx hbx g hg
    rcases hS with ⟨rfl, _, _, _⟩ | ⟨b, cs, rfl, rfl, _⟩
    · cases hg
    · have hg' : b = g := Option.some.inj hg
      subst hg'
      exact (List.pairwise_append.1 hI.nodup).2.2 bx hbx _ (List.mem_singleton.2 rfl)
  have hkeep : ∀ x ∈ A, w'.heap[x.1]? = w.heap[x.1]? := fun x hx => hgrow.block _ (hI.lt (List.mem_append_left S hx)) (fun e' => hfar x hx _ e'.symm rfl)
  rcases hshape with ⟨rfl, h0⟩ | ⟨g, cap', cur, rfl, hbg, hgb, hnc, hcm, hcs, htake⟩
  · omega
  · have hInv : Inv w0 (A ++ [(g, cur, et)]) w' := by
      refine ⟨hgrow.os.trans hI.os, hgrow.tape.trans hI.tape, hgrow.output.trans hI.output, Nat.le_trans hI.size hgrow.size, fun j hj hn => ?_, fun x hx => ?_, ?_⟩
      · rw [hgrow.block j (Nat.lt_of_lt_of_le hj hI.size) (fun e' => ?_)]
        · refine hI.old j hj (fun x hx => ?_)
          rcases List.mem_append.1 hx with hx | hx
          · exact hn x (List.mem_append_left _ hx)
          · have := hF x hx; omega
        · rcases hS with ⟨rfl, _, _, _⟩ | ⟨b, cs, rfl, rfl, _⟩
          · cases e'
          · have hg' : j = b := Option.some.inj e'
            have := hF _ (List.mem_singleton.2 rfl)
            simp only at this
            omega
      · rcases List.mem_append.1 hx with hx | hx
        · rw [hkeep x hx]; exact hI.blk x (List.mem_append_left _ hx)
        · simp only [List.mem_singleton] at hx; subst hx; exact hgb
      · rw [List.pairwise_append]
        refine ⟨(List.pairwise_append.1 hI.nodup).1, List.pairwise_singleton _ _, fun x hx y hy => ?_⟩
        simp only [List.mem_singleton] at hy
        subst hy
        rcases hat with hat | hat
        · exact hfar x hx g (by rw [← hat]; rfl)
        · have hg' : g = w.heap.size := Option.some.inj hat
          have := hI.lt (List.mem_append_left S hx)
          show x.1 ≠ g
          omega
    refine op_val (o := ⟨some d, .call ⟨.builtin .append, #[x, y], #[t, t]⟩, ty, pos, af, gu⟩) (v := .slice (some ⟨g, 0, none⟩) (xs ++ [v]).length cap') (w' := w') hf hi hg (by simp [known, Op.operands, Call.operands, hx, hy]) rfl rfl hn ?_ (fun a hf' => kk a _ cap' _ w' (.inr ⟨g, cur, rfl, rfl, by simp; omega, hcm, by omega, ?_⟩) (fun x hx => by simp only [List.mem_singleton] at hx; subst hx; exact hbg) hInv hf')
    · rw [execOp_bi]
      simp only [List.map_toArray, List.map_cons, List.map_nil]
      show Sem.run P (do pure (Next.value (← Builtin.append_ #[t, t] ty #[evE e x, evE e y]))) w = _
      rw [evE_eq hx, evE_eq hy, Sem.run_bind, hrun]
      simp
    · simpa using htake
/-- .. a call of a function that turns nothing, in the world at hand. -/
theorem op_pureW {g : FuncId} {xs : Array Operand} {ats : Array TypeId} {after : Array Edge} {vs : List Value} (hf : Fits e n a) (hi : ops[i]? = some { dst := some d, op := .call { callee := .value (.func g), args := xs, argTypes := ats }, type := ty, pos, after, guard := gu })
    (hg : gd ops e gu = some true) (hx : evs e xs.toList = some vs) (hn : Nat.blt d n = true) (hc : callable P g = true)
    (h : Calls P g vs.toArray w fun e w' => e = .returned v ∧ Inv w [] w') (hI : Inv w0 hs w)
    (kk : ∀ a w', Inv w0 hs w' → Fits ((d, v) :: e) n a → K a w') : wpOp P ops Q i K a w :=
  op_call (R := fun u w' => u = v ∧ Inv w [] w') hf hi hg hx hn hc (h.mono fun _ _ ⟨he, hw⟩ => ⟨v, he, rfl, hw⟩)
    (fun a u w' ⟨hu, hw⟩ hf' => kk a w' (hI.call0 hw) (by rw [← hu]; exact hf'))
end
/-- Behind a call that has made the blocks N. -/
theorem Inv.callN {w0 w w' : World} {hs N : List Blk} (h : Inv w0 hs w) (h' : Inv w N w') (hN : ∀ x ∈ N, w.heap.size ≤ x.1) : Inv w0 (hs ++ N) w' := by
  have := Inv.callS (A := hs) (S := []) (S' := []) (L := []) (N := N) (by simpa using h) h' rfl hN
  simpa using this
theorem Rd.blk {w : World} {b : Nat} {cs : Array Value} {t : TypeId} {fr : Nat × Nat} {k : IntKind} {xs : List Int} (hb : w.heap[b]? = some (.cells cs t fr)) (h : cs.toList.take xs.length = xs.map (Value.int k)) : Rd w k (some ⟨b, 0, none⟩) xs := by
  intro i hi
  refine ⟨_, rfl, ?_⟩
  rw [add_none, cell_of_row w b _ cs t fr hb, Nat.zero_add]
  have h5 : (cs.toList.take xs.length)[i]? = (xs.map (Value.int k))[i]? := by rw [h]
  rw [List.getElem?_take_of_lt hi] at h5
  simp [List.getElem?_eq_getElem hi] at h5 ⊢
  exact h5
end Go.Proofs.Ytjelaoblpchmmaa
