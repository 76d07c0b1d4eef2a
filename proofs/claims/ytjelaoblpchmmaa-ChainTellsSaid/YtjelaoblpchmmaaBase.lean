/-
  Plain data arguments opened to cells: a value whose type is made of whole numbers, bools, structs and arrays of these, read as data, is a row of cells, each of its kind.
-/
import Derived.WalkKit
import Derived.ProofKit
import Derived.OpenShut
import Derived.ShutString
import Derived.ChangeOld
import Derived.SizedLaws
namespace Go.Proofs.Ytjelaoblpchmmaa
set_option linter.unusedVariables false
set_option linter.unusedSimpArgs false
open Go.ChangeShapes Go.WideShapes Go.ChangeAt Go.RowKit

/-- The kind of a plain cell. -/
inductive CK where
  | b
  | i (k : IntKind)

def CK.ok : CK → Value → Prop
  | .b, v => ∃ x : Bool, v = .bool x
  | .i k, v => ∃ n : Int, v = .int k n ∧ (Lit.int k n).wf = true

def Oks : List CK → List Value → Prop
  | [], [] => True
  | k :: ks, v :: vs => k.ok v ∧ Oks ks vs
  | _, _ => False

theorem Oks_nil {cs : List Value} (h : Oks [] cs) : cs = [] := by
  cases cs with
  | nil => rfl
  | cons v vs => exact h.elim

theorem Oks_cons {k : CK} {ks : List CK} {cs : List Value} (h : Oks (k :: ks) cs) : ∃ v vs, cs = v :: vs ∧ k.ok v ∧ Oks ks vs := by
  cases cs with
  | nil => exact h.elim
  | cons v vs => exact ⟨v, vs, rfl, h.1, h.2⟩

theorem Oks_length : ∀ {ks : List CK} {cs : List Value}, Oks ks cs → cs.length = ks.length
  | [], [], _ => rfl
  | _ :: _, _ :: _, h => by simp [Oks_length h.2]
  | [], _ :: _, h => h.elim
  | _ :: _, [], h => h.elim

theorem Oks_append : ∀ {k1 k2 : List CK} {c1 c2 : List Value}, Oks k1 c1 → Oks k2 c2 → Oks (k1 ++ k2) (c1 ++ c2)
  | [], _, [], _, _, h2 => h2
  | _ :: _, _, _ :: _, _, h1, h2 => ⟨h1.1, Oks_append h1.2 h2⟩
  | [], _, _ :: _, _, h1, _ => h1.elim
  | _ :: _, _, [], _, h1, _ => h1.elim

/-- The cells' kinds of a plain type. -/
def shapes (P : Program) : Nat → TypeId → Option (List CK)
  | 0, _ => none
  | n + 1, t =>
    match P.underlying t with
    | some .bool => some [.b]
    | some (.int k) => some [.i k]
    | some (.struct fs) =>
      (fs.toList.foldl (fun acc f => acc.bind fun (ks : List CK) => (shapes P n f.type).bind fun ms =>
        if f.offset = ks.length ∧ ms.length = P.cellsOf f.type then some (ks ++ ms) else none) (some [])).bind fun ks => if ks.length = P.cellsOf t then some ks else none
    | some (.array m e) => (shapes P n e).bind fun ms => if ms.length = P.cellsOf e ∧ m * P.cellsOf e = P.cellsOf t then some (List.replicate m ms).flatten else none
    | _ => none

section
variable {H : Type} {enc : TypeId × Value → H} {P : Program} {w : World} {base : Nat} {spare : Nat → Bool} {held : Bool}

theorem foldl_none (P : Program) (n : Nat) (l : List Field) : (l.foldl (fun acc f => acc.bind fun (ks : List CK) => (shapes P n f.type).bind fun ms =>
    if f.offset = ks.length ∧ ms.length = P.cellsOf f.type then some (ks ++ ms) else none) none) = none := by
  induction l with
  | nil => rfl
  | cons f l ih => simpa using ih

theorem oks_fields {n : Nat} (cs : List Value) (ih : ∀ t ks cs, shapes P n t = some ks → (∃ fuel x, DataW.trod enc P w base spare held fuel t cs = some x) → Oks ks cs) :
    ∀ (l : List Field) (acc ks : List CK),
      (∀ f ∈ l, ∃ fuel x, DataW.trod enc P w base spare held fuel f.type ((cs.drop f.offset).take (P.cellsOf f.type)) = some x) →
      Oks acc (cs.take acc.length) →
      (l.foldl (fun acc f => acc.bind fun (ks : List CK) => (shapes P n f.type).bind fun ms =>
        if f.offset = ks.length ∧ ms.length = P.cellsOf f.type then some (ks ++ ms) else none) (some acc)) = some ks →
      Oks ks (cs.take ks.length) := by
  intro l
  induction l with
  | nil =>
    intro acc ks _ h0 h
    simp only [List.foldl_nil, Option.some.injEq] at h
    exact h ▸ h0
  | cons f l ihl =>
    intro acc ks hf h0 h
    rw [List.foldl_cons, Option.bind_some] at h
    cases hs : shapes P n f.type with
    | none => rw [hs, Option.bind_none, foldl_none] at h; exact absurd h (by simp)
    | some ms =>
      rw [hs, Option.bind_some] at h
      by_cases hc : f.offset = acc.length ∧ ms.length = P.cellsOf f.type
      · rw [if_pos hc] at h
        refine ihl _ ks (fun g hg => hf g (List.mem_cons_of_mem _ hg)) ?_ h
        have h1 := ih _ _ _ hs (hf f (List.mem_cons_self ..))
        rw [hc.1, ← hc.2] at h1
        rw [List.length_append, List.take_add]
        exact Oks_append h0 h1
      · rw [if_neg hc, foldl_none] at h
        exact absurd h (by simp)

theorem oks_array (ms : List CK) (s : Nat) (hs : ms.length = s) : ∀ (m : Nat) (cs : List Value), cs.length = m * s →
    (∀ i, i < m → Oks ms ((cs.drop (i * s)).take s)) → Oks (List.replicate m ms).flatten cs := by
  intro m
  induction m with
  | zero =>
    intro cs hl _
    have : cs = [] := List.length_eq_zero_iff.1 (by omega)
    subst this
    trivial
  | succ m ih =>
    intro cs hl h
    have h0 := h 0 (by omega)
    rw [Nat.zero_mul, List.drop_zero] at h0
    have h1 := ih (cs.drop s) (by rw [List.length_drop, hl, Nat.succ_mul]; omega) (fun i hi => by
      have := h (i + 1) (by omega)
      rw [List.drop_drop]
      rwa [Nat.succ_mul, Nat.add_comm] at this)
    rw [List.replicate_succ, List.flatten_cons]
    have := Oks_append h0 h1
    rwa [List.take_append_drop] at this

theorem oks_of_trod : ∀ (n : Nat) (t : TypeId) (ks : List CK) (cs : List Value), shapes P n t = some ks →
    (∃ fuel x, DataW.trod enc P w base spare held fuel t cs = some x) → Oks ks cs := by
  intro n
  induction n with
  | zero => intro t ks cs h _; simp [shapes] at h
  | succ n ih =>
    intro t ks cs h hx
    obtain ⟨fuel, x, hx⟩ := hx
    unfold shapes at h
    cases hu : P.underlying t with
    | none => simp [hu] at h
    | some d =>
      rw [hu] at h
      cases d with
      | bool =>
        simp only [Option.some.injEq] at h
        subst h
        obtain ⟨b, rfl, _⟩ := DataW.trod_bool hu hx
        exact ⟨⟨b, rfl⟩, trivial⟩
      | int k =>
        simp only [Option.some.injEq] at h
        subst h
        obtain ⟨m, rfl, _, hw⟩ := DataW.trod_int hu hx
        exact ⟨⟨m, rfl, hw⟩, trivial⟩
      | struct fs =>
        simp only [Option.bind_eq_some_iff] at h
        obtain ⟨ks', h, hk⟩ := h
        split at hk
        · rename_i hlen
          simp only [Option.some.injEq] at hk
          subst hk
          obtain ⟨xs, m, _, _, hl, hxl, hf⟩ := DataW.trod_struct hu hx
          have := oks_fields (w := w) (base := base) (spare := spare) (held := held) (enc := enc) cs ih fs.toList [] ks' (fun f hf' => by
            obtain ⟨i, hi, rfl⟩ := List.mem_iff_getElem.1 hf'
            have hi' : i < fs.size := by simpa using hi
            have := hf i fs[i] (by simp [hi'])
            refine ⟨m, xs[i]'(by omega), ?_⟩
            rw [List.getElem?_eq_getElem (by omega)] at this
            simpa using this) (by simp [Oks]) h
          rwa [hlen, ← hl, List.take_length] at this
        · exact absurd hk (by simp)
      | array m e =>
        simp only [Option.bind_eq_some_iff] at h
        obtain ⟨ms, h, hk⟩ := h
        split at hk
        · rename_i hlen
          simp only [Option.some.injEq] at hk
          subst hk
          obtain ⟨xs, m', _, _, hl, hxl, hf⟩ := DataW.trod_array hu hx
          refine oks_array ms (P.cellsOf e) hlen.1 m cs (by rw [hl, hlen.2]) (fun i hi => ih _ _ _ h ⟨m', xs[i]'(by omega), ?_⟩)
          rw [hf i hi, List.getElem?_eq_getElem (by omega)]
        · exact absurd hk (by simp)
      | _ => simp at h

/-- A plain aggregate by value: its cells. -/
theorem open_flat {r : Reach} {b0 : Nat} {t : TypeId} {v : Value} {d : DataW H} {p : List MemPlace} (n : Nat) {ks : List CK} (hk : shapes P n t = some ks)
    (ht : (∃ fs, P.underlying t = some (.struct fs)) ∨ ∃ m e, P.underlying t = some (.array m e))
    (hv : Value.okWide P w r b0 t v) (h : DataW.Trod enc P w base spare held t v d p) : ∃ cs, v = .agg cs.toArray ∧ Oks ks cs := by
  have : ∃ cs, v = .agg cs := by
    unfold Value.okWide at hv
    rcases ht with ⟨fs, ht⟩ | ⟨m, e, ht⟩ <;> rw [ht] at hv <;> exact ⟨_, hv.choose_spec.1⟩
  obtain ⟨cs, rfl⟩ := this
  obtain ⟨fuel, hf⟩ := h
  exact ⟨cs.toList, by simp, oks_of_trod n t ks _ hk ⟨fuel, _, hf⟩⟩

/-- A slice of plain elements: nil, or rows of cells in memory. -/
theorem open_rows {t e : TypeId} {a : Option Addr} {len cap : Nat} {d : DataW H} {p : List MemPlace} (n : Nat) {ks : List CK} (ht : P.underlying t = some (.slice e)) (hk : shapes P n e = some ks) (hs : ks.length = P.cellsOf e)
    (h : DataW.Trod enc P w base spare held t (.slice a len cap) d p) :
    (a = none ∧ len = 0 ∧ cap = 0) ∨ ∃ x, a = some x ∧ len ≤ cap ∧ cap ≤ maxLen ∧ ∃ rows : List (List Value), rows.length = len ∧ (∀ row ∈ rows, Oks ks row) ∧
      ∀ (i : Nat) (row : List Value), rows[i]? = some row → ∀ (j : Nat) (v : Value), row[j]? = some v → w.cell? (x.add (i * ks.length + j)) = some v := by
  obtain ⟨fuel, hf⟩ := h
  rcases DataW.trod_slice ht hf with ⟨hcs, _⟩ | ⟨x, l, c, elems, rest, m, _, hcs, _, _, hl, hc, he, hi, _, _⟩
  · simp [Value.cells] at hcs
    exact .inl hcs
  · simp [Value.cells] at hcs
    obtain ⟨rfl, rfl, rfl⟩ := hcs
    refine .inr ⟨x, rfl, hl, hc, ?_⟩
    have key : ∀ i, i < len → ∃ cs, w.cells? base (x.add (i * P.cellsOf e)) (P.cellsOf e) = some cs ∧ Oks ks cs := by
      intro i hil
      have h1 := hi i hil
      rw [List.getElem?_eq_getElem (by omega)] at h1
      obtain ⟨cs, h2, h3⟩ := Option.bind_eq_some_iff.1 h1
      exact ⟨cs, h2, oks_of_trod n e ks _ hk ⟨m, _, h3⟩⟩
    have : ∀ k, k ≤ len → ∃ rows : List (List Value), rows.length = k ∧ (∀ row ∈ rows, Oks ks row) ∧
        ∀ (i : Nat) (row : List Value), rows[i]? = some row → ∀ (j : Nat) (v : Value), row[j]? = some v → w.cell? (x.add (i * ks.length + j)) = some v := by
      intro k
      induction k with
      | zero => exact fun _ => ⟨[], rfl, by simp, by simp⟩
      | succ k ih =>
        intro hk'
        obtain ⟨rows, h1, h2, h3⟩ := ih (by omega)
        obtain ⟨cs, h4, h5⟩ := key k (by omega)
        refine ⟨rows ++ [cs], by simp [h1], fun row hrow => ?_, fun i row hrow j v hv => ?_⟩
        · rcases List.mem_append.1 hrow with hrow | hrow
          · exact h2 _ hrow
          · simp only [List.mem_singleton] at hrow
            exact hrow ▸ h5
        · rw [List.getElem?_append] at hrow
          split at hrow
          · exact h3 i row hrow j v hv
          · rename_i hge
            have hi0 : i = k := by
              rcases Nat.lt_or_ge k i with hlt | hle
              · rw [List.getElem?_eq_none (by simp; omega)] at hrow
                exact absurd hrow (by simp)
              · omega
            subst hi0
            rw [h1, Nat.sub_self] at hrow
            simp only [List.getElem?_cons_zero, Option.some.injEq] at hrow
            subst hrow
            obtain ⟨_, hcl, hat⟩ := World.cells?_some h4
            have hj : j < cs.length := (List.getElem?_eq_some_iff.1 hv).1
            have := hat j (by omega)
            rw [hv] at this
            rw [hs, ← this]
            congr 1
            simp only [Addr.add]
            split <;> split <;> split <;> simp_all <;> omega
    exact this len (Nat.le_refl _)
end
end Go.Proofs.Ytjelaoblpchmmaa
