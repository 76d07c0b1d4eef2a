/-
  A small calculus of walks: frames as lists of known slots, memory as a list of known blocks; one rule for each kind of operation, for plain regions and for regions that draw their order.
-/
import Derived.Test.YtjelaoblpchmmaaBase
import Derived.Deep.RegionHeld3
namespace Go.Proofs.Ytjelaoblpchmmaa
set_option linter.unusedVariables false
set_option linter.unusedSimpArgs false
open Go.RowKit

/-! ### Frames -/
abbrev Env := List (Nat × Value)
def Env.get : Env → Nat → Option Value
  | [], _ => none
  | (i, v) :: e, t => match Nat.beq i t with
    | true => some v
    | false => Env.get e t

structure Fits (e : Env) (n : Nat) (a : Act) : Prop where
  defers : a.defers = []
  size : a.tmps.size = n
  get : ∀ t v, e.get t = some v → a.tmps[t]? = some v

theorem Env.get_cons (d : Nat) (u : Value) (e : Env) (t : Nat) : Env.get ((d, u) :: e) t = if d = t then some u else Env.get e t := by
  show (match Nat.beq d t with | true => some u | false => Env.get e t) = _
  by_cases h : d = t
  · subst h; rw [if_pos rfl, Nat.beq_refl]
  · rw [if_neg h]
    cases hb : Nat.beq d t with
    | true => exact absurd (Nat.eq_of_beq_eq_true hb) h
    | false => rfl

theorem Fits.put {e : Env} {n d : Nat} {a : Act} (h : Fits e n a) (hd : Nat.blt d n = true) (v : Value) : Fits ((d, v) :: e) n (a.put (some d) v) := by
  refine ⟨h.defers, by simp [Act.put, h.size], fun t u hu => ?_⟩
  have hlt : d < a.tmps.size := by rw [h.size]; simpa [Nat.blt_eq] using hd
  show (a.tmps.setIfInBounds d v)[t]? = some u
  rw [Env.get_cons] at hu
  by_cases e' : d = t
  · rw [if_pos e'] at hu
    subst e'
    rw [Array.getElem?_setIfInBounds_self_of_lt hlt, hu]
  · rw [if_neg e'] at hu
    rw [Array.getElem?_setIfInBounds_ne e']
    exact h.get t u hu

/-- What is known of a slot's value is told anew. -/
theorem Fits.know {e : Env} {n : Nat} {a : Act} (h : Fits e n a) (d : Nat) {v u : Value} (hd : e.get d = some v) (hv : v = u) : Fits ((d, u) :: e) n a := by
  refine ⟨h.defers, h.size, fun t x hx => ?_⟩
  rw [Env.get_cons] at hx
  by_cases e' : d = t
  · rw [if_pos e'] at hx
    subst e'
    rw [← hx, ← hv]
    exact h.get _ _ hd
  · rw [if_neg e'] at hx
    exact h.get t x hx
theorem Fits.nil {e : Env} {n : Nat} {a : Act} (h : Fits e n a) : Fits [] n a := ⟨h.defers, h.size, fun t v hv => by cases hv⟩
theorem Fits.cons {e e' : Env} {n : Nat} {a : Act} (h : Fits e n a) (d : Nat) {v : Value} (hd : e.get d = some v) (h' : Fits e' n a) : Fits ((d, v) :: e') n a := by
  refine ⟨h.defers, h.size, fun t x hx => ?_⟩
  rw [Env.get_cons] at hx
  by_cases e'' : d = t
  · rw [if_pos e''] at hx
    subst e''
    rw [← hx]
    exact h.get _ _ hd
  · rw [if_neg e''] at hx
    exact h'.get t x hx

def ev (e : Env) : Operand → Option Value
  | .tmp t => e.get t
  | .const v => some v
  | .global g => some (.pointer (some ⟨g, 0, none⟩))
  | .func f => some (.func (.func f) #[] #[])

theorem Fits.eval {e : Env} {n : Nat} {a : Act} (h : Fits e n a) {x : Operand} {v : Value} (hx : ev e x = some v) : a.eval x = v := by
  cases x with
  | tmp t => simp [Act.eval, Array.getD_eq_getD_getElem?, h.get t v hx]
  | const u => exact Option.some.inj hx
  | global g => exact Option.some.inj hx
  | func f => exact Option.some.inj hx

def evs (e : Env) : List Operand → Option (List Value)
  | [] => some []
  | x :: xs => match ev e x, evs e xs with
    | some v, some vs => some (v :: vs)
    | _, _ => none

theorem Fits.evals {e : Env} {n : Nat} {a : Act} (h : Fits e n a) : ∀ {xs : List Operand} {vs : List Value}, evs e xs = some vs → xs.map a.eval = vs
  | [], vs, hx => by simpa [evs] using hx
  | x :: xs, vs, hx => by
    unfold evs at hx
    split at hx
    · rename_i v us h1 h2
      simp only [Option.some.injEq] at hx
      subst hx
      rw [List.map_cons, h.eval h1, h.evals h2]
    · cases hx

def enterEnv : List Value → Nat → Env
  | [], _ => []
  | v :: vs, i => (i, v) :: enterEnv vs (i + 1)

theorem enterEnv_get : ∀ (vs : List Value) (i t : Nat) (v : Value), (enterEnv vs i).get t = some v → ∃ j, t = i + j ∧ vs[j]? = some v
  | [], _, _, _, h => by cases h
  | u :: vs, i, t, v, h => by
    unfold enterEnv at h
    rw [Env.get_cons] at h
    by_cases e : i = t
    · rw [if_pos e] at h
      exact ⟨0, by omega, by simpa using h⟩
    · rw [if_neg e] at h
      obtain ⟨j, h1, h2⟩ := enterEnv_get vs (i + 1) t v h
      exact ⟨j + 1, by omega, by simpa using h2⟩

theorem enter {P : Program} {f : FuncId} {fn : Func} {c : Code} {n : Nat} {args : List Value} {w : World} {R : Ending → World → Prop}
    (hf : P.funcs[f]? = some fn) (hb : fn.body = some c) (hn : fn.ntmps = n) (hl : Nat.ble args.length n = true)
    (h : ∀ a, Fits (enterEnv args 0) n a → c.wp P (bodyPost P fn R) a w) : Calls P f args.toArray w R := by
  have hl' : args.length ≤ n := Nat.le_of_ble_eq_true hl
  refine calls_of_wp hf hb (h _ ⟨rfl, by simp [hn]; omega, fun t v ht => ?_⟩)
  obtain ⟨j, h1, h2⟩ := enterEnv_get args 0 t v ht
  have hj : t = j := by omega
  subst hj
  have hlt : t < args.length := (List.getElem?_eq_some_iff.1 h2).1
  show (args.toArray ++ Array.replicate (fn.ntmps - args.toArray.size) undef)[t]? = some v
  rw [Array.getElem?_append_left (by simpa using hlt)]
  simpa using h2

/-! ### Memory -/
abbrev Blk := Nat × Array Value × TypeId

def Has (hs : List Blk) (w : World) : Prop := ∀ (i : Nat) (x : Blk), hs[i]? = some x → w.heap[x.1]? = some (.cells x.2.1 x.2.2 (0, 0))

structure Inv (w0 : World) (hs : List Blk) (w : World) : Prop where
  os : w.os = w0.os
  tape : w.tape = w0.tape
  output : w.output = w0.output
  size : w0.heap.size ≤ w.heap.size
  old : ∀ k, k < w0.heap.size → (∀ x ∈ hs, x.1 ≠ k) → w.heap[k]? = w0.heap[k]?
  blk : ∀ x ∈ hs, w.heap[x.1]? = some (.cells x.2.1 x.2.2 (0, 0))
  nodup : hs.Pairwise (fun x y => x.1 ≠ y.1)

theorem Inv.start (w : World) : Inv w [] w := ⟨rfl, rfl, rfl, Nat.le_refl _, fun _ _ _ => rfl, fun _ h => (by cases h), List.Pairwise.nil⟩
theorem Inv.startS {w : World} {hs : List Blk} (h : Has hs w) (hn : hs.Pairwise (fun x y => x.1 ≠ y.1)) : Inv w hs w :=
  ⟨rfl, rfl, rfl, Nat.le_refl _, fun _ _ _ => rfl, fun x hx => (by obtain ⟨i, hi, rfl⟩ := List.mem_iff_getElem.1 hx; exact h i _ (List.getElem?_eq_getElem hi)), hn⟩
theorem Inv.at {w0 w : World} {hs : List Blk} (h : Inv w0 hs w) (i : Nat) {b : Nat} {cs : Array Value} {t : TypeId} (hi : hs[i]? = some (b, cs, t)) : w.heap[b]? = some (.cells cs t (0, 0)) :=
  h.blk _ (List.mem_of_getElem? hi)
theorem Has.at {w : World} {hs : List Blk} (h : Has hs w) (i : Nat) {b : Nat} {cs : Array Value} {t : TypeId} (hi : hs[i]? = some (b, cs, t)) : w.heap[b]? = some (.cells cs t (0, 0)) := h i _ hi
theorem Has.nil {w : World} : Has [] w := fun i x h => by cases h
theorem Has.cons {w : World} {hs : List Blk} {b : Nat} {cs : Array Value} {t : TypeId} (h : w.heap[b]? = some (.cells cs t (0, 0))) (hh : Has hs w) : Has ((b, cs, t) :: hs) w := fun i x hx => by
  cases i with
  | zero => simp only [List.getElem?_cons_zero, Option.some.injEq] at hx; subst hx; exact h
  | succ i => exact hh i x (by simpa using hx)
theorem Inv.has {w0 w : World} {hs : List Blk} (h : Inv w0 hs w) : Has hs w := fun _ _ hx => h.blk _ (List.mem_of_getElem? hx)
theorem Inv.lt {w0 w : World} {hs : List Blk} (h : Inv w0 hs w) {x : Blk} (hx : x ∈ hs) : x.1 < w.heap.size := lt_of_block (h.blk x hx)
theorem Inv.below {w0 w : World} (h : Inv w0 [] w) : Below w0.heap.size w0 w := ⟨h.os, h.tape, h.output, h.size, fun k hk => h.old k hk (fun _ hx => by cases hx)⟩
theorem Inv.of_below {w0 w : World} (h : Below w0.heap.size w0 w) : Inv w0 [] w := ⟨h.os, h.tape, h.output, h.size, fun k hk _ => h.block k hk, fun _ hx => (by cases hx), List.Pairwise.nil⟩
theorem Inv.drew {w0 w : World} {hs : List Blk} (h : Inv w0 hs w) : Inv w0 hs w.drew := ⟨h.os, h.tape, h.output, h.size, h.old, h.blk, h.nodup⟩
theorem Has.drew {w : World} {hs : List Blk} (h : Has hs w) : Has hs w.drew := h

/-- Blocks of the call's own may be forgotten. -/
theorem Inv.forget {w0 w : World} {hs hs' : List Blk} (h : Inv w0 hs w) (hsub : List.Sublist hs' hs) (hf : ∀ x ∈ hs, x ∈ hs' ∨ w0.heap.size ≤ x.1) : Inv w0 hs' w :=
  ⟨h.os, h.tape, h.output, h.size, fun k hk hn => h.old k hk (fun x hx => by
    rcases hf x hx with h1 | h1
    · exact hn x h1
    · omega), fun x hx => h.blk x (hsub.subset hx), h.nodup.sublist hsub⟩
theorem Inv.done {w0 w : World} {hs : List Blk} (h : Inv w0 hs w) (hf : ∀ x ∈ hs, w0.heap.size ≤ x.1) : Inv w0 [] w := h.forget (List.nil_sublist _) (fun x hx => .inr (hf x hx))

theorem Inv.alloc {w0 w : World} {hs : List Blk} (h : Inv w0 hs w) (cs : Array Value) (t : TypeId) : Inv w0 (hs ++ [(w.heap.size, cs, t)]) (w.alloc (.cells cs t)) := by
  refine ⟨h.os, h.tape, h.output, by simp; have := h.size; omega, fun k hk hn => ?_, fun x hx => ?_, ?_⟩
  · rw [Below.heap_alloc _ _ _ (by have := h.size; omega)]
    exact h.old k hk (fun x hx => hn x (List.mem_append_left _ hx))
  · rcases List.mem_append.1 hx with hx | hx
    · rw [Below.heap_alloc _ _ _ (h.lt hx)]
      exact h.blk x hx
    · simp only [List.mem_singleton] at hx
      subst hx
      exact heap_alloc_new w _
  · rw [List.pairwise_append]
    refine ⟨h.nodup, List.pairwise_singleton _ _, fun x hx y hy => ?_⟩
    simp only [List.mem_singleton] at hy
    subst hy
    have := h.lt hx
    show x.1 ≠ w.heap.size
    omega

theorem set_keys : ∀ (hs : List Blk) (i : Nat) (b : Nat) (cs cs' : Array Value) (t : TypeId), hs[i]? = some (b, cs, t) → (hs.set i (b, cs', t)).map (·.1) = hs.map (·.1)
  | [], _, _, _, _, _, h => by cases h
  | x :: hs, 0, b, cs, cs', t, h => by simp only [List.getElem?_cons_zero, Option.some.injEq] at h; subst h; rfl
  | x :: hs, i + 1, b, cs, cs', t, h => by simpa using set_keys hs i b cs cs' t (by simpa using h)

theorem pairwise_keys {hs hs' : List Blk} (hk : hs'.map (·.1) = hs.map (·.1)) (h : hs.Pairwise (fun x y => x.1 ≠ y.1)) : hs'.Pairwise (fun x y => x.1 ≠ y.1) := by
  have h1 : (hs.map (·.1)).Pairwise (· ≠ ·) := List.pairwise_map.2 h
  rw [← hk] at h1
  exact List.pairwise_map.1 h1

/-- A store into a known block. -/
theorem Inv.set {w0 w w' : World} {hs : List Blk} (h : Inv w0 hs w) (i : Nat) {b : Nat} {cs cs' : Array Value} {t : TypeId} (hi : hs[i]? = some (b, cs, t))
    (h1 : w'.os = w.os) (h2 : w'.tape = w.tape) (h3 : w'.output = w.output) (h4 : w'.heap.size = w.heap.size) (h5 : ∀ k, k ≠ b → w'.heap[k]? = w.heap[k]?) (h6 : w'.heap[b]? = some (.cells cs' t (0, 0))) :
    Inv w0 (hs.set i (b, cs', t)) w' := by
  have hk := set_keys hs i b cs cs' t hi
  have hlt : i < hs.length := (List.getElem?_eq_some_iff.1 hi).1
  have hmem : (b, cs, t) ∈ hs := List.mem_of_getElem? hi
  refine ⟨h1.trans h.os, h2.trans h.tape, h3.trans h.output, by rw [h4]; exact h.size, fun k hk' hn => ?_, fun x hx => ?_, pairwise_keys hk h.nodup⟩
  · have hn' : ∀ x ∈ hs, x.1 ≠ k := fun x hx => by
      have : x.1 ∈ (hs.set i (b, cs', t)).map (·.1) := by rw [hk]; exact List.mem_map_of_mem hx
      obtain ⟨y, hy, hyx⟩ := List.mem_map.1 this
      exact hyx ▸ hn y hy
    rw [h5 k (fun e => hn' _ hmem e.symm)]
    exact h.old k hk' hn'
  · obtain ⟨j, hj, rfl⟩ := List.mem_iff_getElem.1 hx
    have hj' : j < hs.length := by simpa using hj
    by_cases hji : i = j
    · subst hji
      simp only [List.getElem_set_self]
      exact h6
    · rw [List.getElem_set_ne hji]
      have hne : hs[j].1 ≠ b := by
        have hp := List.pairwise_iff_getElem.1 h.nodup
        have hib : hs[i] = (b, cs, t) := by rw [List.getElem?_eq_getElem hlt] at hi; exact Option.some.inj hi
        rcases Nat.lt_or_gt_of_ne hji with hlt' | hgt
        · have := hp i j hlt hj' hlt'
          rw [hib] at this
          exact fun e => this e.symm
        · have := hp j i hj' hlt hgt
          rw [hib] at this
          exact this
      rw [h5 _ hne]
      exact h.blk _ (List.getElem_mem hj')

theorem setCell_facts (w : World) (b o : Nat) (v : Value) (cs : Array Value) (t : TypeId) (hb : w.heap[b]? = some (.cells cs t (0, 0))) :
    (w.setCell ⟨b, o, none⟩ v).os = w.os ∧ (w.setCell ⟨b, o, none⟩ v).tape = w.tape ∧ (w.setCell ⟨b, o, none⟩ v).output = w.output ∧ (w.setCell ⟨b, o, none⟩ v).heap.size = w.heap.size ∧
      (∀ k, k ≠ b → (w.setCell ⟨b, o, none⟩ v).heap[k]? = w.heap[k]?) ∧ (w.setCell ⟨b, o, none⟩ v).heap[b]? = some (.cells (cs.setIfInBounds o v) t (0, 0)) :=
  ⟨rfl, rfl, rfl, by simp, fun k hk => heap_setCell_other w _ k v hk, heap_setCell_same w b o cs t v hb⟩

/-- Behind a call that keeps the contract 'Inv w T w'', T the blocks that it speaks of. -/
theorem Inv.join {w0 w w' : World} {hs T : List Blk} (h : Inv w0 hs w) (h' : Inv w T w') (hs' : List Blk) (c1 : ∀ x ∈ hs', x ∈ T ∨ (x ∈ hs ∧ ∀ y ∈ T, y.1 ≠ x.1))
    (c2 : ∀ k, k < w0.heap.size → (∀ x ∈ hs', x.1 ≠ k) → (∀ x ∈ hs, x.1 ≠ k) ∧ ∀ x ∈ T, x.1 ≠ k) (c3 : hs'.Pairwise (fun x y => x.1 ≠ y.1)) : Inv w0 hs' w' := by
  refine ⟨h'.os.trans h.os, h'.tape.trans h.tape, h'.output.trans h.output, Nat.le_trans h.size h'.size, fun k hk hn => ?_, fun x hx => ?_, c3⟩
  · obtain ⟨n1, n2⟩ := c2 k hk hn
    rw [h'.old k (Nat.lt_of_lt_of_le hk h.size) n2]
    exact h.old k hk n1
  · rcases c1 x hx with hT | ⟨hh, hne⟩
    · exact h'.blk x hT
    · rw [h'.old x.1 (h.lt hh) hne]
      exact h.blk x hh

theorem Inv.call0 {w0 w w' : World} {hs : List Blk} (h : Inv w0 hs w) (h' : Inv w [] w') : Inv w0 hs w' :=
  h.join h' hs (fun x hx => .inr ⟨hx, fun _ hy => (by cases hy)⟩) (fun k _ hn => ⟨hn, fun _ hy => (by cases hy)⟩) h.nodup

/-- .. that has turned the blocks S (at their place in the list) and made new ones N. -/
theorem Inv.callS {w0 w w' : World} {A S S' L N : List Blk} (h : Inv w0 (A ++ S ++ L) w) (h' : Inv w (S' ++ N) w') (hk : S'.map (·.1) = S.map (·.1)) (hN : ∀ x ∈ N, w.heap.size ≤ x.1) : Inv w0 (A ++ S' ++ L ++ N) w' := by
  have hS' : ∀ y ∈ S', ∃ z ∈ S, z.1 = y.1 := fun y hy => by
    have : y.1 ∈ S.map (·.1) := by rw [← hk]; exact List.mem_map_of_mem hy
    obtain ⟨z, hz, e⟩ := List.mem_map.1 this
    exact ⟨z, hz, e⟩
  have hS : ∀ y ∈ S, ∃ z ∈ S', z.1 = y.1 := fun y hy => by
    have : y.1 ∈ S'.map (·.1) := by rw [hk]; exact List.mem_map_of_mem hy
    obtain ⟨z, hz, e⟩ := List.mem_map.1 this
    exact ⟨z, hz, e⟩
  have hp := h.nodup
  rw [List.append_assoc, List.pairwise_append, List.pairwise_append] at hp
  obtain ⟨pA, ⟨pS, pL, pSL⟩, pASL⟩ := hp
  refine h.join h' _ (fun x hx => ?_) (fun k hk' hn => ⟨fun x hx e => ?_, fun x hx e => ?_⟩) ?_
  · simp only [List.mem_append] at hx ⊢
    rcases hx with ((hx | hx) | hx) | hx
    · refine .inr ⟨.inl (.inl hx), fun y hy e => ?_⟩
      rcases hy with hy | hy
      · obtain ⟨z, hz, ez⟩ := hS' y hy
        exact pASL x hx z (List.mem_append_left _ hz) (by rw [ez, e])
      · have := hN y hy
        have := h.lt (x := x) (by simp [hx])
        omega
    · exact .inl (.inl hx)
    · refine .inr ⟨.inr hx, fun y hy e => ?_⟩
      rcases hy with hy | hy
      · obtain ⟨z, hz, ez⟩ := hS' y hy
        exact pSL z hz x hx (by rw [ez, e])
      · have := hN y hy
        have := h.lt (x := x) (by simp [hx])
        omega
    · exact .inl (.inr hx)
  · simp only [List.mem_append] at hx
    rcases hx with (hx | hx) | hx
    · exact hn x (by simp [hx]) e
    · obtain ⟨z, hz, ez⟩ := hS x hx
      exact hn z (by simp [hz]) (by rw [ez, e])
    · exact hn x (by simp [hx]) e
  · simp only [List.mem_append] at hx
    rcases hx with hx | hx
    · exact hn x (by simp [hx]) e
    · exact hn x (by simp [hx]) e
  · have hL : ∀ x ∈ A ++ S ++ L, ∀ y ∈ N, x.1 ≠ y.1 := fun x hx y hy => by
      have := hN y hy
      have := h.lt hx
      omega
    have pN := (List.pairwise_append.1 h'.nodup)
    rw [List.pairwise_append, List.pairwise_append, List.pairwise_append]
    refine ⟨⟨⟨pA, pN.1, fun x hx y hy => ?_⟩, pL, fun x hx y hy => ?_⟩, pN.2.1, fun x hx y hy => ?_⟩
    · obtain ⟨z, hz, ez⟩ := hS' y hy
      rw [← ez]
      exact pASL x hx z (List.mem_append_left _ hz)
    · rcases List.mem_append.1 hx with hx | hx
      · exact pASL x hx y (List.mem_append_right _ hy)
      · obtain ⟨z, hz, ez⟩ := hS' x hx
        rw [← ez]
        exact pSL z hz y hy
    · rcases List.mem_append.1 hx with hx | hx
      · rcases List.mem_append.1 hx with hx | hx
        · exact hL x (by simp [hx]) y hy
        · obtain ⟨z, hz, ez⟩ := hS' x hx
          rw [← ez]
          exact hL z (by simp [hz]) y hy
      · exact hL x (by simp [hx]) y hy

/-- A pure function: one value in every world, and nothing that was there has turned. -/
def Pur (P : Program) (g : FuncId) (vs : List Value) (v : Value) : Prop := ∀ w, Calls P g vs.toArray w fun e w' => e = .returned v ∧ Inv w [] w'
end Go.Proofs.Ytjelaoblpchmmaa
