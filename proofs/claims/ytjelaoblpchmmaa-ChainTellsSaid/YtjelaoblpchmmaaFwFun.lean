/-
  The calculus of walks: function values; new memory in any order.
-/
import Derived.Test.YtjelaoblpchmmaaFwRow
import Derived.Test.YtjelaoblpchmmaaFwJoin
namespace Go.Proofs.Ytjelaoblpchmmaa
set_option linter.unusedVariables false
set_option linter.unusedSimpArgs false
open Go.RowKit

section
variable {P : Program} {ops : Array Oper} {Q : Exit → Act → World → Prop} {K : Act → World → Prop} {e : Env} {n i d : Nat} {a : Act} {w w' w0 : World} {hs : List Blk} {dst : Option Tmp} {ty : TypeId} {pos : String} {af : Array Edge} {gu : Option (Nat × Bool)} {v : Value}

theorem evsE : ∀ {xs : List Operand} {vs : List Value}, evs e xs = some vs → xs.map (evE e) = vs
  | [], vs, hx => by simpa [evs] using hx
  | x :: xs, vs, hx => by
    unfold evs at hx
    split at hx
    · rename_i v us h1 h2
      simp only [Option.some.injEq] at hx
      subst hx
      rw [List.map_cons, evE_eq h1, evsE h2]
    · cases hx
/-- A function value is made. -/
theorem r_makeFunc {g : FuncId} {caps : Array Operand} {vs : List Value} (hx : evs e caps.toList = some vs) :
    (execOp (evE e) ⟨dst, .makeFunc (.func g) #[] caps, ty, pos, af, gu⟩).run P w = .ok (.value (.func (.func g) #[] vs.toArray)) w := by
  show Sem.run P (do pure (Next.value (← Instr.makeFunc (.func g) (#[].map (evE e)) (caps.map (evE e))))) w = _
  have : caps.map (evE e) = vs.toArray := by
    apply Array.toList_inj.1
    rw [Array.toList_map]
    exact evsE hx
  rw [this, Array.map_empty]; rfl
/-- A call through a function value that turns nothing. -/
theorem op_callvP {g : FuncId} {fx : Operand} {xs : Array Operand} {ats : Array TypeId} {vs : List Value} {cap : List Value}
    (hf : Fits e n a) (hi : ops[i]? = some { dst := some d, op := .call { callee := .value fx, args := xs, argTypes := ats }, type := ty, pos, after := af, guard := gu })
    (hg : gd ops e gu = some true) (hfx : ev e fx = some (.func (.func g) #[] cap.toArray)) (hx : evs e xs.toList = some vs) (hn : Nat.blt d n = true) (hc : callable P g = true)
    (h : Calls P g (vs ++ cap).toArray w fun e w' => e = .returned v ∧ Inv w [] w') (hI : Inv w0 hs w)
    (k : ∀ a w', Inv w0 hs w' → Fits ((d, v) :: e) n a → K a w') : wpOp P ops Q i K a w :=
  op_callv (first := []) (R := fun u w' => u = v ∧ Inv w [] w') hf hi hg hfx hx hn hc (h.mono fun _ _ ⟨he, hw⟩ => ⟨v, he, rfl, hw⟩)
    (fun a u w' ⟨hu, hw⟩ hf' => k a w' (hI.call0 hw) (by rw [← hu]; exact hf'))

/-! ### New memory, in any order -/
theorem Inv.perm {hs' : List Blk} (h : Inv w0 hs w) (hp : hs.Perm hs') : Inv w0 hs' w :=
  ⟨h.os, h.tape, h.output, h.size, fun k hk hn => h.old k hk fun x hx => hn x (hp.mem_iff.1 hx), fun x hx => h.blk x (hp.mem_iff.2 hx), (hp.pairwise_iff (fun h => h.symm)).1 h.nodup⟩
theorem Fits.of {e' : Env} (h : Fits e n a) (hg : ∀ t v, e'.get t = some v → e.get t = some v) : Fits e' n a := ⟨h.defers, h.size, fun t v ht => h.get t v (hg t v ht)⟩
structure Al where
  i : Nat
  d : Nat
  t : TypeId
  z : Value
def readyAll (ops : Array Oper) (fin : Array Bool) : Nat → Array Bool → List Nat → Bool
  | 0, listed, R => R.isEmpty && (listed == fin)
  | k + 1, listed, R => (!R.isEmpty && (Region.ready .any ops listed == R)) && R.all fun i => readyAll ops fin k (listed.setIfInBounds i true) (R.filter (· != i))
def alEnv (β : Nat → Nat) (B : List Al) : Env := B.map fun x => (x.d, .pointer (some ⟨β x.i, 0, none⟩))
def alBlk (β : Nat → Nat) (B : List Al) : List Blk := B.map fun x => (β x.i, x.z.cells, x.t)
theorem get_append : ∀ (a b : Env) (t : Nat), (a ++ b).get t = (a.get t).or (b.get t)
  | [], b, t => by simp [Env.get]
  | (i, v) :: a, b, t => by
    rw [List.cons_append, Env.get_cons, Env.get_cons, get_append a b t]
    split <;> rfl
theorem alEnv_get {β : Nat → Nat} : ∀ {B : List Al} {t : Nat} {v : Value}, (alEnv β B).get t = some v → ∃ x ∈ B, x.d = t ∧ v = .pointer (some ⟨β x.i, 0, none⟩)
  | [], _, _, h => by cases h
  | x :: B, t, v, h => by
    unfold alEnv at h
    rw [List.map_cons, Env.get_cons] at h
    split at h
    · rename_i hd; exact ⟨x, List.mem_cons_self .., hd, (Option.some.inj h).symm⟩
    · obtain ⟨y, hy, h1, h2⟩ := alEnv_get (B := B) h; exact ⟨y, List.mem_cons_of_mem _ hy, h1, h2⟩
theorem filter_ne_perm {B : List Al} {R : List Nat} {x : Al} (hx : x ∈ B) (hp : B.Pairwise fun x y => x.i ≠ y.i) (hR : x.i ∈ R) (hr : ∀ j ∈ R, j = x.i ∨ j ∈ R.filter (· != x.i)) :
    (B.filter (fun y => !(R.contains y.i)) ++ [x]).Perm (B.filter fun y => !((R.filter (· != x.i)).contains y.i)) := by
  induction B with
  | nil => cases hx
  | cons y B ih =>
    rw [List.pairwise_cons] at hp
    by_cases e : y = x
    · subst e
      have h1 : R.contains y.i = true := by simpa using hR
      have h2 : (R.filter (· != y.i)).contains y.i = false := by simp
      rw [List.filter_cons, List.filter_cons]
      simp only [h1, h2, Bool.not_true, Bool.not_false, if_true, Bool.false_eq_true, if_false]
      have : B.filter (fun z => !(R.contains z.i)) = B.filter fun z => !((R.filter (· != y.i)).contains z.i) := by
        apply List.filter_congr
        intro z hz
        have hne := hp.1 z hz
        rw [Bool.eq_iff_iff]
        simp
        exact fun h => absurd h.symm hne
      rw [this]
      exact List.perm_append_comm
    · have hxB : x ∈ B := by rcases List.mem_cons.1 hx with h | h; exact absurd h.symm e; exact h
      have hne : y.i ≠ x.i := hp.1 x hxB
      have hc : (R.filter (· != x.i)).contains y.i = R.contains y.i := by
        rw [Bool.eq_iff_iff]; simp; exact fun _ => hne
      rw [List.filter_cons, List.filter_cons, hc]
      split
      · exact (ih hxB hp.2).cons y
      · exact ih hxB hp.2
theorem pw_ne {α : Type} {f : α → Nat} : ∀ {B : List α} {x y : α}, B.Pairwise (fun x y => f x ≠ f y) → x ∈ B → y ∈ B → x ≠ y → f x ≠ f y
  | z :: B, x, y, hp, hx, hy, hne => by
    rw [List.pairwise_cons] at hp
    rcases List.mem_cons.1 hx with rfl | gx <;> rcases List.mem_cons.1 hy with rfl | gy
    · exact absurd rfl hne
    · exact hp.1 y gy
    · exact (hp.1 x gx).symm
    · exact pw_ne hp.2 gx gy hne
theorem any_allocs {S : World → Prop} {fin : Array Bool} {B : List Al} {E : Env} {hs0 : List Blk}
    (hB : ∀ x ∈ B, (∃ ty pos af, ops[x.i]? = some ⟨some x.d, .alloc x.t, ty, pos, af, none⟩) ∧ Nat.blt x.d n = true ∧ zeroB P x.t = some x.z ∧ E.get x.d = none)
    (hp : B.Pairwise fun x y => x.i ≠ y.i) (hq : B.Pairwise fun x y => x.d ≠ y.d)
    (hS : ∀ w, (∀ x ∈ hs0, w.heap[x.1]? = some (.cells x.2.1 x.2.2 (0, 0))) → S w) (fuel : Nat)
    (k : ∀ (β : Nat → Nat) a w, (∀ x ∈ B, w0.heap.size ≤ β x.i) → Fits (alEnv β B ++ E) n a → Inv w0 (hs0 ++ alBlk β B) w → S w → wpAnyH P .any ops Q S fuel fin a w) :
    ∀ (m : Nat) (R : List Nat) (listed : Array Bool) (β : Nat → Nat) (e : Env) (hs : List Blk) (a : Act) (w : World), readyAll ops fin m listed R = true → (∀ j ∈ R, ∃ x ∈ B, x.i = j) →
      (∀ x ∈ B, x.i ∉ R → e.get x.d = some (.pointer (some ⟨β x.i, 0, none⟩)) ∧ w0.heap.size ≤ β x.i) → (∀ t v, E.get t = some v → e.get t = some v) → Fits e n a →
      hs.Perm (hs0 ++ alBlk β (B.filter fun x => !(R.contains x.i))) → Inv w0 hs w → wpAnyH P .any ops Q S (fuel + m) listed a w
  | 0, R, listed, β, e, hs, a, w, hr, hR, hA, hE, hf, hh, hI => by
    unfold readyAll at hr
    rw [Bool.and_eq_true, List.isEmpty_iff, beq_iff_eq] at hr
    obtain ⟨rfl, rfl⟩ := hr
    have hfl : (B.filter fun x => !(([] : List Nat).contains x.i)) = B := List.filter_eq_self.2 fun x _ => by simp
    rw [hfl] at hh
    have hI' := hI.perm hh
    refine k β a w (fun x hx => (hA x hx (by simp)).2) (hf.of fun t v h => ?_) hI' (hS w fun x hx => hI'.blk x (List.mem_append_left _ hx))
    rw [get_append] at h
    cases hg : (alEnv β B).get t with
    | none => rw [hg] at h; exact hE t v h
    | some u =>
      rw [hg] at h
      obtain ⟨x, hx, h1, h2⟩ := alEnv_get hg
      have : u = v := Option.some.inj h
      subst this; subst h1; subst h2
      exact (hA x hx (by simp)).1
  | m + 1, R, listed, β, e, hs, a, w, hr, hR, hA, hE, hf, hh, hI => by
    unfold readyAll at hr
    rw [Bool.and_eq_true, Bool.and_eq_true, beq_iff_eq, List.all_eq_true, Bool.not_eq_true', List.isEmpty_eq_false_iff] at hr
    have step : ∀ j ∈ R, wpOp P ops Q j (fun a' w' => S w' ∧ wpAnyH P .any ops Q S (fuel + m) (listed.setIfInBounds j true) a' w') a w := by
      intro j hj
      obtain ⟨x, hx, rfl⟩ := hR j hj
      obtain ⟨⟨ty, pos, af, ho⟩, hn, hz, hnone⟩ := hB x hx
      refine op_alloc hf ho rfl hn hz hI fun a' b w' hb hI' hf' => ?_
      have hne : ∀ y ∈ B, y ≠ x → y.i ≠ x.i ∧ y.d ≠ x.d := fun y hy hyx => by
        exact ⟨pw_ne hp hy hx hyx, pw_ne hq hy hx hyx⟩
      have hx' : x.i ∉ R.filter (· != x.i) := by simp
      let β' : Nat → Nat := fun j => if j = x.i then b else β j
      have hb' : β' x.i = b := if_pos rfl
      have hbo : ∀ y ∈ B, y ≠ x → β' y.i = β y.i := fun y hy hyx => if_neg (hne y hy hyx).1
      have hperm : (hs ++ [(b, x.z.cells, x.t)]).Perm (hs0 ++ alBlk β' (B.filter fun y => !((R.filter (· != x.i)).contains y.i))) := by
        have hfp := filter_ne_perm (R := R) hx hp hj (fun j' hj' => by
          by_cases e : j' = x.i
          · exact .inl e
          · exact .inr (by simp [hj', e]))
        have h1 : alBlk β (B.filter fun y => !(R.contains y.i)) = alBlk β' (B.filter fun y => !(R.contains y.i)) := by
          apply List.map_congr_left
          intro y hy
          have hy' := List.mem_filter.1 hy
          have : y ≠ x := fun e => by subst e; simp [hj] at hy'
          rw [hbo y hy'.1 this]
        have h2 : [(b, x.z.cells, x.t)] = alBlk β' [x] := by simp [alBlk, hb']
        rw [h1] at hh
        refine (hh.append_right _).trans ?_
        rw [h2, List.append_assoc]
        refine List.Perm.append_left _ ?_
        unfold alBlk
        rw [← List.map_append]
        exact hfp.map _
      refine ⟨hS w' fun y hy => hI'.blk y ?_, any_allocs hB hp hq hS fuel k m (R.filter (· != x.i)) _ β' _ _ a' w' (hr.2 _ hj) (fun j hj => hR j (List.mem_filter.1 hj).1) ?_ ?_ hf' hperm hI'⟩
      · exact List.mem_append_left _ (hh.mem_iff.2 (List.mem_append_left _ hy))
      · intro y hy hyR
        rw [Env.get_cons]
        by_cases e : y = x
        · subst e; rw [if_pos rfl, hb']; exact ⟨rfl, hb⟩
        · have := hne y hy e
          rw [if_neg (fun h => this.2 h.symm), hbo y hy e]
          exact hA y hy (fun h => hyR (by simp [h, this.1]))
      · intro t v ht
        rw [Env.get_cons]
        have : x.d ≠ t := fun h => by subst h; rw [hnone] at ht; cases ht
        rw [if_neg this]
        exact hE t v ht
    exact wpAnyH_all hr.1.2 hr.1.1 step
end
end Go.Proofs.Ytjelaoblpchmmaa
