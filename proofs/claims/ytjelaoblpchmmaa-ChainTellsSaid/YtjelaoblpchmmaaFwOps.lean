/-
  The calculus of walks, further: the rules for regions, and what each kind of operation comes to.
-/
import Derived.Test.YtjelaoblpchmmaaFw
import Derived.Deep.LoopGhost
namespace Go.Proofs.Ytjelaoblpchmmaa
set_option linter.unusedVariables false
set_option linter.unusedSimpArgs false
open Go.RowKit

/-! ### The operations' value in a frame of which some slots are known -/
def evE (e : Env) (x : Operand) : Value := (ev e x).getD undef

def known (e : Env) (o : Oper) : Bool := o.op.operands.toList.all fun x => (ev e x).isSome

def noSel : Op → Bool
  | .select _ _ => false
  | _ => true

theorem Fits.exec {e : Env} {n : Nat} {a : Act} (h : Fits e n a) (o : Oper) (hk : known e o = true) (hs : noSel o.op = true) : execOp a.eval o = execOp (evE e) o := by
  refine execOp_congr o (fun cs b hc => by rw [hc] at hs; cases hs) (fun x hx => ?_)
  have h1 := List.all_eq_true.1 hk x (Array.mem_toList_iff.2 hx)
  obtain ⟨v, hv⟩ := Option.isSome_iff_exists.1 h1
  rw [h.eval hv, evE, hv, Option.getD_some]

/-- Is the operation wanted? -/
def gd (ops : Array Oper) (e : Env) : Option (Nat × Bool) → Option Bool
  | none => some true
  | some (j, b) => match (ops[j]?).bind (·.dst) with
    | none => none
    | some d => match e.get d with
      | some (.bool c) => some (c == b)
      | some _ => some false
      | none => none

theorem Fits.wanted {e : Env} {n : Nat} {a : Act} {ops : Array Oper} {o : Oper} {r : Bool} (h : Fits e n a) (hg : gd ops e o.guard = some r) : Region.wanted o (yielded ops a.tmps) = r := by
  unfold Region.wanted
  unfold gd at hg
  split at hg
  · rename_i h0
    rw [h0]
    exact Option.some.inj hg
  · rename_i j b h0
    rw [h0]
    show (yielded ops a.tmps j == some b) = r
    unfold yielded
    split at hg
    · cases hg
    · rename_i d hd
      rw [hd]
      split at hg
      · rename_i c hc
        have := h.get _ _ hc
        simp only [Option.bind_some, this]
        have := Option.some.inj hg
        rw [← this]
        rfl
      · rename_i v hv hne
        have := h.get _ _ hne
        simp only [Option.bind_some, this]
        have := Option.some.inj hg
        rw [← this]
        split
        · rename_i b' hb'
          simp only [Option.some.injEq] at hb'
          exact absurd hb' (hv b')
        · rfl
      · cases hg

section
variable {P : Program} {ops : Array Oper} {Q : Exit → Act → World → Prop} {K : Act → World → Prop} {e : Env} {n i d : Nat} {a : Act} {w w' : World} {o : Oper} {v : Value}

/-! ### One operation -/
theorem op_val (hf : Fits e n a) (hi : ops[i]? = some o) (hg : gd ops e o.guard = some true) (hk : known e o = true) (hs : noSel o.op = true) (hd : o.dst = some d) (hn : Nat.blt d n = true)
    (hr : (execOp (evE e) o).run P w = .ok (.value v) w') (k : ∀ a, Fits ((d, v) :: e) n a → K a w') : wpOp P ops Q i K a w := by
  unfold wpOp
  rw [hi]
  simp only [hf.wanted hg, if_true]
  refine .inl ?_
  unfold Oper.wp
  rw [hf.exec o hk hs, hr, Oper.upon_value, hd]
  exact k _ (hf.put hn v)

theorem op_none (hf : Fits e n a) (hi : ops[i]? = some o) (hg : gd ops e o.guard = some true) (hk : known e o = true) (hs : noSel o.op = true) (hd : o.dst = none)
    (hr : (execOp (evE e) o).run P w = .ok .skip w') (k : K a w') : wpOp P ops Q i K a w := by
  unfold wpOp
  rw [hi]
  simp only [hf.wanted hg, if_true]
  refine .inl ?_
  unfold Oper.wp
  rw [hf.exec o hk hs, hr, Oper.upon_skip, hd]
  exact k

theorem op_skip (hf : Fits e n a) (hi : ops[i]? = some o) (hg : gd ops e o.guard = some false) (hd : o.dst = some d) (hn : Nat.blt d n = true)
    (k : ∀ a, Fits ((d, undef) :: e) n a → K a w) : wpOp P ops Q i K a w := by
  unfold wpOp
  rw [hi]
  simp only [hf.wanted hg, Bool.false_eq_true, if_false]
  rw [hd]
  exact k _ (hf.put hn undef)

/-- A call of a Go function. -/
def callable (P : Program) (g : FuncId) : Bool := match P.funcs[g]? with
  | some fn => !(fn.name == "runtime.NumGoroutine") && fn.body.isSome
  | none => false

theorem run_callFunc {g : FuncId} (hc : callable P g = true) (args : Array Value) (w : World) : (callFunc g args).run P w = .ok (.enter g args) w := by
  unfold callable at hc
  split at hc
  · rename_i fn hfn
    simp only [Bool.and_eq_true, Bool.not_eq_true', Option.isSome_iff_ne_none] at hc
    unfold callFunc
    simp only [Sem.run_bind, show (program : Sem Program).run P w = .ok P w from rfl, Result.andThen_ok, hfn]
    rw [if_neg (by rw [hc.1]; exact Bool.false_ne_true)]
    cases hb : fn.body with
    | none => exact absurd hb hc.2
    | some c => rfl
  · cases hc

theorem op_call {g : FuncId} {xs : Array Operand} {ats : Array TypeId} {ty : TypeId} {pos : String} {after : Array Edge} {gu : Option (Nat × Bool)} {vs : List Value} {R : Value → World → Prop}
    (hf : Fits e n a) (hi : ops[i]? = some { dst := some d, op := .call { callee := .value (.func g), args := xs, argTypes := ats }, type := ty, pos, after, guard := gu })
    (hg : gd ops e gu = some true) (hx : evs e xs.toList = some vs) (hn : Nat.blt d n = true) (hc : callable P g = true)
    (h : Calls P g vs.toArray w fun e w' => ∃ v, e = .returned v ∧ R v w')
    (k : ∀ a v w', R v w' → Fits ((d, v) :: e) n a → K a w') : wpOp P ops Q i K a w := by
  unfold wpOp
  rw [hi]
  simp only
  rw [hf.wanted (o := { dst := some d, op := .call { callee := .value (.func g), args := xs, argTypes := ats }, type := ty, pos, after, guard := gu }) hg, if_pos rfl]
  refine .inl ?_
  unfold Oper.wp
  rw [execOp_call_go, run_callFunc hc, Oper.upon_enter]
  have hargs : (#[] ++ xs.map a.eval ++ #[]) = vs.toArray := by
    rw [Array.empty_append, Array.append_empty]
    apply Array.toList_inj.1
    rw [Array.toList_map]
    exact hf.evals hx
  rw [hargs]
  refine h.mono fun e' w' he => ?_
  obtain ⟨v, rfl, hR⟩ := he
  exact k _ v w' hR (hf.put hn v)

/-- .. of a pure one. -/
theorem op_pure {g : FuncId} {xs : Array Operand} {ats : Array TypeId} {ty : TypeId} {pos : String} {after : Array Edge} {gu : Option (Nat × Bool)} {vs : List Value} {w0 : World} {hs : List Blk}
    (hf : Fits e n a) (hi : ops[i]? = some { dst := some d, op := .call { callee := .value (.func g), args := xs, argTypes := ats }, type := ty, pos, after, guard := gu })
    (hg : gd ops e gu = some true) (hx : evs e xs.toList = some vs) (hn : Nat.blt d n = true) (hc : callable P g = true)
    (h : Pur P g vs v) (hI : Inv w0 hs w)
    (k : ∀ a w', Inv w0 hs w' → Fits ((d, v) :: e) n a → K a w') : wpOp P ops Q i K a w :=
  op_call (R := fun u w' => u = v ∧ Inv w [] w') hf hi hg hx hn hc ((h w).mono fun _ _ ⟨he, hw⟩ => ⟨v, he, rfl, hw⟩)
    (fun a u w' ⟨hu, hw⟩ hf' => k a w' (hI.call0 hw) (by rw [← hu]; exact hf'))

/-! ### A region -/
theorem seq_start {id : Nat} {l : List Nat} (hl : List.range ops.size = l) (h : wpOps P ops Q l a w) : (Code.region id ops false).wp P Q a w :=
  wp_region (by rw [hl]; exact h)
theorem seq_one {rest : List Nat} (h : wpOp P ops Q i (wpOps P ops Q rest) a w) : wpOps P ops Q (i :: rest) a w := by
  rw [wpOps_cons]; exact h
theorem seq_end (h : Q .normal a w) : wpOps P ops Q [] a w := h

/-- A region that draws its order: S, what holds of memory all the time. -/
theorem any_start {id : Nat} (S : World → Prop) (hm : P.follows .mixedOrders = true) (hS : S w.drew)
    (h : wpAnyH P .any ops Q S ops.size (Array.replicate ops.size false) a w.drew) : (Code.region id ops true).wp P Q a w :=
  wp_region_held_drew hm hS (fun _ => h)

variable {S : World → Prop} {fuel : Nat} {listed : Array Bool}
/-- An operation that yields its value in every world that meets S is taken first. -/
theorem any_val (hf : Fits e n a) (hi : ops[i]? = some o) (hg : gd ops e o.guard = some true) (hk : known e o = true) (hs : noSel o.op = true) (hd : o.dst = some d) (hn : Nat.blt d n = true)
    (hQ : ∀ c a w, Q (.panic c) (a.put o.dst v) w → Q (.panic c) a w)
    (hsel : Region.noSelect ops = true) (hfr : Region.free .any ops listed i = true) (hrd : (Region.ready .any ops listed).contains i = true)
    (hr : ∀ w, S w → (execOp (evE e) o).run P w = .ok (.value v) w) (hS : S w)
    (k : ∀ a, Fits ((d, v) :: e) n a → wpAnyH P .any ops Q S fuel (listed.setIfInBounds i true) a w) : wpAnyH P .any ops Q S (fuel + 1) listed a w := by
  refine wpAnyH_take hi hsel hfr hrd hQ (.inl ⟨hf.wanted hg, fun w hw => ?_⟩) hS ?_
  · rw [hf.exec o hk hs]; exact hr w hw
  · rw [hd]; exact k _ (hf.put hn v)
theorem any_skip (hf : Fits e n a) (hi : ops[i]? = some o) (hg : gd ops e o.guard = some false) (hd : o.dst = some d) (hn : Nat.blt d n = true)
    (hQ : ∀ c a w, Q (.panic c) (a.put o.dst undef) w → Q (.panic c) a w)
    (hsel : Region.noSelect ops = true) (hfr : Region.free .any ops listed i = true) (hrd : (Region.ready .any ops listed).contains i = true) (hS : S w)
    (k : ∀ a, Fits ((d, undef) :: e) n a → wpAnyH P .any ops Q S fuel (listed.setIfInBounds i true) a w) : wpAnyH P .any ops Q S (fuel + 1) listed a w := by
  refine wpAnyH_take hi hsel hfr hrd hQ (.inr ⟨hf.wanted hg, rfl⟩) hS ?_
  rw [hd]; exact k _ (hf.put hn undef)
/-- One operation alone may come up. -/
theorem any_one (hr : Region.ready .any ops listed = [i]) (h : wpOp P ops Q i (fun a' w' => S w' ∧ wpAnyH P .any ops Q S fuel (listed.setIfInBounds i true) a' w') a w) : wpAnyH P .any ops Q S (fuel + 1) listed a w :=
  wpAnyH_all hr (by simp) (fun j hj => by simp only [List.mem_singleton] at hj; subst hj; exact h)
/-- Two may come up. -/
theorem any_two {j : Nat} (hr : Region.ready .any ops listed = [i, j]) (h1 : wpOp P ops Q i (fun a' w' => S w' ∧ wpAnyH P .any ops Q S fuel (listed.setIfInBounds i true) a' w') a w)
    (h2 : wpOp P ops Q j (fun a' w' => S w' ∧ wpAnyH P .any ops Q S fuel (listed.setIfInBounds j true) a' w') a w) : wpAnyH P .any ops Q S (fuel + 1) listed a w :=
  wpAnyH_all hr (by simp) (fun m hm => by
    simp only [List.mem_cons, List.not_mem_nil, or_false] at hm
    rcases hm with rfl | rfl
    · exact h1
    · exact h2)
theorem any_three {j l : Nat} (hr : Region.ready .any ops listed = [i, j, l]) (h1 : wpOp P ops Q i (fun a' w' => S w' ∧ wpAnyH P .any ops Q S fuel (listed.setIfInBounds i true) a' w') a w)
    (h2 : wpOp P ops Q j (fun a' w' => S w' ∧ wpAnyH P .any ops Q S fuel (listed.setIfInBounds j true) a' w') a w)
    (h3 : wpOp P ops Q l (fun a' w' => S w' ∧ wpAnyH P .any ops Q S fuel (listed.setIfInBounds l true) a' w') a w) : wpAnyH P .any ops Q S (fuel + 1) listed a w :=
  wpAnyH_all hr (by simp) (fun m hm => by
    simp only [List.mem_cons, List.not_mem_nil, or_false] at hm
    rcases hm with rfl | rfl | rfl
    · exact h1
    · exact h2
    · exact h3)
theorem any_end (hr : Region.ready .any ops listed = []) (h : Q .normal a w) : wpAnyH P .any ops Q S fuel listed a w := wpAnyH_done hr h fuel

/-! ### Code -/
theorem code_seq {x y : Code} (h : x.wp P (Exit.then (y.wp P Q) Q) a w) : (Code.seq x y).wp P Q a w := wp_seq h
theorem code_if_true {c : Operand} {x y : Code} (hf : Fits e n a) (hc : ev e c = some (.bool true)) (h : x.wp P Q a w) : (Code.cond c x y).wp P Q a w := wp_cond_true (hf.eval hc) h
theorem code_if_false {c : Operand} {x y : Code} (hf : Fits e n a) (hc : ev e c = some (.bool false)) (h : y.wp P Q a w) : (Code.cond c x y).wp P Q a w := wp_cond_false (hf.eval hc) h
/-- A test that is not decided. -/
theorem code_if {c : Operand} {x y : Code} {b : Bool} (hf : Fits e n a) (hc : ev e c = some (.bool b)) (ht : b = true → x.wp P Q a w) (hx : b = false → y.wp P Q a w) : (Code.cond c x y).wp P Q a w :=
  wp_cond_split (hf.eval hc) ht hx

/-- A loop: x, what a round's head is told by. -/
theorem code_loop {α : Type} {c : Code} (E : α → Env) (I : α → World → Prop) (m : α → Nat) (x : α) (hf : Fits (E x) n a) (hI : I x w)
    (round : ∀ x a w, Fits (E x) n a → I x w → c.wp P (Exit.then (fun a' w' => ∃ y, Fits (E y) n a' ∧ I y w' ∧ m y < m x) Q) a w) : (Code.loop c).wp P Q a w := by
  refine wp_loop_ghost (fun k a w => ∃ x, m x = k ∧ Fits (E x) n a ∧ I x w) (m x) ⟨x, rfl, hf, hI⟩ (fun k a w ⟨x, hk, hf, hI⟩ => ?_)
  refine wp_mono (round x a w hf hI) (fun ex a' w' hq => ?_)
  cases ex with
  | normal =>
    obtain ⟨y, h1, h2, h3⟩ := hq
    exact ⟨m y, by omega, y, rfl, h1, h2⟩
  | _ => exact hq
end
end Go.Proofs.Ytjelaoblpchmmaa
