/-
  The calculus of walks: slices of slices of numbers: how they are read, how one more is appended, how they stay readable from call to call.
-/
import Derived.Test.YtjelaoblpchmmaaFwPair
namespace Go.Proofs.Ytjelaoblpchmmaa
set_option linter.unusedVariables false
set_option linter.unusedSimpArgs false
open Go.RowKit

/-- One slice: where, its room, its numbers. -/
abbrev En := Option Addr × Nat × List Int
def sv (e : En) : Value := .slice e.1 e.2.2.length e.2.1
def eD : En := (none, 0, [])
def rws (LL : List En) : List (List Value) := LL.map fun e => [sv e]
theorem rws_get {LL : List En} {j : Nat} (h : j < LL.length) : (rws LL)[j]? = some [.slice (LL.getD j eD).1 (LL.getD j eD).2.2.length (LL.getD j eD).2.1] := by
  simp [rws, List.getElem?_eq_getElem h, List.getD, sv]
theorem getD_memE {LL : List En} {j : Nat} (h : j < LL.length) : LL.getD j eD ∈ LL := by
  simp [List.getD, List.getElem?_eq_getElem h]
/-- Numbers that can be read as long as what was there at first, and the blocks SS, stay as they are. -/
def VN (w0 : World) (SS : List Blk) (p : Option Addr) (xs : List Int) : Prop := ∀ w : World, (∀ j, j < w0.heap.size → w.heap[j]? = w0.heap[j]?) → (∀ x ∈ SS, w.heap[x.1]? = some (.cells x.2.1 x.2.2 (0, 0))) → Rd w .i64 p xs
/-- .. slices of them. -/
def VL (w0 : World) (SS : List Blk) (P : Option Addr) (C : Nat) (LL : List En) : Prop := LL.length ≤ C ∧ ∀ w : World, (∀ j, j < w0.heap.size → w.heap[j]? = w0.heap[j]?) → (∀ x ∈ SS, w.heap[x.1]? = some (.cells x.2.1 x.2.2 (0, 0))) → Rows_ w P 1 (rws LL) ∧ ∀ e ∈ LL, Rd w .i64 e.1 e.2.2
theorem Rd.olds {w0 w : World} {k : IntKind} {p : Option Addr} {xs : List Int} (h : Rd w0 k p xs) (ho : ∀ j, j < w0.heap.size → w.heap[j]? = w0.heap[j]?) : Rd w k p xs := (h.rv.old (hs := []) ho).rd
theorem Rows_.olds {w0 w : World} {p : Option Addr} {n : Nat} {rows : List (List Value)} (h : Rows_ w0 p n rows) (ho : ∀ j, j < w0.heap.size → w.heap[j]? = w0.heap[j]?) : Rows_ w p n rows := by
  intro i row hi
  obtain ⟨a, rfl, ha⟩ := h i row hi
  refine ⟨a, rfl, fun j v hv => ?_⟩
  have hc := ha j v hv
  rw [← hc]
  have hlt : (a.add (i * n + j)).block < w0.heap.size := by
    unfold World.cell? at hc
    rcases Nat.lt_or_ge (a.add (i * n + j)).block w0.heap.size with h | h
    · exact h
    · rw [Array.getElem?_eq_none h] at hc; cases hc
  exact World.cell?_of_block (ho _ hlt)
section
variable {w0 : World} {SS S2 S : List Blk} {p P : Option Addr} {C cap : Nat} {xs : List Int} {LL : List En}
theorem VN.nil : VN w0 SS none [] := fun _ _ _ i h => absurd h (Nat.not_lt_zero _)
theorem VN.mono (h : VN w0 SS p xs) (hm : ∀ x ∈ SS, x ∈ S2) : VN w0 S2 p xs := fun w ho hS => h w ho (fun x hx => hS x (hm x hx))
theorem VN.sl {e : TypeId} (h : Sl e .i64 S p cap xs) : VN w0 S p xs := fun w _ hS i hi => by
  rcases h with ⟨_, _, _, rfl⟩ | ⟨b, cs, rfl, rfl, h1, h2, h3, h4⟩
  · simp at hi
  · exact (Rd.blk (hS _ (List.mem_singleton.2 rfl)) h4) i hi
theorem VN.rd (h : VN w0 SS p xs) {w : World} {hs : List Blk} (hI : Inv w0 hs w) (hf : ∀ x ∈ hs, w0.heap.size ≤ x.1) (hm : ∀ x ∈ SS, x ∈ hs) : Rd w .i64 p xs := h w (hI.olds hf) (fun x hx => hI.blk x (hm x hx))
theorem VL.start (hl : LL.length ≤ C) (h : Rows_ w0 P 1 (rws LL)) (hr : ∀ e ∈ LL, Rd w0 .i64 e.1 e.2.2) : VL w0 SS P C LL := ⟨hl, fun w ho _ => ⟨h.olds ho, fun e he => (hr e he).olds ho⟩⟩
theorem VL.nil : VL w0 SS none 0 [] := ⟨Nat.le_refl _, fun w _ _ => ⟨fun (i : Nat) (row : List Value) h => by simp [rws] at h, fun (e : En) h => by simp at h⟩⟩
theorem VL.mono (h : VL w0 SS P C LL) (hm : ∀ x ∈ SS, x ∈ S2) : VL w0 S2 P C LL := ⟨h.1, fun w ho hS => h.2 w ho (fun x hx => hS x (hm x hx))⟩
theorem VL.get (h : VL w0 SS P C LL) {j : Nat} (hj : j < LL.length) : VN w0 SS (LL.getD j eD).1 (LL.getD j eD).2.2 := fun w ho hS => (h.2 w ho hS).2 _ (getD_memE hj)
theorem VL.rows (h : VL w0 SS P C LL) {w : World} {hs : List Blk} (hI : Inv w0 hs w) (hf : ∀ x ∈ hs, w0.heap.size ≤ x.1) (hm : ∀ x ∈ SS, x ∈ hs) : Rows_ w P 1 (rws LL) := (h.2 w (hI.olds hf) (fun x hx => hI.blk x (hm x hx))).1
theorem VL.rds (h : VL w0 SS P C LL) {w : World} {hs : List Blk} (hI : Inv w0 hs w) (hf : ∀ x ∈ hs, w0.heap.size ≤ x.1) (hm : ∀ x ∈ SS, x ∈ hs) : ∀ e ∈ LL, Rd w .i64 e.1 e.2.2 := (h.2 w (hI.olds hf) (fun x hx => hI.blk x (hm x hx))).2
/-- A slice of slices of the call's own. -/
def SO (S : List Blk) (P : Option Addr) (C : Nat) (LL : List En) : Prop := Sc 27 1 S P C LL.length (LL.map sv)
theorem SO.nil : SO [] none 0 [] := ⟨rfl, .inl ⟨rfl, rfl, rfl, rfl⟩⟩
theorem SO.le (h : SO S P C LL) : LL.length ≤ C := by
  rcases h.2 with ⟨_, _, _, h0⟩ | ⟨b, cs, _, _, h1, _⟩
  · omega
  · exact h1
theorem SO.rows (h : SO S P C LL) {w : World} (hS : ∀ x ∈ S, w.heap[x.1]? = some (.cells x.2.1 x.2.2 (0, 0))) : Rows_ w P 1 (rws LL) := fun i row hr => by
  have hi : i < LL.length := by have := (List.getElem?_eq_some_iff.1 hr).1; simpa [rws] using this
  rcases h.2 with ⟨_, _, _, h0⟩ | ⟨b, cs, rfl, rfl, h1, h2, h3, h4⟩
  · omega
  · refine ⟨_, rfl, fun j v hv => ?_⟩
    have hb := hS _ (List.mem_singleton.2 rfl)
    have e := rws_get hi
    rw [hr] at e
    have e' := Option.some.inj e
    subst e'
    match j, hv with
    | 0, hv =>
      cases hv
      rw [add_none, cell_of_row w b _ cs 27 _ hb, Nat.zero_add, Nat.mul_one, Nat.add_zero]
      have h5 : (cs.toList.take (LL.length * 1))[i]? = (LL.map sv)[i]? := by rw [h4]
      rw [List.getElem?_take_of_lt (by omega)] at h5
      simp [List.getElem?_eq_getElem hi, sv] at h5 ⊢
      exact h5
    | j + 1, hv => cases hv
theorem VL.so (h : SO S P C LL) (hv : ∀ e ∈ LL, VN w0 SS e.1 e.2.2) : VL w0 (SS ++ S) P C LL := ⟨h.le, fun w ho hS => ⟨h.rows (fun x hx => hS x (List.mem_append_right _ hx)), fun e he => hv e he w ho (fun x hx => hS x (List.mem_append_left _ hx))⟩⟩
/-- One of them is another one now. -/
theorem VL.set {P2 q : Option Addr} {C2 cq a : Nat} {Sp Sq : List Blk} {e : TypeId} (h : VL w0 SS P C LL) (hS : SO Sq P2 C2 (LL.set a (q, cq, xs))) (hq : Sl e .i64 Sp q cq xs) : VL w0 (SS ++ (Sp ++ Sq)) P2 C2 (LL.set a (q, cq, xs)) := by
  have := VL.so (SS := SS ++ Sp) (w0 := w0) hS (fun y hy => by
    rcases List.mem_or_eq_of_mem_set hy with hy | rfl
    · exact (fun w ho hS => (h.2 w ho (fun x hx => hS x (List.mem_append_left _ hx))).2 y hy : VN w0 (SS ++ Sp) y.1 y.2.2)
    · exact (VN.sl (w0 := w0) hq).mono (fun x hx => List.mem_append_right _ hx))
  rw [List.append_assoc] at this; exact this
theorem take_set {a i : Nat} {e : En} (hi : i < LL.length) : (LL.set a e).take (i + 1) = (LL.set a e).take i ++ [if a = i then e else LL.getD i eD] := by
  rw [List.take_add_one, List.getElem?_set]
  by_cases h : a = i
  · subst h; simp [hi]
  · simp [h, List.getElem?_eq_getElem hi, List.getD]
end
section
variable {P : Program} {ops : Array Oper} {Q : Exit → Act → World → Prop} {K : Act → World → Prop} {e : Env} {n i d : Nat} {a : Act} {w w' w0 : World} {o : Oper} {v u : Value} {hs : List Blk}
  {dst : Option Tmp} {ty : TypeId} {pos : String} {af : Array Edge} {gu : Option (Nat × Bool)} {x y z : Operand} {t s tt : TypeId} {k : IntKind} {m zc : Int}
theorem r_loadE {p : Option Addr} {i sz : Nat} {rows : List (List Value)} {row : List Value} (ha : aggB P t = some false) (hx : ev e x = some (.pointer (slAt p (i * sz)))) (hr : Rows_ w p sz rows) (hi : rows[i]? = some row) (hv : row[0]? = some v) :
    (execOp (evE e) ⟨dst, .load t x, ty, pos, af, gu⟩).run P w = .ok (.value v) w :=
  r_loadF (o := 0) ha (by rw [Nat.add_zero]; exact hx) hr hi hv
/-- One more. -/
theorem op_appendE {bytes b2 c2 : Nat} {zv : Value} {S A : List Blk} {p : Option Addr} {cap : Nat} {LL : List En} {u : En} {t2 : TypeId}
    (hf : Fits e n a) (hi : ops[i]? = some ⟨some d, .call ⟨.builtin .append, #[x, y], #[t, t]⟩, ty, pos, af, gu⟩) (hg : gd ops e gu = some true) (hn : Nat.blt d n = true)
    (hA : P.underlying t = some (.slice 27)) (hE : (P.info? 27).map (fun i => (i.zero, i.size, i.bytes)) = some (some zv, 1, bytes)) (hz : zv.cells.size = 1)
    (hx : ev e x = some (.slice p LL.length cap)) (hS : SO S p cap LL) (hy : ev e y = some (.slice (some ⟨b2, 0, none⟩) 1 c2))
    (hI : Inv w0 (A ++ S) w) (hF : ∀ x ∈ S, w0.heap.size ≤ x.1) (h2 : (b2, #[sv u], t2) ∈ A) (hm : LL.length + 1 ≤ maxLen) (hb : (LL.length + 1) * bytes ≤ 140737488355328)
    (kk : ∀ a p' cap' S' w', SO S' p' cap' (LL ++ [u]) → (∀ x ∈ S', w0.heap.size ≤ x.1) → Inv w0 (A ++ S') w' → Fits ((d, .slice p' (LL ++ [u]).length cap') :: e) n a → K a w') : wpOp P ops Q i K a w := by
  have hblk := hI.blk _ (List.mem_append_left S h2)
  refine op_appendC (sz := 1) (us := [sv u]) (m := 1) hf hi hg hn hA hE hz (by decide) hx hS hy (fun j v hv => ?_) rfl (fun v hv => ?_) hI hF hm hb (fun a p' cap' S' w' h1 h2 h3 h4 => kk a p' cap' S' w' ?_ h2 h3 ?_)
  · refine ⟨_, rfl, ?_⟩
    rw [add_none, cell_of_row w b2 _ _ t2 _ hblk, Nat.zero_add]
    match j, hv with
    | 0, hv => exact hv
    | j + 1, hv => cases hv
  · rw [List.mem_singleton] at hv; subst hv; rfl
  · unfold SO; rw [List.length_append, List.map_append]; exact h1
  · rw [List.length_append]; exact h4
end
end Go.Proofs.Ytjelaoblpchmmaa
