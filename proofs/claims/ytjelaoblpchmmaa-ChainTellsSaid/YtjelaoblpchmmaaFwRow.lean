/-
  The calculus of walks: slices of plain rows that came in as arguments; cuts; pointers beside nil.
-/
import Derived.Test.YtjelaoblpchmmaaFwList
import Derived.Laws.Slices
import Derived.Laws.Pointers
namespace Go.Proofs.Ytjelaoblpchmmaa
set_option linter.unusedVariables false
set_option linter.unusedSimpArgs false
open Go.RowKit

theorem leb {a b : Nat} (h : Nat.ble a b = true) : a ≤ b := Nat.le_of_ble_eq_true h
theorem ltb {a b : Nat} (h : Nat.ble (a + 1) b = true) : a < b := Nat.le_of_ble_eq_true h
/-- Rows of n cells each, from an address on. -/
def Rows_ (w : World) (p : Option Addr) (n : Nat) (rows : List (List Value)) : Prop := ∀ (i : Nat) (row : List Value), rows[i]? = some row → ∃ a, p = some a ∧ ∀ (j : Nat) (v : Value), row[j]? = some v → w.cell? (a.add (i * n + j)) = some v

theorem slice_of {W : World} {p : Option Addr} {len cap : Nat} {ks : List CK} (h : (p = none ∧ len = 0 ∧ cap = 0) ∨ ∃ x, p = some x ∧ len ≤ cap ∧ cap ≤ maxLen ∧ ∃ rows : List (List Value), rows.length = len ∧ (∀ row ∈ rows, Oks ks row) ∧
      ∀ (i : Nat) (row : List Value), rows[i]? = some row → ∀ (j : Nat) (v : Value), row[j]? = some v → W.cell? (x.add (i * ks.length + j)) = some v) :
    ∃ rows : List (List Value), rows.length = len ∧ (∀ row ∈ rows, Oks ks row) ∧ Rows_ W p ks.length rows ∧ len ≤ cap ∧ cap ≤ maxLen := by
  rcases h with ⟨rfl, rfl, rfl⟩ | ⟨x, rfl, h1, h2, rows, h3, h4, h5⟩
  · exact ⟨[], rfl, (fun _ h => by cases h), (fun i row h => by cases h), Nat.le_refl _, Nat.zero_le _⟩
  · exact ⟨rows, h3, h4, fun i row hr => ⟨x, rfl, h5 i row hr⟩, h1, h2⟩
theorem add_add (a : Addr) (i j : Nat) : (a.add i).add j = a.add (i + j) := by
  simp only [Addr.add]
  split <;> split <;> split <;> simp_all <;> omega
theorem add_0 (a : Addr) : a.add 0 = a := by
  obtain ⟨b, o, s⟩ := a
  unfold Addr.add
  split <;> simp_all
theorem Rows_.old {w0 w : World} {hs : List Blk} {p : Option Addr} {n : Nat} {rows : List (List Value)} (h : Rows_ w0 p n rows) (hI : Inv w0 hs w) (hf : ∀ x ∈ hs, w0.heap.size ≤ x.1) : Rows_ w p n rows := by
  intro i row hi
  obtain ⟨a, rfl, ha⟩ := h i row hi
  refine ⟨a, rfl, fun j v hv => ?_⟩
  have hc := ha j v hv
  rw [← hc]
  have hlt : (a.add (i * n + j)).block < w0.heap.size := by
    unfold World.cell? at hc
    rcases Nat.lt_or_ge (a.add (i * n + j)).block w0.heap.size with h | h
    · exact h
    · rw [Array.getElem?_eq_none h] at hc; cases hc
  exact World.cell?_of_block (hI.old _ hlt (fun x hx e => by have := hf x hx; omega))
/-- Rows of one number each. -/
theorem rd_of {W : World} {p : Option Addr} {k : IntKind} {rows : List (List Value)} (h : Rows_ W p 1 rows) (ho : ∀ row ∈ rows, Oks [.i k] row) : ∃ xs : List Int, xs.length = rows.length ∧ InK k xs ∧ Rd W k p xs := by
  have key : ∀ row ∈ rows, ∃ x, row = [.int k x] ∧ (Lit.int k x).wf = true := fun row hr => by
    have := ho row hr
    match row, this with
    | [c], ⟨⟨x, hx, hw⟩, _⟩ => exact ⟨x, by rw [hx], hw⟩
    | c :: d :: l, ⟨_, h⟩ => exact absurd h (by simp [Oks])
  have : ∃ xs : List Int, rows = xs.map (fun x => [.int k x]) ∧ InK k xs := by
    clear h
    induction rows with
    | nil => exact ⟨[], rfl, fun _ h => by cases h⟩
    | cons r l ih =>
      obtain ⟨x, rfl, hx⟩ := key r (List.mem_cons_self ..)
      obtain ⟨xs, rfl, hxs⟩ := ih (fun row hr => ho row (List.mem_cons_of_mem _ hr)) (fun row hr => key row (List.mem_cons_of_mem _ hr))
      exact ⟨x :: xs, rfl, fun y hy => by rcases List.mem_cons.1 hy with rfl | hy; exact hx; exact hxs y hy⟩
  obtain ⟨xs, rfl, hxs⟩ := this
  refine ⟨xs, by simp, hxs, fun i hi => ?_⟩
  obtain ⟨a, ha, hc⟩ := h i [.int k (xs.getD i 0)] (by simp [List.getElem?_eq_getElem hi, List.getD])
  exact ⟨a, ha, by simpa using hc 0 _ rfl⟩

section
variable {P : Program} {ops : Array Oper} {e : Env} {w w' w0 : World} {v u : Value} {hs : List Blk}
  {dst : Option Tmp} {ty : TypeId} {pos : String} {af : Array Edge} {gu : Option (Nat × Bool)} {x y z : Operand} {t s tt : TypeId} {k : IntKind} {m n c : Int}
theorem r_indexAddrR {p : Option Addr} {len cap i sz q : Nat} (hA : slcB P t = some (s, sz)) (hx : ev e x = some (.slice p len cap)) (hy : ev e y = some (.int k m)) (hm : m = (i : Int)) (hi : i < len) (hq : i * sz = q) (hp : ∃ a, p = some a) :
    (execOp (evE e) ⟨dst, .indexAddr t x y, ty, pos, af, gu⟩).run P w = .ok (.value (.pointer (slAt p q))) w := by
  obtain ⟨a, rfl⟩ := hp
  obtain ⟨hu, hs⟩ := slcB_some hA
  show Sem.run P (do pure (Next.value (← Instr.indexAt t (evE e x) (evE e y)))) w = _
  rw [evE_eq hx, evE_eq hy, hm]
  simp only [Instr.indexAt, asIntOf, Sem.run_bind, Sem.run_pure, Result.andThen_ok, run_underlying hu]
  rw [if_pos ⟨by omega, by omega⟩]
  simp only [Sem.run_bind, run_sizeOf hs, Result.andThen_ok, Int.toNat_natCast, Sem.run_pure, slAt, Option.map_some, hq]
theorem r_loadRow {p : Option Addr} {i sz : Nat} {rows : List (List Value)} {row : List Value} (ha : aggB P t = some true) (hz : sizeB P t = some sz) (hx : ev e x = some (.pointer (slAt p (i * sz)))) (hr : Rows_ w p sz rows) (hi : rows[i]? = some row) (hl : row.length = sz) :
    (execOp (evE e) ⟨dst, .load t x, ty, pos, af, gu⟩).run P w = .ok (.value (.agg row.toArray)) w := by
  obtain ⟨a, rfl, hc⟩ := hr i row hi
  show Sem.run P (do pure (Next.value (← Instr.loadAt t (evE e x)))) w = _
  rw [evE_eq hx]
  have h1 : (loadCells (a.add (i * sz)) row.length).run P w = .ok row.toArray w := run_loadCells_list (P := P) w (a.add (i * sz)) row (fun j v hv => by rw [add_add]; exact hc j v hv)
  simp only [slAt, Option.map_some, Instr.loadAt, Instr.sureAddr, loadVar, Sem.run_bind, Sem.run_pure, Result.andThen_ok, run_isAgg ha]
  rw [if_pos trivial]
  subst hl
  simp only [Sem.run_bind, run_sizeOf hz, Result.andThen_ok, h1]; rfl
/-- 'x[:h]'. -/
theorem r_sliceH {p : Option Addr} {len cap h sz : Nat} (hA : slcB P t = some (s, sz)) (hx : ev e x = some (.slice p len cap)) (hy : ev e y = some (.int k (h : Int))) (hh : h ≤ cap) :
    (execOp (evE e) ⟨dst, .slice t x none (some y) none, ty, pos, af, gu⟩).run P w = .ok (.value (.slice p h cap)) w := by
  obtain ⟨hu, hs⟩ := slcB_some hA
  have he : P.elem t = s := by unfold Program.elem; rw [hu]
  show Sem.run P (do pure (Next.value (← Instr.sliceAt t (evE e x) none (some (evE e y)) none))) w = _
  rw [evE_eq hx, evE_eq hy]
  have h1 : (Instr.sliceAt t (.slice p len cap) none (some (.int k (h : Int))) none).run P w = .ok (.slice p h cap) w := by
    rw [run_sliceAt_slice w t _ _ _ _ (by rw [he]; exact hu), run_slice_h w t p len cap (by rw [he]; exact hu) k (h : Int) (by omega) (by omega), he, run_sizeOf hs, Result.andThen_ok]
    simp only [sliced, Int.toNat_natCast, Nat.zero_mul, Nat.sub_zero]
    congr 2
    split
    · rfl
    · cases p with
      | none => rfl
      | some a => simp [add_0]
  rw [Sem.run_bind, h1]; rfl
/-- A pointer beside nil. -/
theorem r_eqNil {p : Option Addr} {b : Bool} (hu : P.underlying t = some (.pointer (P.pointee t))) (hx : ev e x = some (.pointer p)) (hy : ev e y = some (.pointer none)) (hb : p.isNone = b) :
    (execOp (evE e) ⟨dst, .binOp .eql t x y s, ty, pos, af, gu⟩).run P w = .ok (.value (.bool b)) w := by
  rw [← hb]; exact r_eq hx hy (fun w => by cases p <;> rfl) (fun w => run_eql_pointer_nil w t p hu)
theorem r_neNil {p : Option Addr} {b : Bool} (hu : P.underlying t = some (.pointer (P.pointee t))) (hx : ev e x = some (.pointer p)) (hy : ev e y = some (.pointer none)) (hb : (!p.isNone) = b) :
    (execOp (evE e) ⟨dst, .binOp .neq t x y s, ty, pos, af, gu⟩).run P w = .ok (.value (.bool b)) w := by
  rw [← hb]; exact r_ne hx hy (fun w => by cases p <;> rfl) (fun w => by
    show (do pure (.bool (!(← Op.equal t (.pointer p) (.pointer none)))) : Sem Value).run P w = _
    rw [Sem.run_bind, run_equal_pointer_nil w t p hu]; rfl)
theorem r_minC {ats : Array TypeId} (hx : ev e x = some (.int k m)) (hy : ev e y = some (.int k n)) (hc : (if n < m then n else m) = c) :
    (execOp (evE e) ⟨dst, .call ⟨.builtin .min, #[x, y], ats⟩, ty, pos, af, gu⟩).run P w = .ok (.value (.int k c)) w := by rw [← hc]; exact r_min hx hy
end
end Go.Proofs.Ytjelaoblpchmmaa
