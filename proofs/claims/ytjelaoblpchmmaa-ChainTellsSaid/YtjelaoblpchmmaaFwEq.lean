/-
  The calculus of walks: '==' of plain structs and arrays: true just if the cells are the same.
-/
import Derived.Test.YtjelaoblpchmmaaFwMem
import Derived.DeepKeys
namespace Go.Proofs.Ytjelaoblpchmmaa
set_option linter.unusedVariables false
set_option linter.unusedSimpArgs false
open Go.RowKit

def litOf : Value → Lit
  | .bool b => .bool b
  | .int k n => .int k n
  | _ => .bool false

theorem Oks_split : ∀ {a b : List CK} {cs : List Value}, Oks (a ++ b) cs → Oks a (cs.take a.length) ∧ Oks b (cs.drop a.length)
  | [], _, _, h => ⟨trivial, h⟩
  | k :: a, b, [], h => h.elim
  | k :: a, b, v :: cs, h => by
    obtain ⟨h1, h2⟩ := Oks_split (a := a) (b := b) (cs := cs) h.2
    exact ⟨⟨h.1, h1⟩, h2⟩

theorem Oks_lits : ∀ {ks : List CK} {xs ys : List Value}, Oks ks xs → Oks ks ys → xs.map litOf = ys.map litOf → xs = ys
  | [], [], [], _, _, _ => rfl
  | k :: ks, x :: xs, y :: ys, hx, hy, h => by
    simp only [List.map_cons, List.cons.injEq] at h
    have h2 := Oks_lits hx.2 hy.2 h.2
    have h1 : x = y := by
      have a1 := hx.1
      have a2 := hy.1
      have a3 := h.1
      cases k with
      | b => obtain ⟨p, rfl⟩ := a1; obtain ⟨q, rfl⟩ := a2; simp only [litOf, Lit.bool.injEq] at a3; rw [a3]
      | i k => obtain ⟨p, rfl, _⟩ := a1; obtain ⟨q, rfl, _⟩ := a2; simp only [litOf, Lit.int.injEq] at a3; rw [a3.2]
    rw [h1, h2]
  | k :: ks, [], _, hx, _, _ => hx.elim
  | k :: ks, _ :: _, [], _, hy, _ => hy.elim
  | [], _ :: _, _, hx, _, _ => hx.elim
  | [], [], _ :: _, _, hy, _ => hy.elim

section
variable {P : Program}

theorem fields_lits {n : Nat} (cs : List Value) (ih : ∀ t ks cs, shapes P n t = some ks → P.keyTypeAt n t = true → Oks ks cs → P.keyLits n t cs = some (cs.map litOf)) :
    ∀ (l : List Field) (acc ks : List CK), (∀ f ∈ l, P.keyTypeAt n f.type = true) →
      (l.foldl (fun acc f => acc.bind fun (ks : List CK) => (shapes P n f.type).bind fun ms => if f.offset = ks.length ∧ ms.length = P.cellsOf f.type then some (ks ++ ms) else none) (some acc)) = some ks →
      Oks ks cs → ∃ Ls, l.mapM (fun f => P.keyLits n f.type ((cs.drop f.offset).take (P.cellsOf f.type))) = some Ls ∧ Ls.flatten = (cs.drop acc.length).map litOf ∧ ∃ more, ks = acc ++ more := by
  intro l
  induction l with
  | nil =>
    intro acc ks _ h ho
    simp only [List.foldl_nil, Option.some.injEq] at h
    subst h
    have := Oks_length ho
    exact ⟨[], rfl, by rw [List.drop_of_length_le (by omega)]; rfl, [], by simp⟩
  | cons f l ihl =>
    intro acc ks hk h ho
    rw [List.foldl_cons, Option.bind_some] at h
    cases hs : shapes P n f.type with
    | none => rw [hs, Option.bind_none, foldl_none] at h; exact absurd h (by simp)
    | some ms =>
      rw [hs, Option.bind_some] at h
      by_cases hc : f.offset = acc.length ∧ ms.length = P.cellsOf f.type
      · rw [if_pos hc] at h
        obtain ⟨Ls, h1, h2, more, rfl⟩ := ihl (acc ++ ms) ks (fun g hg => hk g (List.mem_cons_of_mem _ hg)) h ho
        rw [List.append_assoc] at ho
        have hm := (Oks_split (Oks_split ho).2).1
        have hl := ih f.type ms _ hs (hk f (List.mem_cons_self ..)) hm
        rw [← hc.1] at hl
        refine ⟨((cs.drop f.offset).take ms.length).map litOf :: Ls, ?_, ?_, ms ++ more, by simp⟩
        · rw [List.mapM_cons, ← hc.2, hl, hc.2, h1]; rfl
        · rw [List.flatten_cons, h2, ← List.map_append, hc.1, List.length_append, ← List.drop_drop, List.take_append_drop]
      · rw [if_neg hc, foldl_none] at h
        exact absurd h (by simp)

theorem items_lits {n : Nat} {el : TypeId} {ms : List CK} (s : Nat) (hs : ms.length = s) (ih : ∀ cs, Oks ms cs → P.keyLits n el cs = some (cs.map litOf)) :
    ∀ (m i : Nat) (cs : List Value), Oks (List.replicate m ms).flatten (cs.drop (i * s)) → ∃ Ls, (List.range' i m).mapM (fun i => P.keyLits n el ((cs.drop (i * s)).take s)) = some Ls ∧ Ls.flatten = (cs.drop (i * s)).map litOf := by
  intro m
  induction m with
  | zero =>
    intro i cs h
    have := Oks_length h
    have h0 : cs.drop (i * s) = [] := List.length_eq_zero_iff.1 (by simpa using this)
    exact ⟨[], rfl, by rw [h0]; rfl⟩
  | succ m ihm =>
    intro i cs h
    rw [List.replicate_succ, List.flatten_cons] at h
    obtain ⟨h1, h2⟩ := Oks_split h
    rw [hs] at h1 h2
    rw [List.drop_drop] at h2
    obtain ⟨Ls, h3, h4⟩ := ihm (i + 1) cs (by rw [Nat.succ_mul]; exact h2)
    refine ⟨((cs.drop (i * s)).take s).map litOf :: Ls, ?_, ?_⟩
    · rw [List.range'_succ, List.mapM_cons, ih _ h1, h3]; rfl
    · rw [List.flatten_cons, h4, ← List.map_append, Nat.succ_mul, ← List.drop_drop, List.take_append_drop]

theorem lits_of : ∀ (n : Nat) (t : TypeId) (ks : List CK) (cs : List Value), shapes P n t = some ks → P.keyTypeAt n t = true → Oks ks cs → P.keyLits n t cs = some (cs.map litOf) := by
  intro n
  induction n with
  | zero => intro t ks cs h _ _; simp [shapes] at h
  | succ n ih =>
    intro t ks cs h hk ho
    unfold shapes at h
    unfold Program.keyTypeAt at hk
    unfold Program.keyLits
    cases hu : P.underlying t with
    | none => simp [hu] at h
    | some d =>
      rw [hu] at h hk
      cases d with
      | bool =>
        simp only [Option.some.injEq] at h
        subst h
        obtain ⟨v, vs, rfl, ⟨b, rfl⟩, h'⟩ := Oks_cons ho
        rw [Oks_nil h']
        rfl
      | int k =>
        simp only [Option.some.injEq] at h
        subst h
        obtain ⟨v, vs, rfl, ⟨m, rfl, hw⟩, h'⟩ := Oks_cons ho
        rw [Oks_nil h']
        simp only [List.map_cons, List.map_nil, litOf]
        rw [if_pos ⟨trivial, hw⟩]
      | struct fs =>
        simp only [Option.bind_eq_some_iff] at h
        obtain ⟨ks', h, hk'⟩ := h
        split at hk'
        · rename_i hlen
          simp only [Option.some.injEq] at hk'
          subst hk'
          simp only [Bool.and_eq_true, Array.all_eq_true_iff_forall_mem] at hk
          obtain ⟨Ls, h1, h2, _⟩ := fields_lits cs ih fs.toList [] ks' (fun f hf => (hk.1.1 f (Array.mem_toList_iff.1 hf)).2) h ho
          have hl := Oks_length ho
          simp only
          rw [if_pos ⟨by omega, by rw [Array.all_eq_true_iff_forall_mem]; exact fun f hf => (hk.1.1 f hf).1⟩, h1]
          simpa using h2
        · exact absurd hk' (by simp)
      | array m e =>
        simp only [Option.bind_eq_some_iff] at h
        obtain ⟨ms, h, hk'⟩ := h
        split at hk'
        · rename_i hlen
          simp only [Option.some.injEq] at hk'
          subst hk'
          have hl := Oks_length ho
          obtain ⟨Ls, h1, h2⟩ := items_lits (P.cellsOf e) hlen.1 (fun cs hc => ih e ms cs h hk hc) m 0 cs (by simpa using ho)
          have hz : (List.replicate m ms).flatten.length = m * P.cellsOf e := by simp [hlen.1]
          simp only
          rw [if_pos (by rw [hl, hz]; exact hlen.2), List.range_eq_range', h1]
          simpa using h2
        · exact absurd hk' (by simp)
      | _ => simp at h

/-- Are two rows of cells the same? -/
noncomputable def eqA (xs ys : Array Value) : Bool := @decide (xs = ys) (Classical.propDecidable _)
theorem eqA_true {xs ys : Array Value} (h : xs = ys) : eqA xs ys = true := by unfold eqA; exact @decide_eq_true _ (Classical.propDecidable _) h
theorem eqA_iff {xs ys : Array Value} : eqA xs ys = true ↔ xs = ys := by unfold eqA; exact @decide_eq_true_iff _ (Classical.propDecidable _)
theorem eqA_false {xs ys : Array Value} (h : xs ≠ ys) : eqA xs ys = false := by unfold eqA; exact @decide_eq_false _ (Classical.propDecidable _) h

def isRowB (P : Program) (t : TypeId) : Bool := match P.underlying t with
  | some (.struct _) | some (.array _ _) => true
  | _ => false

theorem run_eqA {n : Nat} {t : TypeId} {ks : List CK} {xs ys : Array Value} (hs : shapes P n t = some ks) (hk : P.keyTypeAt n t = true) (hr : isRowB P t = true) (hn : Nat.ble n 10000 = true)
    (hz : ks.length = P.cellsOf t) (hx : Oks ks xs.toList) (hy : Oks ks ys.toList) (w : World) : (Op.equalIn 10000 t (.agg xs) (.agg ys)).run P w = .ok (eqA xs ys) w := by
  have hn' : n ≤ 10000 := Nat.le_of_ble_eq_true hn
  have hform : ∀ zs : Array Value, Oks ks zs.toList → (Value.agg zs).formed P t = true := fun zs hz' => by
    have := Oks_length hz'
    unfold isRowB at hr
    unfold Value.formed
    cases hu : P.underlying t with
    | none => simp [hu] at hr
    | some d => cases d <;> simp [hu] at hr ⊢ <;> (rw [← hz, ← this]; simp)
  obtain ⟨r, h1, h2⟩ := run_equalIn_deep (P := P) (10000 - n) n t hk w n n (.agg xs) (.agg ys) _ _ (hform xs hx) (hform ys hy) (lits_of n t ks _ hs hk hx) (lits_of n t ks _ hs hk hy)
  rw [Nat.sub_add_cancel hn'] at h1
  rw [h1]
  congr 1
  rw [Bool.eq_iff_iff, h2, eqA_iff]
  constructor
  · intro h
    have := Oks_lits hx hy h
    exact Array.toList_inj.1 this
  · intro h; rw [h]

variable {e : Env} {w : World} {dst : Option Tmp} {ty : TypeId} {pos : String} {af : Array Edge} {gu : Option (Nat × Bool)} {x y : Operand} {t s : TypeId}
theorem r_eqA {n : Nat} {ks : List CK} {xs ys : Array Value} (hs : shapes P n t = some ks) (hk : P.keyTypeAt n t = true) (hr : isRowB P t = true) (hn : Nat.ble n 10000 = true) (hz : ks.length = P.cellsOf t) (hg : P.eqGuardType P.depth t = false)
    (hx : ev e x = some (.agg xs)) (hy : ev e y = some (.agg ys)) (ox : Oks ks xs.toList) (oy : Oks ks ys.toList) :
    (execOp (evE e) ⟨dst, .binOp .eql t x y s, ty, pos, af, gu⟩).run P w = .ok (.value (.bool (eqA xs ys))) w :=
  r_eq hx hy (fun w => run_eqGuard_agg w _ _ _ _ _ _ hg) (fun w => by rw [run_eql_struct, run_eqA hs hk hr hn hz ox oy]; rfl)
theorem r_neA {n : Nat} {ks : List CK} {xs ys : Array Value} (hs : shapes P n t = some ks) (hk : P.keyTypeAt n t = true) (hr : isRowB P t = true) (hn : Nat.ble n 10000 = true) (hz : ks.length = P.cellsOf t) (hg : P.eqGuardType P.depth t = false)
    (hx : ev e x = some (.agg xs)) (hy : ev e y = some (.agg ys)) (ox : Oks ks xs.toList) (oy : Oks ks ys.toList) :
    (execOp (evE e) ⟨dst, .binOp .neq t x y s, ty, pos, af, gu⟩).run P w = .ok (.value (.bool (!eqA xs ys))) w :=
  r_ne hx hy (fun w => run_eqGuard_agg w _ _ _ _ _ _ hg) (fun w => by rw [run_neq_struct, run_eqA hs hk hr hn hz ox oy]; rfl)
end
end Go.Proofs.Ytjelaoblpchmmaa
