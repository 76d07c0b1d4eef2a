/-
  The calculus of walks: what each kind of operation comes to, given its operands.
-/
import Derived.Test.YtjelaoblpchmmaaFwOps
namespace Go.Proofs.Ytjelaoblpchmmaa
set_option linter.unusedVariables false
set_option linter.unusedSimpArgs false
open Go.RowKit

theorem evE_eq {e : Env} {x : Operand} {v : Value} (h : ev e x = some v) : evE e x = v := by rw [evE, h, Option.getD_some]

/-! ### Facts on types, as closed equations -/
def aggB (P : Program) (t : TypeId) : Option Bool := (P.underlying t).map fun d => match d with
  | .struct _ | .array _ _ => true
  | _ => false
def sizeB (P : Program) (t : TypeId) : Option Nat := (P.info? t).map (·.size)
def zeroB (P : Program) (t : TypeId) : Option Value := (P.info? t).bind (·.zero)
/-- The offset of a struct's field (of a type that has cells), and its type. -/
def fieldB (P : Program) (s : TypeId) (f : Nat) : Option (Nat × TypeId) := match P.underlying s with
  | some (.struct fs) => match fs[f]? with
    | some fl => match sizeB P fl.type with
      | some (_ + 1) => some (fl.offset, fl.type)
      | _ => none
    | none => none
  | _ => none
def arrB (P : Program) (t : TypeId) : Option (Nat × TypeId × Nat) := match P.underlying t with
  | some (.array n el) => (sizeB P el).map fun s => (n, el, s)
  | _ => none
def slcB (P : Program) (t : TypeId) : Option (TypeId × Nat) := match P.underlying t with
  | some (.slice el) => (sizeB P el).map fun s => (el, s)
  | _ => none

section
variable {P : Program} {e : Env} {w : World} {dst : Option Tmp} {ty : TypeId} {pos : String} {af : Array Edge} {gu : Option (Nat × Bool)} {x y z : Operand} {v u : Value} {k : IntKind} {m n c : Int} {t s tt : TypeId}

theorem sizeB_some {t : TypeId} {n : Nat} (h : sizeB P t = some n) : ∃ i, P.info? t = some i ∧ i.size = n := by
  unfold sizeB at h
  simpa using h

theorem run_isAgg {b : Bool} (h : aggB P t = some b) : (isAgg t).run P w = .ok b w := by
  unfold aggB at h
  simp only [Option.map_eq_some_iff] at h
  obtain ⟨d, hd, hb⟩ := h
  unfold isAgg
  rw [Sem.run_bind, run_underlying hd w, Result.andThen_ok]
  cases d <;> simp_all
theorem run_sizeOf {n : Nat} (h : sizeB P t = some n) : (sizeOf t).run P w = .ok n w := by
  obtain ⟨i, hi, hn⟩ := sizeB_some h
  simp [sizeOf, typeInfo, hi, hn]
theorem run_zeroValue {v : Value} (h : zeroB P t = some v) : (zeroValue t).run P w = .ok v w := by
  unfold zeroB at h
  cases hi : P.info? t with
  | none => simp [hi] at h
  | some i =>
    have hz : i.zero = some v := by simpa [hi] using h
    simp [zeroValue, typeInfo, hi, hz]

/-! ### Values -/
theorem r_move (hx : ev e x = some v) : (execOp (evE e) ⟨dst, .move x, ty, pos, af, gu⟩).run P w = .ok (.value v) w := by
  show Sem.run P (pure (Next.value (evE e x))) w = _
  rw [evE_eq hx]; rfl
theorem r_assign (hx : ev e x = some v) : (execOp (evE e) ⟨dst, .assign x, ty, pos, af, gu⟩).run P w = .ok (.value v) w := by
  show Sem.run P (pure (Next.value (evE e x))) w = _
  rw [evE_eq hx]; rfl
theorem r_pickT (hx : ev e x = some (.bool true)) (hy : ev e y = some v) : (execOp (evE e) ⟨dst, .pick x y z, ty, pos, af, gu⟩).run P w = .ok (.value v) w := by
  show Sem.run P (do pure (Next.value (if ← asBool (evE e x) then evE e y else evE e z))) w = _
  rw [evE_eq hx, evE_eq hy]; rfl
theorem r_pickF (hx : ev e x = some (.bool false)) (hz : ev e z = some v) : (execOp (evE e) ⟨dst, .pick x y z, ty, pos, af, gu⟩).run P w = .ok (.value v) w := by
  show Sem.run P (do pure (Next.value (if ← asBool (evE e x) then evE e y else evE e z))) w = _
  rw [evE_eq hx, evE_eq hz]; rfl
/-- Of a Bool that is not decided: both are there. -/
theorem r_pick {b p q : Bool} (hx : ev e x = some (.bool b)) (hy : ev e y = some (.bool p)) (hz : ev e z = some (.bool q)) :
    (execOp (evE e) ⟨dst, .pick x y z, ty, pos, af, gu⟩).run P w = .ok (.value (.bool (bif b then p else q))) w := by
  cases b
  · exact r_pickF hx hz
  · exact r_pickT hx hy
theorem r_lss (hx : ev e x = some (.int k m)) (hy : ev e y = some (.int k n)) : (execOp (evE e) ⟨dst, .binOp .lss t x y s, ty, pos, af, gu⟩).run P w = .ok (.value (.bool (decide (m < n)))) w := by
  show Sem.run P (do pure (Next.value (← (do eqGuard .lss t x y (evE e x) (evE e y); binOp .lss t (evE e x) (evE e y))))) w = _
  rw [evE_eq hx, evE_eq hy]; cases k <;> rfl
theorem r_leq (hx : ev e x = some (.int k m)) (hy : ev e y = some (.int k n)) : (execOp (evE e) ⟨dst, .binOp .leq t x y s, ty, pos, af, gu⟩).run P w = .ok (.value (.bool (decide (m ≤ n)))) w := by
  show Sem.run P (do pure (Next.value (← (do eqGuard .leq t x y (evE e x) (evE e y); binOp .leq t (evE e x) (evE e y))))) w = _
  rw [evE_eq hx, evE_eq hy]; cases k <;> rfl
theorem r_gtr (hx : ev e x = some (.int k m)) (hy : ev e y = some (.int k n)) : (execOp (evE e) ⟨dst, .binOp .gtr t x y s, ty, pos, af, gu⟩).run P w = .ok (.value (.bool (decide (m > n)))) w := by
  show Sem.run P (do pure (Next.value (← (do eqGuard .gtr t x y (evE e x) (evE e y); binOp .gtr t (evE e x) (evE e y))))) w = _
  rw [evE_eq hx, evE_eq hy]; cases k <;> rfl
theorem r_geq (hx : ev e x = some (.int k m)) (hy : ev e y = some (.int k n)) : (execOp (evE e) ⟨dst, .binOp .geq t x y s, ty, pos, af, gu⟩).run P w = .ok (.value (.bool (decide (m ≥ n)))) w := by
  show Sem.run P (do pure (Next.value (← (do eqGuard .geq t x y (evE e x) (evE e y); binOp .geq t (evE e x) (evE e y))))) w = _
  rw [evE_eq hx, evE_eq hy]; cases k <;> rfl
theorem r_eql (hx : ev e x = some (.int k m)) (hy : ev e y = some (.int k n)) : (execOp (evE e) ⟨dst, .binOp .eql t x y s, ty, pos, af, gu⟩).run P w = .ok (.value (.bool (m == n))) w := by
  show Sem.run P (do pure (Next.value (← (do eqGuard .eql t x y (evE e x) (evE e y); binOp .eql t (evE e x) (evE e y))))) w = _
  rw [evE_eq hx, evE_eq hy]; cases k <;> rfl
theorem r_neq (hx : ev e x = some (.int k m)) (hy : ev e y = some (.int k n)) : (execOp (evE e) ⟨dst, .binOp .neq t x y s, ty, pos, af, gu⟩).run P w = .ok (.value (.bool (m != n))) w := by
  show Sem.run P (do pure (Next.value (← (do eqGuard .neq t x y (evE e x) (evE e y); binOp .neq t (evE e x) (evE e y))))) w = _
  rw [evE_eq hx, evE_eq hy]; cases k <;> rfl
/-- .. of numbers: the Bool is told. -/
theorem r_lssC {b : Bool} (hx : ev e x = some (.int k m)) (hy : ev e y = some (.int k n)) (hb : decide (m < n) = b) : (execOp (evE e) ⟨dst, .binOp .lss t x y s, ty, pos, af, gu⟩).run P w = .ok (.value (.bool b)) w := by rw [← hb]; exact r_lss hx hy
theorem r_leqC {b : Bool} (hx : ev e x = some (.int k m)) (hy : ev e y = some (.int k n)) (hb : decide (m ≤ n) = b) : (execOp (evE e) ⟨dst, .binOp .leq t x y s, ty, pos, af, gu⟩).run P w = .ok (.value (.bool b)) w := by rw [← hb]; exact r_leq hx hy
theorem r_gtrC {b : Bool} (hx : ev e x = some (.int k m)) (hy : ev e y = some (.int k n)) (hb : decide (m > n) = b) : (execOp (evE e) ⟨dst, .binOp .gtr t x y s, ty, pos, af, gu⟩).run P w = .ok (.value (.bool b)) w := by rw [← hb]; exact r_gtr hx hy
theorem r_geqC {b : Bool} (hx : ev e x = some (.int k m)) (hy : ev e y = some (.int k n)) (hb : decide (m ≥ n) = b) : (execOp (evE e) ⟨dst, .binOp .geq t x y s, ty, pos, af, gu⟩).run P w = .ok (.value (.bool b)) w := by rw [← hb]; exact r_geq hx hy
theorem r_eqlC {b : Bool} (hx : ev e x = some (.int k m)) (hy : ev e y = some (.int k n)) (hb : (m == n) = b) : (execOp (evE e) ⟨dst, .binOp .eql t x y s, ty, pos, af, gu⟩).run P w = .ok (.value (.bool b)) w := by rw [← hb]; exact r_eql hx hy
theorem r_neqC {b : Bool} (hx : ev e x = some (.int k m)) (hy : ev e y = some (.int k n)) (hb : (m != n) = b) : (execOp (evE e) ⟨dst, .binOp .neq t x y s, ty, pos, af, gu⟩).run P w = .ok (.value (.bool b)) w := by rw [← hb]; exact r_neq hx hy
theorem r_add (hx : ev e x = some (.int k m)) (hy : ev e y = some (.int k n)) (hc : k.wrap (m + n) = c) : (execOp (evE e) ⟨dst, .binOp .add t x y s, ty, pos, af, gu⟩).run P w = .ok (.value (.int k c)) w := by
  show Sem.run P (do pure (Next.value (← (do eqGuard .add t x y (evE e x) (evE e y); binOp .add t (evE e x) (evE e y))))) w = _
  rw [evE_eq hx, evE_eq hy, ← hc]; cases k <;> rfl
theorem r_sub (hx : ev e x = some (.int k m)) (hy : ev e y = some (.int k n)) (hc : k.wrap (m - n) = c) : (execOp (evE e) ⟨dst, .binOp .sub t x y s, ty, pos, af, gu⟩).run P w = .ok (.value (.int k c)) w := by
  show Sem.run P (do pure (Next.value (← (do eqGuard .sub t x y (evE e x) (evE e y); binOp .sub t (evE e x) (evE e y))))) w = _
  rw [evE_eq hx, evE_eq hy, ← hc]; cases k <;> rfl
theorem r_mul (hx : ev e x = some (.int k m)) (hy : ev e y = some (.int k n)) (hc : k.wrap (m * n) = c) : (execOp (evE e) ⟨dst, .binOp .mul t x y s, ty, pos, af, gu⟩).run P w = .ok (.value (.int k c)) w := by
  show Sem.run P (do pure (Next.value (← (do eqGuard .mul t x y (evE e x) (evE e y); binOp .mul t (evE e x) (evE e y))))) w = _
  rw [evE_eq hx, evE_eq hy, ← hc]; cases k <;> rfl
theorem r_quo (hx : ev e x = some (.int k m)) (hy : ev e y = some (.int k n)) (hn : n ≠ 0) (hc : k.wrap (m.tdiv n) = c) : (execOp (evE e) ⟨dst, .binOp .quo t x y s, ty, pos, af, gu⟩).run P w = .ok (.value (.int k c)) w := by
  show Sem.run P (do pure (Next.value (← (do eqGuard .quo t x y (evE e x) (evE e y); binOp .quo t (evE e x) (evE e y))))) w = _
  rw [evE_eq hx, evE_eq hy, ← hc]
  have : (binOp .quo t (.int k m) (.int k n)).run P w = .ok (.int k (k.wrap (m.tdiv n))) w := by
    show (if k ≠ k then stuck _ else Op.intDiv .quo k m n : Sem Value).run P w = _
    rw [if_neg (fun h => h rfl), Op.intDiv, if_neg hn]; rfl
  simp only [Sem.run_bind, show (eqGuard .quo t x y (Value.int k m) (Value.int k n)).run P w = .ok () w from rfl, Result.andThen_ok, this]; rfl
theorem r_rem (hx : ev e x = some (.int k m)) (hy : ev e y = some (.int k n)) (hn : n ≠ 0) (hc : m.tmod n = c) : (execOp (evE e) ⟨dst, .binOp .rem t x y s, ty, pos, af, gu⟩).run P w = .ok (.value (.int k c)) w := by
  show Sem.run P (do pure (Next.value (← (do eqGuard .rem t x y (evE e x) (evE e y); binOp .rem t (evE e x) (evE e y))))) w = _
  rw [evE_eq hx, evE_eq hy, ← hc]
  have : (binOp .rem t (.int k m) (.int k n)).run P w = .ok (.int k (m.tmod n)) w := by
    show (if k ≠ k then stuck _ else Op.intDiv .rem k m n : Sem Value).run P w = _
    rw [if_neg (fun h => h rfl), Op.intDiv, if_neg hn]; rfl
  simp only [Sem.run_bind, show (eqGuard .rem t x y (Value.int k m) (Value.int k n)).run P w = .ok () w from rfl, Result.andThen_ok, this]; rfl
theorem r_and (hx : ev e x = some (.int k m)) (hy : ev e y = some (.int k n)) (hc : k.wrap (BitVec.ofInt k.bits m &&& BitVec.ofInt k.bits n).toNat = c) : (execOp (evE e) ⟨dst, .binOp .and t x y s, ty, pos, af, gu⟩).run P w = .ok (.value (.int k c)) w := by
  show Sem.run P (do pure (Next.value (← (do eqGuard .and t x y (evE e x) (evE e y); binOp .and t (evE e x) (evE e y))))) w = _
  rw [evE_eq hx, evE_eq hy, ← hc]; cases k <;> rfl
theorem r_or (hx : ev e x = some (.int k m)) (hy : ev e y = some (.int k n)) (hc : k.wrap (BitVec.ofInt k.bits m ||| BitVec.ofInt k.bits n).toNat = c) : (execOp (evE e) ⟨dst, .binOp .or t x y s, ty, pos, af, gu⟩).run P w = .ok (.value (.int k c)) w := by
  show Sem.run P (do pure (Next.value (← (do eqGuard .or t x y (evE e x) (evE e y); binOp .or t (evE e x) (evE e y))))) w = _
  rw [evE_eq hx, evE_eq hy, ← hc]; cases k <;> rfl
theorem r_shl {j : IntKind} (hx : ev e x = some (.int k m)) (hy : ev e y = some (.int j n)) (hn : ¬ n < 0) (hc : k.wrap (m * 2 ^ (min n.toNat k.bits)) = c) : (execOp (evE e) ⟨dst, .binOp .shl t x y s, ty, pos, af, gu⟩).run P w = .ok (.value (.int k c)) w := by
  show Sem.run P (do pure (Next.value (← (do eqGuard .shl t x y (evE e x) (evE e y); binOp .shl t (evE e x) (evE e y))))) w = _
  rw [evE_eq hx, evE_eq hy, ← hc]
  have : (binOp .shl t (.int k m) (.int j n)).run P w = .ok (.int k (k.wrap (m * 2 ^ (min n.toNat k.bits)))) w := by
    show (Op.shift .shl k m j n).run P w = _
    rw [Op.shift, if_neg hn]; rfl
  simp only [Sem.run_bind, show (eqGuard .shl t x y (Value.int k m) (Value.int j n)).run P w = .ok () w from rfl, Result.andThen_ok, this]; rfl
theorem r_shr {j : IntKind} (hx : ev e x = some (.int k m)) (hy : ev e y = some (.int j n)) (hn : ¬ n < 0) (hc : m.fdiv (2 ^ (min n.toNat k.bits)) = c) : (execOp (evE e) ⟨dst, .binOp .shr t x y s, ty, pos, af, gu⟩).run P w = .ok (.value (.int k c)) w := by
  show Sem.run P (do pure (Next.value (← (do eqGuard .shr t x y (evE e x) (evE e y); binOp .shr t (evE e x) (evE e y))))) w = _
  rw [evE_eq hx, evE_eq hy, ← hc]
  have : (binOp .shr t (.int k m) (.int j n)).run P w = .ok (.int k (m.fdiv (2 ^ (min n.toNat k.bits)))) w := by
    show (Op.shift .shr k m j n).run P w = _
    rw [Op.shift, if_neg hn]; rfl
  simp only [Sem.run_bind, show (eqGuard .shr t x y (Value.int k m) (Value.int j n)).run P w = .ok () w from rfl, Result.andThen_ok, this]; rfl
/-- '==' of what 'Op.equal' tells. -/
theorem r_eq {b : Bool} (hx : ev e x = some v) (hy : ev e y = some u) (hg : ∀ w, (eqGuard .eql t x y v u).run P w = .ok () w) (hb : ∀ w, (binOp .eql t v u).run P w = .ok (.bool b) w) :
    (execOp (evE e) ⟨dst, .binOp .eql t x y s, ty, pos, af, gu⟩).run P w = .ok (.value (.bool b)) w := by
  show Sem.run P (do pure (Next.value (← (do eqGuard .eql t x y (evE e x) (evE e y); binOp .eql t (evE e x) (evE e y))))) w = _
  rw [evE_eq hx, evE_eq hy]
  simp only [Sem.run_bind, hg, hb, Result.andThen_ok]; rfl
theorem r_ne {b : Bool} (hx : ev e x = some v) (hy : ev e y = some u) (hg : ∀ w, (eqGuard .neq t x y v u).run P w = .ok () w) (hb : ∀ w, (binOp .neq t v u).run P w = .ok (.bool b) w) :
    (execOp (evE e) ⟨dst, .binOp .neq t x y s, ty, pos, af, gu⟩).run P w = .ok (.value (.bool b)) w := by
  show Sem.run P (do pure (Next.value (← (do eqGuard .neq t x y (evE e x) (evE e y); binOp .neq t (evE e x) (evE e y))))) w = _
  rw [evE_eq hx, evE_eq hy]
  simp only [Sem.run_bind, hg, hb, Result.andThen_ok]; rfl
theorem run_eqBool {d : Nat} {p q : Bool} (hu : P.underlying t = some .bool) : (Op.equalIn (d + 1) t (.bool p) (.bool q)).run P w = .ok (p == q) w := by
  simp only [Op.equalIn, Sem.run_bind, run_underlying hu, Result.andThen_ok]; rfl
theorem run_equal {b : Bool} (h : (Op.equalIn (9999 + 1) t v u).run P w = .ok b w) : (Op.equal t v u).run P w = .ok b w := h
theorem r_eqB {p q : Bool} (hu : P.underlying t = some .bool) (hx : ev e x = some (.bool p)) (hy : ev e y = some (.bool q)) :
    (execOp (evE e) ⟨dst, .binOp .eql t x y s, ty, pos, af, gu⟩).run P w = .ok (.value (.bool (p == q))) w :=
  r_eq hx hy (fun _ => rfl) (fun w => by
    show (do pure (.bool (← Op.equal t (.bool p) (.bool q))) : Sem Value).run P w = _
    rw [Sem.run_bind, run_equal (run_eqBool hu)]; rfl)
theorem r_neB {p q : Bool} (hu : P.underlying t = some .bool) (hx : ev e x = some (.bool p)) (hy : ev e y = some (.bool q)) :
    (execOp (evE e) ⟨dst, .binOp .neq t x y s, ty, pos, af, gu⟩).run P w = .ok (.value (.bool (p != q))) w :=
  r_ne hx hy (fun _ => rfl) (fun w => by
    show (do pure (.bool (!(← Op.equal t (.bool p) (.bool q)))) : Sem Value).run P w = _
    rw [Sem.run_bind, run_equal (run_eqBool hu)]; rfl)
theorem r_not {b : Bool} (hx : ev e x = some (.bool b)) : (execOp (evE e) ⟨dst, .unOp .not t x, ty, pos, af, gu⟩).run P w = .ok (.value (.bool (!b))) w := by
  show Sem.run P (do pure (Next.value (← Op.unary .not (evE e x)))) w = _
  rw [evE_eq hx]; rfl
theorem r_neg (hx : ev e x = some (.int k m)) (hc : k.wrap (0 - m) = c) : (execOp (evE e) ⟨dst, .unOp .neg t x, ty, pos, af, gu⟩).run P w = .ok (.value (.int k c)) w := by
  show Sem.run P (do pure (Next.value (← Op.unary .neg (evE e x)))) w = _
  rw [evE_eq hx, ← hc]; rfl
theorem r_conv {j i : IntKind} (h1 : P.underlying t = some (.int i)) (h2 : P.underlying s = some (.int j)) (hx : ev e x = some (.int k m)) (hc : j.wrap m = c) : (execOp (evE e) ⟨dst, .convert t s x, ty, pos, af, gu⟩).run P w = .ok (.value (.int j c)) w := by
  show Sem.run P (do pure (Next.value (← convert t s (evE e x)))) w = _
  rw [evE_eq hx, ← hc]
  have : (convert t s (.int k m)).run P w = .ok (.int j (j.wrap m)) w := by
    unfold convert
    simp only [Sem.run_bind, run_underlying h1, run_underlying h2, Result.andThen_ok]; rfl
  simp only [Sem.run_bind, this, Result.andThen_ok]; rfl
theorem r_extract {vs : Array Value} {i : Nat} (hx : ev e x = some (.tuple vs)) (hv : vs[i]? = some v) : (execOp (evE e) ⟨dst, .extract x i, ty, pos, af, gu⟩).run P w = .ok (.value v) w := by
  show Sem.run P (do pure (Next.value (← Instr.extract (evE e x) i))) w = _
  rw [evE_eq hx, Instr.extract, hv]; rfl
theorem run_part {cs : Array Value} {o : Nat} (ha : aggB P t = some false) (hv : cs[o]? = some v) : (part t cs o).run P w = .ok v w := by
  unfold part
  rw [Sem.run_bind, run_isAgg ha, Result.andThen_ok, if_neg Bool.false_ne_true, hv]; rfl
theorem run_partA {cs : Array Value} {o sz : Nat} (ha : aggB P t = some true) (hs : sizeB P t = some sz) : (part t cs o).run P w = .ok (.agg (cs.extract o (o + sz))) w := by
  unfold part
  rw [Sem.run_bind, run_isAgg ha, Result.andThen_ok, if_pos rfl, Sem.run_bind, run_sizeOf hs]; rfl
theorem fieldB_some {f o : Nat} (h : fieldB P s f = some (o, t)) : ∃ fs fl, P.underlying s = some (.struct fs) ∧ fs[f]? = some fl ∧ fl.offset = o ∧ fl.type = t ∧ ∃ m, sizeB P t = some (m + 1) := by
  unfold fieldB at h
  split at h
  · rename_i fs hu
    split at h
    · rename_i fl hf
      split at h
      · rename_i m hm
        simp only [Option.some.injEq, Prod.mk.injEq] at h
        exact ⟨fs, fl, hu, hf, h.1, h.2, m, by rw [← h.2]; exact hm⟩
      · cases h
    · cases h
  · cases h
theorem r_field {cs : Array Value} {f o : Nat} (hF : fieldB P s f = some (o, t)) (ha : aggB P t = some false) (hx : ev e x = some (.agg cs)) (hv : cs[o]? = some v) : (execOp (evE e) ⟨dst, .field s x f, ty, pos, af, gu⟩).run P w = .ok (.value v) w := by
  obtain ⟨fs, fl, hu, hf, rfl, rfl, m, hm⟩ := fieldB_some hF
  show Sem.run P (do pure (Next.value (← Instr.field s (evE e x) f))) w = _
  rw [evE_eq hx]
  simp only [Instr.field, Sem.run_bind, run_underlying hu, Result.andThen_ok, hf, asAgg, Sem.run_pure, run_part ha hv]
theorem r_fieldA {cs cs' : Array Value} {f o sz : Nat} (hF : fieldB P s f = some (o, t)) (ha : aggB P t = some true) (hs : sizeB P t = some sz) (hx : ev e x = some (.agg cs)) (he : cs.extract o (o + sz) = cs') : (execOp (evE e) ⟨dst, .field s x f, ty, pos, af, gu⟩).run P w = .ok (.value (.agg cs')) w := by
  subst he
  obtain ⟨fs, fl, hu, hf, rfl, rfl, m, hm⟩ := fieldB_some hF
  show Sem.run P (do pure (Next.value (← Instr.field s (evE e x) f))) w = _
  rw [evE_eq hx]
  simp only [Instr.field, Sem.run_bind, run_underlying hu, Result.andThen_ok, hf, asAgg, Sem.run_pure, run_partA ha hs]
theorem arrB_some {len sz : Nat} (h : arrB P t = some (len, s, sz)) : P.underlying t = some (.array len s) ∧ sizeB P s = some sz := by
  unfold arrB at h
  split at h
  · rename_i n el hu
    simp only [Option.map_eq_some_iff, Prod.mk.injEq] at h
    obtain ⟨sz', h1, rfl, rfl, rfl⟩ := h
    exact ⟨hu, h1⟩
  · cases h
theorem slcB_some {sz : Nat} (h : slcB P t = some (s, sz)) : P.underlying t = some (.slice s) ∧ sizeB P s = some sz := by
  unfold slcB at h
  split at h
  · rename_i el hu
    simp only [Option.map_eq_some_iff, Prod.mk.injEq] at h
    obtain ⟨sz', h1, rfl, rfl⟩ := h
    exact ⟨hu, h1⟩
  · cases h
/-- An element of an array by value. -/
theorem r_index {cs : Array Value} {len sz i : Nat} (hA : arrB P t = some (len, s, sz)) (ha : aggB P s = some false) (hx : ev e x = some (.agg cs)) (hy : ev e y = some (.int k m)) (hm : m = (i : Int)) (hi : i < len) (hv : cs[i * sz]? = some v) :
    (execOp (evE e) ⟨dst, .index t x y, ty, pos, af, gu⟩).run P w = .ok (.value v) w := by
  obtain ⟨hu, hs⟩ := arrB_some hA
  show Sem.run P (do pure (Next.value (← Instr.index t (evE e x) (evE e y)))) w = _
  rw [evE_eq hx, evE_eq hy, hm]
  simp only [Instr.index, asIntOf, Sem.run_bind, Sem.run_pure, Result.andThen_ok, run_underlying hu]
  rw [if_pos ⟨by omega, by omega⟩]
  simp only [Sem.run_bind, run_sizeOf hs, Result.andThen_ok, Int.toNat_natCast, run_part ha hv]
theorem r_indexA {cs cs' : Array Value} {len sz i : Nat} (hA : arrB P t = some (len, s, sz)) (ha : aggB P s = some true) (hx : ev e x = some (.agg cs)) (hy : ev e y = some (.int k m)) (hm : m = (i : Int)) (hi : i < len) (he : cs.extract (i * sz) (i * sz + sz) = cs') :
    (execOp (evE e) ⟨dst, .index t x y, ty, pos, af, gu⟩).run P w = .ok (.value (.agg cs')) w := by
  subst he
  obtain ⟨hu, hs⟩ := arrB_some hA
  show Sem.run P (do pure (Next.value (← Instr.index t (evE e x) (evE e y)))) w = _
  rw [evE_eq hx, evE_eq hy, hm]
  simp only [Instr.index, asIntOf, Sem.run_bind, Sem.run_pure, Result.andThen_ok, run_underlying hu]
  rw [if_pos ⟨by omega, by omega⟩]
  simp only [Sem.run_bind, run_sizeOf hs, Result.andThen_ok, Int.toNat_natCast, run_partA ha hs]

/-! ### Addresses -/
theorem add_none (b o i : Nat) : (⟨b, o, none⟩ : Addr).add i = ⟨b, o + i, none⟩ := by unfold Addr.add; split <;> simp_all
theorem r_fieldAddr {b o f p q : Nat} (hF : fieldB P s f = some (p, t)) (hx : ev e x = some (.pointer (some ⟨b, o, none⟩))) (hq : o + p = q) : (execOp (evE e) ⟨dst, .fieldAddr s x f, ty, pos, af, gu⟩).run P w = .ok (.value (.pointer (some ⟨b, q, none⟩))) w := by
  obtain ⟨fs, fl, hu, hf, rfl, rfl, m, hm⟩ := fieldB_some hF
  show Sem.run P (do pure (Next.value (← Instr.fieldAt s (evE e x) f))) w = _
  rw [evE_eq hx, ← hq]
  simp only [Instr.fieldAt, Instr.sureAddr, fieldPlace, Sem.run_bind, Sem.run_pure, run_underlying hu, Result.andThen_ok, hf, run_sizeOf hm]
  rw [if_neg (Nat.succ_ne_zero m)]
  simp only [Sem.run_pure, Result.andThen_ok, add_none]
theorem r_indexAddr {b o len sz i q : Nat} (hA : arrB P t = some (len, s, sz)) (hx : ev e x = some (.pointer (some ⟨b, o, none⟩))) (hy : ev e y = some (.int k m)) (hm : m = (i : Int)) (hi : i < len) (hq : o + i * sz = q) :
    (execOp (evE e) ⟨dst, .indexAddr t x y, ty, pos, af, gu⟩).run P w = .ok (.value (.pointer (some ⟨b, q, none⟩))) w := by
  obtain ⟨hu, hs⟩ := arrB_some hA
  show Sem.run P (do pure (Next.value (← Instr.indexAt t (evE e x) (evE e y)))) w = _
  rw [evE_eq hx, evE_eq hy, hm, ← hq]
  simp only [Instr.indexAt, Instr.sureAddr, asIntOf, Sem.run_bind, Sem.run_pure, Result.andThen_ok, run_underlying hu]
  rw [if_pos ⟨by omega, by omega⟩]
  simp only [Sem.run_bind, run_sizeOf hs, Result.andThen_ok, Int.toNat_natCast, Sem.run_pure, add_none]
theorem r_indexAddrS {b o len cap sz i q : Nat} (hA : slcB P t = some (s, sz)) (hx : ev e x = some (.slice (some ⟨b, o, none⟩) len cap)) (hy : ev e y = some (.int k m)) (hm : m = (i : Int)) (hi : i < len) (hq : o + i * sz = q) :
    (execOp (evE e) ⟨dst, .indexAddr t x y, ty, pos, af, gu⟩).run P w = .ok (.value (.pointer (some ⟨b, q, none⟩))) w := by
  obtain ⟨hu, hs⟩ := slcB_some hA
  show Sem.run P (do pure (Next.value (← Instr.indexAt t (evE e x) (evE e y)))) w = _
  rw [evE_eq hx, evE_eq hy, hm, ← hq]
  simp only [Instr.indexAt, asIntOf, Sem.run_bind, Sem.run_pure, Result.andThen_ok, run_underlying hu]
  rw [if_pos ⟨by omega, by omega⟩]
  simp only [Sem.run_bind, run_sizeOf hs, Result.andThen_ok, Int.toNat_natCast, Sem.run_pure, add_none]
theorem r_nilCheck {a : Addr} (hx : ev e x = some (.pointer (some a))) : (execOp (evE e) ⟨dst, .nilCheck x, ty, pos, af, gu⟩).run P w = .ok (.value (.pointer (some a))) w := by
  unfold execOp
  simp only [evE_eq hx]; rfl

/-! ### Memory -/
theorem r_load {b o : Nat} {cs : Array Value} {fr : Nat × Nat} (ha : aggB P t = some false) (hx : ev e x = some (.pointer (some ⟨b, o, none⟩))) (hb : w.heap[b]? = some (.cells cs tt fr)) (hv : cs[o]? = some v) :
    (execOp (evE e) ⟨dst, .load t x, ty, pos, af, gu⟩).run P w = .ok (.value v) w := by
  show Sem.run P (do pure (Next.value (← Instr.loadAt t (evE e x)))) w = _
  rw [evE_eq hx]
  have hc : w.cell? ⟨b, o, none⟩ = some v := by rw [cell_of_row w b o cs tt fr hb]; exact hv
  simp only [Instr.loadAt, Instr.sureAddr, loadVar, Sem.run_bind, Sem.run_pure, Result.andThen_ok, run_isAgg ha]
  rw [if_neg Bool.false_ne_true, run_load, hc]; rfl
/-- .. a cell of which alone is known. -/
theorem r_loadC {b o : Nat} (ha : aggB P t = some false) (hx : ev e x = some (.pointer (some ⟨b, o, none⟩))) (hc : w.cell? ⟨b, o, none⟩ = some v) :
    (execOp (evE e) ⟨dst, .load t x, ty, pos, af, gu⟩).run P w = .ok (.value v) w := by
  show Sem.run P (do pure (Next.value (← Instr.loadAt t (evE e x)))) w = _
  rw [evE_eq hx]
  simp only [Instr.loadAt, Instr.sureAddr, loadVar, Sem.run_bind, Sem.run_pure, Result.andThen_ok, run_isAgg ha]
  rw [if_neg Bool.false_ne_true, run_load, hc]; rfl
theorem run_loadRange {b o sz : Nat} {vs : List Value} (ha : aggB P t = some true) (hs : sizeB P t = some sz) (hl : vs.length = sz) (hc : ∀ j v, vs[j]? = some v → w.cell? ⟨b, o + j, none⟩ = some v) :
    (loadVar t ⟨b, o, none⟩).run P w = .ok (.agg vs.toArray) w := by
  have h1 : (loadCells ⟨b, o, none⟩ vs.length).run P w = .ok vs.toArray w := run_loadCells_list (P := P) w ⟨b, o, none⟩ vs (fun j v hv => by rw [add_none]; exact hc j v hv)
  simp only [loadVar, Sem.run_bind, run_isAgg ha, Result.andThen_ok]
  rw [if_pos trivial]
  simp only [Sem.run_bind, run_sizeOf hs, Result.andThen_ok, ← hl, h1]; rfl
/-- A whole block. -/
theorem r_loadW {b sz : Nat} {cs : Array Value} {fr : Nat × Nat} (ha : aggB P t = some true) (hs : sizeB P t = some sz) (hx : ev e x = some (.pointer (some ⟨b, 0, none⟩))) (hb : w.heap[b]? = some (.cells cs tt fr)) (hl : cs.size = sz) :
    (execOp (evE e) ⟨dst, .load t x, ty, pos, af, gu⟩).run P w = .ok (.value (.agg cs)) w := by
  show Sem.run P (do pure (Next.value (← Instr.loadAt t (evE e x)))) w = _
  rw [evE_eq hx]
  have := run_loadRange (P := P) (w := w) (b := b) (o := 0) (vs := cs.toList) ha hs (by simpa using hl) (fun j v hv => by
    rw [cell_of_row w b _ cs tt fr hb, Nat.zero_add]; simpa using hv)
  simp only [Instr.loadAt, Instr.sureAddr, Sem.run_bind, Sem.run_pure, Result.andThen_ok, this]
/-- A part of a block. -/
theorem r_loadP {b o sz : Nat} {cs cs' : Array Value} {fr : Nat × Nat} (ha : aggB P t = some true) (hs : sizeB P t = some sz) (hx : ev e x = some (.pointer (some ⟨b, o, none⟩))) (hb : w.heap[b]? = some (.cells cs tt fr)) (hl : o + sz ≤ cs.size) (he : cs.extract o (o + sz) = cs') :
    (execOp (evE e) ⟨dst, .load t x, ty, pos, af, gu⟩).run P w = .ok (.value (.agg cs')) w := by
  subst he
  show Sem.run P (do pure (Next.value (← Instr.loadAt t (evE e x)))) w = _
  rw [evE_eq hx]
  have := run_loadRange (P := P) (w := w) (b := b) (o := o) (vs := (cs.extract o (o + sz)).toList) ha hs (by simp; omega) (fun j v hv => by
    rw [cell_of_row w b _ cs tt fr hb]
    simp only [Array.getElem?_toList, Array.getElem?_extract] at hv
    split at hv
    · exact hv
    · cases hv)
  simp only [Instr.loadAt, Instr.sureAddr, Sem.run_bind, Sem.run_pure, Result.andThen_ok, this]
/-- A range of cells that are known one by one. -/
theorem r_loadR {b o sz : Nat} {vs : List Value} (ha : aggB P t = some true) (hs : sizeB P t = some sz) (hx : ev e x = some (.pointer (some ⟨b, o, none⟩))) (hl : vs.length = sz) (hc : ∀ j v, vs[j]? = some v → w.cell? ⟨b, o + j, none⟩ = some v) :
    (execOp (evE e) ⟨dst, .load t x, ty, pos, af, gu⟩).run P w = .ok (.value (.agg vs.toArray)) w := by
  show Sem.run P (do pure (Next.value (← Instr.loadAt t (evE e x)))) w = _
  rw [evE_eq hx]
  simp only [Instr.loadAt, Instr.sureAddr, Sem.run_bind, Sem.run_pure, Result.andThen_ok, run_loadRange ha hs hl hc]
theorem r_alloc (hz : zeroB P t = some v) : (execOp (evE e) ⟨dst, .alloc t, ty, pos, af, gu⟩).run P w = .ok (.value (.pointer (some ⟨w.heap.size, 0, none⟩))) (w.alloc (.cells v.cells t)) := by
  show Sem.run P (do pure (Next.value (← Instr.alloc t true (.tuple #[])))) w = _
  simp only [Instr.alloc, Sem.run_bind, run_zeroValue hz, Result.andThen_ok]; rfl
theorem r_box (hx : ev e x = some v) : (execOp (evE e) ⟨dst, .box t x, ty, pos, af, gu⟩).run P w = .ok (.value (.pointer (some ⟨w.heap.size, 0, none⟩))) (w.alloc (.cells v.cells t)) := by
  show Sem.run P (do pure (Next.value (← Instr.box t (evE e x)))) w = _
  rw [evE_eq hx]; rfl
end
end Go.Proofs.Ytjelaoblpchmmaa
