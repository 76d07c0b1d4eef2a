/-
  Plain laws of bands: the state, one step, a pick.
-/
import Derived.Test.YtkfilmdnpocinaaFwRow
namespace Go.Proofs.Ytkfilmdnpocinaa
set_option linter.unusedVariables false
set_option linter.unusedSimpArgs false
/-- Credits, and which one it is now. -/
structure St where
  c0 : Int
  c1 : Int
  c2 : Int
  now : Int
structure WOK (w0 w1 w2 : Int) : Prop where
  l0 : 1024 ≤ w0
  r0 : w0 ≤ 1048576
  l1 : 1024 ≤ w1
  r1 : w1 ≤ 1048576
  l2 : 1024 ≤ w2
  r2 : w2 ≤ 1048576
structure Ok (w0 w1 w2 : Int) (s : St) : Prop where
  n : s.now = 0 ∨ s.now = 1 ∨ s.now = 2
  l0 : -65536 ≤ s.c0
  r0 : s.c0 ≤ w0
  l1 : -65536 ≤ s.c1
  r1 : s.c1 ≤ w1
  l2 : -65536 ≤ s.c2
  r2 : s.c2 ≤ w2
def St.cr (s : St) : Int := if s.now = 0 then s.c0 else if s.now = 1 then s.c1 else s.c2
def hasN (h0 h1 h2 : Bool) (n : Int) : Bool := if n = 0 then h0 else if n = 1 then h1 else h2
def good (h0 h1 h2 : Bool) (s : St) : Bool := hasN h0 h1 h2 s.now && decide (0 < s.cr)
def mn2 (c w : Int) : Int := if w < c + w then w else c + w
def nxt (w0 w1 w2 : Int) (s : St) : St := if s.now = 0 then ⟨s.c0, mn2 s.c1 w1, s.c2, 1⟩ else if s.now = 1 then ⟨s.c0, s.c1, mn2 s.c2 w2, 2⟩ else ⟨mn2 s.c0 w0, s.c1, s.c2, 0⟩
def meas (h0 h1 h2 : Bool) (s : St) : Nat := if good h0 h1 h2 s then 0 else
  if h0 then 3 * (1 - s.c0).toNat + (if s.now = 0 then 3 else if s.now = 1 then 2 else 1)
  else if h1 then 3 * (1 - s.c1).toNat + (if s.now = 1 then 3 else if s.now = 2 then 2 else 1)
  else 3 * (1 - s.c2).toNat + (if s.now = 2 then 3 else if s.now = 0 then 2 else 1)
def pickK (h0 h1 h2 : Bool) (w0 w1 w2 : Int) : Nat → St → St
  | 0, s => s
  | k + 1, s => if good h0 h1 h2 s then s else pickK h0 h1 h2 w0 w1 w2 k (nxt w0 w1 w2 s)
def pickS (h0 h1 h2 : Bool) (w0 w1 w2 : Int) (s : St) : St := if h0 || h1 || h2 then pickK h0 h1 h2 w0 w1 w2 (meas h0 h1 h2 s) s else s
def pickN (h0 h1 h2 : Bool) (w0 w1 w2 : Int) (s : St) : Int := if h0 || h1 || h2 then (pickS h0 h1 h2 w0 w1 w2 s).now else 0
def spE (m : Int) (s : St) : Int := if m < 1 ∨ m > 65536 ∨ s.cr ≤ 0 then 2 else 0
def spS (m : Int) (s : St) : St := if m < 1 ∨ m > 65536 ∨ s.cr ≤ 0 then s else if s.now = 0 then ⟨s.c0 - m, s.c1, s.c2, s.now⟩ else if s.now = 1 then ⟨s.c0, s.c1 - m, s.c2, s.now⟩ else ⟨s.c0, s.c1, s.c2 - m, s.now⟩

section
variable {h0 h1 h2 : Bool} {w0 w1 w2 : Int} {s : St}
theorem mn2_le (c w : Int) : mn2 c w ≤ w ∧ (c ≤ w → 0 ≤ w → c ≤ mn2 c w) := by unfold mn2; split <;> omega
theorem nxt_now (hn : s.now = 0 ∨ s.now = 1 ∨ s.now = 2) : (nxt w0 w1 w2 s).now = 0 ∨ (nxt w0 w1 w2 s).now = 1 ∨ (nxt w0 w1 w2 s).now = 2 := by
  unfold nxt; split; exact .inr (.inl rfl); split; exact .inr (.inr rfl); exact .inl rfl
theorem nxt_ok (hw : WOK w0 w1 w2) (h : Ok w0 w1 w2 s) : Ok w0 w1 w2 (nxt w0 w1 w2 s) := by
  obtain ⟨hn, l0, r0, l1, r1, l2, r2⟩ := h
  have a := mn2_le s.c0 w0; have b := mn2_le s.c1 w1; have c := mn2_le s.c2 w2
  have := hw.l0; have := hw.l1; have := hw.l2
  unfold nxt; split
  · exact ⟨.inr (.inl rfl), l0, r0, by dsimp only; omega, b.1, l2, r2⟩
  · split
    · exact ⟨.inr (.inr rfl), l0, r0, l1, r1, by dsimp only; omega, c.1⟩
    · exact ⟨.inl rfl, by dsimp only; omega, a.1, l1, r1, l2, r2⟩
theorem meas_good (h : good h0 h1 h2 s = true) : meas h0 h1 h2 s = 0 := by unfold meas; rw [if_pos h]
theorem mn2_pos {c w : Int} (hw : 1024 ≤ w) (h : ¬ 0 < mn2 c w) : c < 0 ∧ mn2 c w ≥ c + 1 := by revert h; unfold mn2; split <;> omega
theorem mn2_ge {c w : Int} (hw : 1024 ≤ w) (h : c ≤ 0) : mn2 c w ≥ c + 1 := by unfold mn2; split <;> omega
theorem meas_lt (ha : (h0 || h1 || h2) = true) (hw : WOK w0 w1 w2) (hn : s.now = 0 ∨ s.now = 1 ∨ s.now = 2) (h : good h0 h1 h2 s = false) : meas h0 h1 h2 (nxt w0 w1 w2 s) < meas h0 h1 h2 s := by
  have q0 := @mn2_pos s.c0 w0 hw.l0
  have q1 := @mn2_pos s.c1 w1 hw.l1
  have q2 := @mn2_pos s.c2 w2 hw.l2
  obtain ⟨c0, c1, c2, n⟩ := s
  dsimp only at hn q0 q1 q2
  unfold meas
  rw [h]
  rcases hn with rfl | rfl | rfl
  · simp only [nxt, if_true]
    by_cases g : good h0 h1 h2 ⟨c0, mn2 c1 w1, c2, 1⟩ = true
    · rw [g]; cases h0 <;> cases h1 <;> simp at ha ⊢ <;> omega
    · rw [Bool.not_eq_true] at g; rw [g]
      cases h0 <;> cases h1 <;> cases h2 <;> simp [good, hasN, St.cr] at g h ha ⊢ <;> omega
  · simp only [nxt, if_true, show ((1 : Int) = 0) = False by simp, if_false]
    by_cases g : good h0 h1 h2 ⟨c0, c1, mn2 c2 w2, 2⟩ = true
    · rw [g]; cases h0 <;> cases h1 <;> simp at ha ⊢ <;> omega
    · rw [Bool.not_eq_true] at g; rw [g]
      cases h0 <;> cases h1 <;> cases h2 <;> simp [good, hasN, St.cr] at g h ha ⊢ <;> omega
  · simp only [nxt, show ((2 : Int) = 0) = False by simp, show ((2 : Int) = 1) = False by simp, if_false]
    by_cases g : good h0 h1 h2 ⟨mn2 c0 w0, c1, c2, 0⟩ = true
    · rw [g]; cases h0 <;> cases h1 <;> simp at ha ⊢ <;> omega
    · rw [Bool.not_eq_true] at g; rw [g]
      cases h0 <;> cases h1 <;> cases h2 <;> simp [good, hasN, St.cr] at g h ha ⊢ <;> omega
theorem pickK_stable (ha : (h0 || h1 || h2) = true) (hw : WOK w0 w1 w2) : ∀ (k l : Nat) (s : St), (s.now = 0 ∨ s.now = 1 ∨ s.now = 2) → meas h0 h1 h2 s ≤ k → meas h0 h1 h2 s ≤ l → pickK h0 h1 h2 w0 w1 w2 k s = pickK h0 h1 h2 w0 w1 w2 l s
  | k, l, s, hn, hk, hl => by
    by_cases g : good h0 h1 h2 s = true
    · cases k <;> cases l <;> simp [pickK, g]
    · rw [Bool.not_eq_true] at g
      have hlt := meas_lt (w0 := w0) (w1 := w1) (w2 := w2) ha hw hn g
      cases k with
      | zero => omega
      | succ k =>
        cases l with
        | zero => omega
        | succ l =>
          simp only [pickK, g]
          exact pickK_stable ha hw k l _ (nxt_now hn) (by omega) (by omega)
theorem pickS_good (ha : (h0 || h1 || h2) = true) (h : good h0 h1 h2 s = true) : pickS h0 h1 h2 w0 w1 w2 s = s := by
  unfold pickS; rw [if_pos ha, meas_good h]; rfl
theorem pickS_step (ha : (h0 || h1 || h2) = true) (hw : WOK w0 w1 w2) (hn : s.now = 0 ∨ s.now = 1 ∨ s.now = 2) (h : good h0 h1 h2 s = false) : pickS h0 h1 h2 w0 w1 w2 s = pickS h0 h1 h2 w0 w1 w2 (nxt w0 w1 w2 s) := by
  have hlt := meas_lt (w0 := w0) (w1 := w1) (w2 := w2) ha hw hn h
  unfold pickS; rw [if_pos ha, if_pos ha]
  cases hm : meas h0 h1 h2 s with
  | zero => omega
  | succ k =>
    simp only [pickK, h]
    exact pickK_stable ha hw _ _ _ (nxt_now hn) (by omega) (Nat.le_refl _)
theorem pickS_none (ha : (h0 || h1 || h2) = false) : pickS h0 h1 h2 w0 w1 w2 s = s := by unfold pickS; rw [ha]; rfl
theorem pickN_none (ha : (h0 || h1 || h2) = false) : pickN h0 h1 h2 w0 w1 w2 s = 0 := by unfold pickN; rw [ha]; rfl
theorem pickN_some (ha : (h0 || h1 || h2) = true) : pickN h0 h1 h2 w0 w1 w2 s = (pickS h0 h1 h2 w0 w1 w2 s).now := by unfold pickN; rw [ha]; rfl
/-- What holds all the way holds of what is picked. -/
theorem pick_ind (ha : (h0 || h1 || h2) = true) (hw : WOK w0 w1 w2) (Q : St → Prop) (hn : ∀ s, Q s → s.now = 0 ∨ s.now = 1 ∨ s.now = 2) (step : ∀ s, Q s → good h0 h1 h2 s = false → Q (nxt w0 w1 w2 s)) :
    ∀ (k : Nat) (s : St), meas h0 h1 h2 s ≤ k → Q s → Q (pickS h0 h1 h2 w0 w1 w2 s) ∧ good h0 h1 h2 (pickS h0 h1 h2 w0 w1 w2 s) = true
  | k, s, hk, hq => by
    by_cases g : good h0 h1 h2 s = true
    · rw [pickS_good ha g]; exact ⟨hq, g⟩
    · rw [Bool.not_eq_true] at g
      have hlt := meas_lt (w0 := w0) (w1 := w1) (w2 := w2) ha hw (hn s hq) g
      rw [pickS_step ha hw (hn s hq) g]
      cases k with
      | zero => omega
      | succ k => exact pick_ind ha hw Q hn step k _ (by omega) (step s hq g)
theorem pickS_ok (hw : WOK w0 w1 w2) (h : Ok w0 w1 w2 s) : Ok w0 w1 w2 (pickS h0 h1 h2 w0 w1 w2 s) := by
  cases ha : (h0 || h1 || h2) with
  | false => rw [pickS_none ha]; exact h
  | true => exact (pick_ind ha hw (Ok w0 w1 w2) (fun _ h => h.n) (fun _ h _ => nxt_ok hw h) _ s (Nat.le_refl _) h).1
theorem pickS_is_good (ha : (h0 || h1 || h2) = true) (hw : WOK w0 w1 w2) (h : Ok w0 w1 w2 s) : good h0 h1 h2 (pickS h0 h1 h2 w0 w1 w2 s) = true :=
  (pick_ind ha hw (Ok w0 w1 w2) (fun _ h => h.n) (fun _ h _ => nxt_ok hw h) _ s (Nat.le_refl _) h).2
theorem spS_ok {m : Int} (h : Ok w0 w1 w2 s) : Ok w0 w1 w2 (spS m s) := by
  unfold spS
  by_cases hb : m < 1 ∨ m > 65536 ∨ s.cr ≤ 0
  · rw [if_pos hb]; exact h
  · rw [if_neg hb]
    obtain ⟨hn, l0, r0, l1, r1, l2, r2⟩ := h
    unfold St.cr at hb
    by_cases e0 : s.now = 0
    · rw [if_pos e0] at hb ⊢; exact ⟨hn, by dsimp only; omega, by dsimp only; omega, l1, r1, l2, r2⟩
    · rw [if_neg e0] at hb ⊢
      by_cases e1 : s.now = 1
      · rw [if_pos e1] at hb ⊢; exact ⟨hn, l0, r0, by dsimp only; omega, by dsimp only; omega, l2, r2⟩
      · rw [if_neg e1] at hb ⊢; exact ⟨hn, l0, r0, l1, r1, by dsimp only; omega, by dsimp only; omega⟩
theorem init_ok (hw : WOK w0 w1 w2) : Ok w0 w1 w2 ⟨w0, w1, w2, 0⟩ := ⟨.inl rfl, by have := hw.l0; dsimp only; omega, Int.le_refl _, by have := hw.l1; dsimp only; omega, Int.le_refl _, by have := hw.l2; dsimp only; omega, Int.le_refl _⟩
end
section
variable {h0 h1 h2 : Bool} {d0 d1 d2 w0 w1 w2 c w : Int}
theorem good_eq0 : good h0 h1 h2 ⟨d0, d1, d2, 0⟩ = (h0 && decide (0 < d0)) := rfl
theorem good_eq1 : good h0 h1 h2 ⟨d0, d1, d2, 1⟩ = (h1 && decide (0 < d1)) := rfl
theorem good_eq2 : good h0 h1 h2 ⟨d0, d1, d2, 2⟩ = (h2 && decide (0 < d2)) := rfl
theorem gf {h : Bool} {d : Int} (q : h = false ∨ d ≤ 0) : (h && decide (0 < d)) = false := by
  rcases q with q | q
  · rw [q]; rfl
  · rw [decide_eq_false (by omega), Bool.and_false]
theorem gt {h : Bool} {d : Int} (q : h = true) (r : 0 < d) : (h && decide (0 < d)) = true := by rw [q, decide_eq_true r]; rfl
theorem nb {h : Bool} (q : (!h) = true) : h = false := by simpa using q
theorem nb' {h : Bool} (q : (!h) = false) : h = true := by simpa using q
theorem any_eqA (q : eqA #[.bool h0, .bool h1, .bool h2] #[.bool false, .bool false, .bool false] = true) : (h0 || h1 || h2) = false := by
  have := eqA_iff.1 q
  simp at this
  simp [this]
theorem any_neA (q : eqA #[.bool h0, .bool h1, .bool h2] #[.bool false, .bool false, .bool false] = false) : (h0 || h1 || h2) = true := by
  by_cases h : (h0 || h1 || h2) = true
  · exact h
  · simp at h
    obtain ⟨⟨rfl, rfl⟩, rfl⟩ := h
    rw [eqA_true rfl] at q; cases q
theorem mn2_gt (h : decide (c + w > w) = true) : mn2 c w = w := by have := of_decide_eq_true h; unfold mn2; rw [if_pos (by omega)]
theorem mn2_le' (h : decide (c + w > w) = false) : mn2 c w = c + w := by have := of_decide_eq_false h; unfold mn2; rw [if_neg (by omega)]
end
theorem WOK.ne {w0 w1 w2 : Int} (h : WOK w0 w1 w2) : w0 ≠ 0 := by have := h.l0; omega
/-- Weights that numbers are turned to. -/
structure Wd (x0 x1 x2 w0 w1 w2 : Int) : Prop where
  e0 : 1024 + x0.tmod 1047553 = w0
  e1 : 1024 + x1.tmod 1047553 = w1
  e2 : 1024 + x2.tmod 1047553 = w2
  v : WOK w0 w1 w2
theorem wd_of {x0 x1 x2 : Int} (h0 : 0 ≤ x0) (h1 : 0 ≤ x1) (h2 : 0 ≤ x2) : Wd x0 x1 x2 (1024 + x0.tmod 1047553) (1024 + x1.tmod 1047553) (1024 + x2.tmod 1047553) := by
  refine ⟨rfl, rfl, rfl, ?_⟩
  rw [Int.tmod_eq_emod_of_nonneg h0, Int.tmod_eq_emod_of_nonneg h1, Int.tmod_eq_emod_of_nonneg h2]
  exact ⟨by omega, by omega, by omega, by omega, by omega, by omega⟩
def opKinds : List CK := [.i .u8, .b, .b, .b, .i .i64]
theorem op_row {rows : List (List Value)} (ho : ∀ row ∈ rows, Oks opKinds row) {i : Nat} (h : i < rows.length) : ∃ (k : Int) (g0 g1 g2 : Bool) (m : Int), rows[i]? = some [.int .u8 k, .bool g0, .bool g1, .bool g2, .int .i64 m] ∧ (Lit.int .i64 m).wf = true := by
  have := ho rows[i] (List.getElem_mem h)
  rw [List.getElem?_eq_getElem h]
  generalize rows[i] = r at this
  match r, this with
  | [a, b, c, d, e], ⟨⟨k, h1, _⟩, ⟨g0, h2⟩, ⟨g1, h3⟩, ⟨g2, h4⟩, ⟨m, h5, h6⟩, _⟩ => exact ⟨k, g0, g1, g2, m, by rw [h1, h2, h3, h4, h5], h6⟩
  | a :: b :: c :: d :: e :: f :: l, ⟨_, _, _, _, _, h⟩ => exact absurd h (by simp [Oks])
section
variable {w0 w1 w2 : Int} {s : St}
theorem wf64 {n : Int} (h1 : -9223372036854775808 ≤ n) (h2 : n ≤ 9223372036854775807) : (Lit.int .i64 n).wf = true := WalkArith.wf_i64 ⟨h1, h2⟩
theorem okwf0 (hv : WOK w0 w1 w2) (h : Ok w0 w1 w2 s) : (Lit.int .i64 s.c0).wf = true := by have := h.l0; have := h.r0; have := hv.r0; exact wf64 (by omega) (by omega)
theorem okwf1 (hv : WOK w0 w1 w2) (h : Ok w0 w1 w2 s) : (Lit.int .i64 s.c1).wf = true := by have := h.l1; have := h.r1; have := hv.r1; exact wf64 (by omega) (by omega)
theorem okwf2 (hv : WOK w0 w1 w2) (h : Ok w0 w1 w2 s) : (Lit.int .i64 s.c2).wf = true := by have := h.l2; have := h.r2; have := hv.r2; exact wf64 (by omega) (by omega)
end
/-! One of three. -/
def sel3 (n a b c : Int) : Int := if n = 0 then a else if n = 1 then b else c
def upd3 (n k v a : Int) : Int := if n = k then v else a
theorem idx3 {n : Int} (h : n = 0 ∨ n = 1 ∨ n = 2) : n = (n.toNat : Int) ∧ n.toNat < 3 := by omega
theorem pickN_3 {h0 h1 h2 : Bool} {w0 w1 w2 : Int} {s : St} (hv : WOK w0 w1 w2) (h : Ok w0 w1 w2 s) : pickN h0 h1 h2 w0 w1 w2 s = 0 ∨ pickN h0 h1 h2 w0 w1 w2 s = 1 ∨ pickN h0 h1 h2 w0 w1 w2 s = 2 := by
  unfold pickN; split
  · exact (pickS_ok hv h).n
  · exact .inl rfl
theorem pick_twice {h0 h1 h2 : Bool} {w0 w1 w2 : Int} {s : St} (hv : WOK w0 w1 w2) (h : Ok w0 w1 w2 s) : pickS h0 h1 h2 w0 w1 w2 (pickS h0 h1 h2 w0 w1 w2 s) = pickS h0 h1 h2 w0 w1 w2 s := by
  cases ha : (h0 || h1 || h2) with
  | false => rw [pickS_none ha]
  | true => exact pickS_good ha (pickS_is_good ha hv h)
theorem pickN_twice {h0 h1 h2 : Bool} {w0 w1 w2 : Int} {s : St} (hv : WOK w0 w1 w2) (h : Ok w0 w1 w2 s) : pickN h0 h1 h2 w0 w1 w2 (pickS h0 h1 h2 w0 w1 w2 s) = pickN h0 h1 h2 w0 w1 w2 s := by
  unfold pickN; rw [pick_twice hv h]
/-- Asked again: what had credit stays. -/
theorem again_now {h0 h1 h2 : Bool} {w0 w1 w2 a b c n : Int} (g : hasN h0 h1 h2 n = true) (d : decide (sel3 n a b c > 0) = true) : pickS h0 h1 h2 w0 w1 w2 ⟨a, b, c, n⟩ = ⟨a, b, c, n⟩ ∧ pickN h0 h1 h2 w0 w1 w2 ⟨a, b, c, n⟩ = n := by
  have ha : (h0 || h1 || h2) = true := by revert g; unfold hasN; cases h0 <;> cases h1 <;> cases h2 <;> simp
  have hg : good h0 h1 h2 ⟨a, b, c, n⟩ = true := by
    unfold good; rw [Bool.and_eq_true]; exact ⟨g, decide_eq_true (of_decide_eq_true d)⟩
  have e := pickS_good (w0 := w0) (w1 := w1) (w2 := w2) ha hg
  exact ⟨e, by rw [pickN_some ha, e]⟩
end Go.Proofs.Ytkfilmdnpocinaa
