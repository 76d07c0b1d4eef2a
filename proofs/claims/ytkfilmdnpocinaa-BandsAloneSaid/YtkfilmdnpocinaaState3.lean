/-
  Plain laws of bands: alone; shares.
-/
import Derived.Test.YtkfilmdnpocinaaState2
namespace Go.Proofs.Ytkfilmdnpocinaa
set_option linter.unusedVariables false
set_option linter.unusedSimpArgs false
/-! Alone -/
theorem pick_mono {h0 h1 h2 : Bool} {w0 w1 w2 : Int} {s : St} (hv : WOK w0 w1 w2) (h : Ok w0 w1 w2 s) : s.c0 ≤ (pickS h0 h1 h2 w0 w1 w2 s).c0 ∧ s.c1 ≤ (pickS h0 h1 h2 w0 w1 w2 s).c1 ∧ s.c2 ≤ (pickS h0 h1 h2 w0 w1 w2 s).c2 := by
  cases ha : (h0 || h1 || h2) with
  | false => rw [pickS_none ha]; exact ⟨Int.le_refl _, Int.le_refl _, Int.le_refl _⟩
  | true =>
    have := (pick_ind (h0 := h0) (h1 := h1) (h2 := h2) ha hv (fun t => Ok w0 w1 w2 t ∧ s.c0 ≤ t.c0 ∧ s.c1 ≤ t.c1 ∧ s.c2 ≤ t.c2) (fun _ h => h.1.n) (fun t ⟨ht, m0, m1, m2⟩ _ => by
      refine ⟨nxt_ok hv ht, ?_⟩
      have a := (mn2_le t.c0 w0).2 ht.r0 (by have := hv.l0; omega)
      have b := (mn2_le t.c1 w1).2 ht.r1 (by have := hv.l1; omega)
      have c := (mn2_le t.c2 w2).2 ht.r2 (by have := hv.l2; omega)
      unfold nxt
      split
      · dsimp only; omega
      · split
        · dsimp only; omega
        · dsimp only; omega) _ s (Nat.le_refl _) ⟨h, Int.le_refl _, Int.le_refl _, Int.le_refl _⟩).1
    exact this.2
theorem good_cr {h0 h1 h2 : Bool} {s : St} (g : good h0 h1 h2 s = true) : hasN h0 h1 h2 s.now = true ∧ 0 < s.cr := by
  unfold good at g; rw [Bool.and_eq_true] at g; exact ⟨g.1, of_decide_eq_true g.2⟩
theorem spend_ok {m : Int} {s : St} (h1 : 1 ≤ m) (h2 : m ≤ 65536) (hc : 0 < s.cr) : spE m s = 0 ∧ spS m s = if s.now = 0 then ⟨s.c0 - m, s.c1, s.c2, s.now⟩ else if s.now = 1 then ⟨s.c0, s.c1 - m, s.c2, s.now⟩ else ⟨s.c0, s.c1, s.c2 - m, s.now⟩ := by
  unfold spE spS
  rw [if_neg (by omega), if_neg (by omega)]; exact ⟨rfl, rfl⟩
def updB (n k : Int) (v a : Bool) : Bool := if n = k then v else a
/-! Share: what each has spent, and how often it was come to. -/
structure Win (w0 w1 w2 : Int) (s : St) (p0 p1 p2 : Int) (n0 : Int) (a0 a1 a2 : Int) : Prop where
  u0 : s.c0 + p0 ≤ w0 * (a0 + 1)
  u1 : s.c1 + p1 ≤ w1 * (a1 + 1)
  u2 : s.c2 + p2 ≤ w2 * (a2 + 1)
  l0 : w0 * a0 - 65536 ≤ s.c0 + p0
  l1 : w1 * a1 - 65536 ≤ s.c1 + p1
  l2 : w2 * a2 - 65536 ≤ s.c2 + p2
  z0 : s.now ≠ 0 → s.c0 ≤ 0 ∨ (a0 = 0 ∧ p0 = 0)
  z1 : s.now ≠ 1 → s.c1 ≤ 0 ∨ (a1 = 0 ∧ p1 = 0)
  z2 : s.now ≠ 2 → s.c2 ≤ 0 ∨ (a2 = 0 ∧ p2 = 0)
  nn : n0 = 0 ∨ n0 = 1 ∨ n0 = 2
  d : (n0 = 0 ∧ ((s.now = 0 ∧ a1 = a0 ∧ a2 = a0) ∨ (s.now = 1 ∧ a1 = a0 + 1 ∧ a2 = a0) ∨ (s.now = 2 ∧ a1 = a0 + 1 ∧ a2 = a0 + 1))) ∨
      (n0 = 1 ∧ ((s.now = 1 ∧ a2 = a1 ∧ a0 = a1) ∨ (s.now = 2 ∧ a2 = a1 + 1 ∧ a0 = a1) ∨ (s.now = 0 ∧ a2 = a1 + 1 ∧ a0 = a1 + 1))) ∨
      (n0 = 2 ∧ ((s.now = 2 ∧ a0 = a2 ∧ a1 = a2) ∨ (s.now = 0 ∧ a0 = a2 + 1 ∧ a1 = a2) ∨ (s.now = 1 ∧ a0 = a2 + 1 ∧ a1 = a2 + 1)))
theorem Win.init {w0 w1 w2 : Int} {s : St} (h : Ok w0 w1 w2 s) : Win w0 w1 w2 s 0 0 0 s.now 0 0 0 := by
  obtain ⟨hn, l0, r0, l1, r1, l2, r2⟩ := h
  refine ⟨by omega, by omega, by omega, by omega, by omega, by omega, fun _ => .inr ⟨rfl, rfl⟩, fun _ => .inr ⟨rfl, rfl⟩, fun _ => .inr ⟨rfl, rfl⟩, hn, ?_⟩
  rcases hn with h | h | h
  · exact .inl ⟨h, .inl ⟨h, rfl, rfl⟩⟩
  · exact .inr (.inl ⟨h, .inl ⟨h, rfl, rfl⟩⟩)
  · exact .inr (.inr ⟨h, .inl ⟨h, rfl, rfl⟩⟩)
theorem win_arr {c w p a : Int} (hw : 1024 ≤ w) (hr : c ≤ w) (u : c + p ≤ w * (a + 1)) (l : w * a - 65536 ≤ c + p) (z : c ≤ 0 ∨ (a = 0 ∧ p = 0)) : mn2 c w + p ≤ w * (a + 1 + 1) ∧ w * (a + 1) - 65536 ≤ mn2 c w + p := by
  have e : w * (a + 1 + 1) = w * (a + 1) + w := by rw [Int.mul_add w (a + 1) 1, Int.mul_one]
  have f : w * (a + 1) = w * a + w := by rw [Int.mul_add, Int.mul_one]
  rw [e, f]
  rw [f] at u
  rcases z with z | ⟨z, z'⟩
  · generalize w * a = y at *
    unfold mn2; split <;> omega
  · subst z; subst z'
    rw [Int.mul_zero] at *
    unfold mn2; split <;> omega
/-- How often each was come to, beside each other. -/
def Even (n0 now a0 a1 a2 : Int) : Prop := (n0 = 0 ∧ ((now = 0 ∧ a1 = a0 ∧ a2 = a0) ∨ (now = 1 ∧ a1 = a0 + 1 ∧ a2 = a0) ∨ (now = 2 ∧ a1 = a0 + 1 ∧ a2 = a0 + 1))) ∨
      (n0 = 1 ∧ ((now = 1 ∧ a2 = a1 ∧ a0 = a1) ∨ (now = 2 ∧ a2 = a1 + 1 ∧ a0 = a1) ∨ (now = 0 ∧ a2 = a1 + 1 ∧ a0 = a1 + 1))) ∨
      (n0 = 2 ∧ ((now = 2 ∧ a0 = a2 ∧ a1 = a2) ∨ (now = 0 ∧ a0 = a2 + 1 ∧ a1 = a2) ∨ (now = 1 ∧ a0 = a2 + 1 ∧ a1 = a2 + 1)))
theorem even0 {n0 a0 a1 a2 : Int} (d : Even n0 0 a0 a1 a2) : Even n0 1 a0 (a1 + 1) a2 := by
  rcases d with ⟨h, d⟩ | ⟨h, d⟩ | ⟨h, d⟩ <;> rcases d with ⟨q, d, d'⟩ | ⟨q, d, d'⟩ | ⟨q, d, d'⟩ <;> first | (exact absurd q (by decide)) | skip
  · exact .inl ⟨h, .inr (.inl ⟨rfl, by omega, d'⟩)⟩
  · exact .inr (.inl ⟨h, .inl ⟨rfl, d, d'⟩⟩)
  · exact .inr (.inr ⟨h, .inr (.inr ⟨rfl, d, by omega⟩)⟩)
theorem even1 {n0 a0 a1 a2 : Int} (d : Even n0 1 a0 a1 a2) : Even n0 2 a0 a1 (a2 + 1) := by
  rcases d with ⟨h, d⟩ | ⟨h, d⟩ | ⟨h, d⟩ <;> rcases d with ⟨q, d, d'⟩ | ⟨q, d, d'⟩ | ⟨q, d, d'⟩ <;> first | (exact absurd q (by decide)) | skip
  · exact .inl ⟨h, .inr (.inr ⟨rfl, d, by omega⟩)⟩
  · exact .inr (.inl ⟨h, .inr (.inl ⟨rfl, by omega, d'⟩)⟩)
  · exact .inr (.inr ⟨h, .inl ⟨rfl, by omega, by omega⟩⟩)
theorem even2 {n0 a0 a1 a2 : Int} (d : Even n0 2 a0 a1 a2) : Even n0 0 (a0 + 1) a1 a2 := by
  rcases d with ⟨h, d⟩ | ⟨h, d⟩ | ⟨h, d⟩ <;> rcases d with ⟨q, d, d'⟩ | ⟨q, d, d'⟩ | ⟨q, d, d'⟩ <;> first | (exact absurd q (by decide)) | skip
  · exact .inl ⟨h, .inl ⟨rfl, by omega, by omega⟩⟩
  · exact .inr (.inl ⟨h, .inr (.inr ⟨rfl, by omega, by omega⟩)⟩)
  · exact .inr (.inr ⟨h, .inr (.inl ⟨rfl, by omega, by omega⟩)⟩)
theorem Win.step {w0 w1 w2 p0 p1 p2 n0 a0 a1 a2 : Int} {s : St} (hv : WOK w0 w1 w2) (hs : Ok w0 w1 w2 s) (W : Win w0 w1 w2 s p0 p1 p2 n0 a0 a1 a2) (hc : s.cr ≤ 0) : ∃ b0 b1 b2, Win w0 w1 w2 (nxt w0 w1 w2 s) p0 p1 p2 n0 b0 b1 b2 := by
  obtain ⟨u0, u1, u2, l0, l1, l2, z0, z1, z2, nn, d⟩ := W
  have x0 := hs.r0; have x1 := hs.r1; have x2 := hs.r2
  have hn := hs.n
  obtain ⟨c0, c1, c2, n⟩ := s
  dsimp only at u0 u1 u2 l0 l1 l2 z0 z1 z2 d x0 x1 x2 hn
  rcases hn with rfl | rfl | rfl
  · have g := win_arr hv.l1 x1 u1 l1 (z1 (by decide))
    exact ⟨a0, a1 + 1, a2, u0, g.1, u2, l0, g.2, l2, fun _ => .inl hc, fun h => absurd rfl h, fun _ => z2 (by decide), nn, even0 d⟩
  · have g := win_arr hv.l2 x2 u2 l2 (z2 (by decide))
    exact ⟨a0, a1, a2 + 1, u0, u1, g.1, l0, l1, g.2, fun _ => z0 (by decide), fun _ => .inl hc, fun h => absurd rfl h, nn, even1 d⟩
  · have g := win_arr hv.l0 x0 u0 l0 (z0 (by decide))
    exact ⟨a0 + 1, a1, a2, g.1, u1, u2, g.2, l1, l2, fun h => absurd rfl h, fun _ => z1 (by decide), fun _ => .inl hc, nn, even2 d⟩
/-- Something is spent of the one of now: all but that one stay. -/
theorem Win.spend {w0 w1 w2 p0 p1 p2 n0 a0 a1 a2 m : Int} {s : St} (hs : Ok w0 w1 w2 s) (W : Win w0 w1 w2 s p0 p1 p2 n0 a0 a1 a2) (h1 : 1 ≤ m) (h2 : m ≤ 65536) (hc : 0 < s.cr) :
    Win w0 w1 w2 (spS m s) (upd3 s.now 0 (p0 + m) p0) (upd3 s.now 1 (p1 + m) p1) (upd3 s.now 2 (p2 + m) p2) n0 a0 a1 a2 := by
  obtain ⟨u0, u1, u2, l0, l1, l2, z0, z1, z2, nn, d⟩ := W
  rw [(spend_ok h1 h2 hc).2]
  have hn := hs.n
  obtain ⟨c0, c1, c2, n⟩ := s
  dsimp only at u0 u1 u2 l0 l1 l2 z0 z1 z2 d hn
  rcases hn with rfl | rfl | rfl
  · exact ⟨show c0 - m + (p0 + m) ≤ _ by omega, u1, u2, show _ ≤ c0 - m + (p0 + m) by omega, l1, l2, fun h => absurd rfl h, z1, z2, nn, d⟩
  · exact ⟨u0, show c1 - m + (p1 + m) ≤ _ by omega, u2, l0, show _ ≤ c1 - m + (p1 + m) by omega, l2, z0, fun h => absurd rfl h, z2, nn, d⟩
  · exact ⟨u0, u1, show c2 - m + (p2 + m) ≤ _ by omega, l0, l1, show _ ≤ c2 - m + (p2 + m) by omega, z0, z1, fun h => absurd rfl h, nn, d⟩
theorem Win.pick {w0 w1 w2 p0 p1 p2 n0 : Int} {s : St} (hv : WOK w0 w1 w2) (hs : Ok w0 w1 w2 s) (W : ∃ a0 a1 a2, Win w0 w1 w2 s p0 p1 p2 n0 a0 a1 a2) : ∃ a0 a1 a2, Win w0 w1 w2 (pickS true true true w0 w1 w2 s) p0 p1 p2 n0 a0 a1 a2 := by
  refine (pick_ind (h0 := true) (h1 := true) (h2 := true) rfl hv (fun t => Ok w0 w1 w2 t ∧ ∃ a0 a1 a2, Win w0 w1 w2 t p0 p1 p2 n0 a0 a1 a2) (fun _ h => h.1.n) (fun t ⟨ht, a0, a1, a2, hw⟩ hg => ⟨nxt_ok hv ht, hw.step hv ht ?_⟩) _ s (Nat.le_refl _) ⟨hs, W⟩).1.2
  have hn : hasN true true true t.now = true := by unfold hasN; split; rfl; split <;> rfl
  unfold good at hg
  rw [hn, Bool.true_and] at hg
  exact Int.not_lt.1 (of_decide_eq_false hg)
theorem share_arith {wi wk pi pk ai ak : Int} (hi : 0 ≤ wi) (hk : 0 ≤ wk) (u : pi ≤ wi * (ai + 1) + 65536) (l : wk * ak - 65536 - wk ≤ pk) (d : ai ≤ ak + 1) : pi * wk - pk * wi ≤ 3 * (wi * wk) + 65536 * (wi + wk) := by
  have e1 := Int.mul_le_mul_of_nonneg_right u hk
  have e2 := Int.mul_le_mul_of_nonneg_right l hi
  have e3 := Int.mul_le_mul_of_nonneg_left d (Int.mul_nonneg hi hk)
  have f1 : (wi * (ai + 1) + 65536) * wk = wi * wk * ai + wi * wk + 65536 * wk := by rw [Int.add_mul, Int.mul_add, Int.mul_one, Int.add_mul, Int.mul_right_comm]
  have f2 : (wk * ak - 65536 - wk) * wi = wi * wk * ak - 65536 * wi - wi * wk := by rw [Int.sub_mul, Int.sub_mul, Int.mul_right_comm, Int.mul_comm wk wi]
  have f3 : wi * wk * (ak + 1) = wi * wk * ak + wi * wk := by rw [Int.mul_add, Int.mul_one]
  rw [f1] at e1; rw [f2] at e2; rw [f3] at e3
  generalize wi * wk * ai = A at *
  generalize wi * wk * ak = B at *
  generalize wi * wk = C at *
  omega
/-- The stage's theorem, of a window: any two. -/
theorem Win.share {w0 w1 w2 p0 p1 p2 n0 a0 a1 a2 : Int} {s : St} (hv : WOK w0 w1 w2) (hs : Ok w0 w1 w2 s) (W : Win w0 w1 w2 s p0 p1 p2 n0 a0 a1 a2) :
    (p0 * w1 - p1 * w0 ≤ 3 * (w0 * w1) + 65536 * (w0 + w1) ∧ p1 * w0 - p0 * w1 ≤ 3 * (w1 * w0) + 65536 * (w1 + w0)) ∧
    (p0 * w2 - p2 * w0 ≤ 3 * (w0 * w2) + 65536 * (w0 + w2) ∧ p2 * w0 - p0 * w2 ≤ 3 * (w2 * w0) + 65536 * (w2 + w0)) ∧
    (p1 * w2 - p2 * w1 ≤ 3 * (w1 * w2) + 65536 * (w1 + w2) ∧ p2 * w1 - p1 * w2 ≤ 3 * (w2 * w1) + 65536 * (w2 + w1)) := by
  obtain ⟨u0, u1, u2, l0, l1, l2, _, _, _, _, d⟩ := W
  obtain ⟨_, q0, r0, q1, r1, q2, r2⟩ := hs
  have v0 := hv.l0; have v1 := hv.l1; have v2 := hv.l2
  have t : (a0 ≤ a1 + 1 ∧ a1 ≤ a0 + 1) ∧ (a0 ≤ a2 + 1 ∧ a2 ≤ a0 + 1) ∧ (a1 ≤ a2 + 1 ∧ a2 ≤ a1 + 1) := by
    rcases d with ⟨_, d⟩ | ⟨_, d⟩ | ⟨_, d⟩ <;> rcases d with ⟨_, d, d'⟩ | ⟨_, d, d'⟩ | ⟨_, d, d'⟩ <;> omega
  exact ⟨⟨share_arith (by omega) (by omega) (by omega) (by omega) t.1.1, share_arith (by omega) (by omega) (by omega) (by omega) t.1.2⟩,
    ⟨share_arith (by omega) (by omega) (by omega) (by omega) t.2.1.1, share_arith (by omega) (by omega) (by omega) (by omega) t.2.1.2⟩,
    ⟨share_arith (by omega) (by omega) (by omega) (by omega) t.2.2.1, share_arith (by omega) (by omega) (by omega) (by omega) t.2.2.2⟩⟩
end Go.Proofs.Ytkfilmdnpocinaa
