/-
  Plain laws of bands: turns; the walks' steps.
-/
import Derived.Test.YtkfilmdnpocinaaState3
import Derived.Test.YtkfilmdnpocinaaFns
namespace Go.Proofs.Ytkfilmdnpocinaa
set_option linter.unusedVariables false
set_option linter.unusedSimpArgs false
/-! Turn: from one to the same again. -/
theorem sel3_0 {a b c : Int} : sel3 0 a b c = a := rfl
theorem sel3_1 {a b c : Int} : sel3 1 a b c = b := rfl
theorem sel3_2 {a b c : Int} : sel3 2 a b c = c := rfl
/-- The one behind. -/
def Suc (n x : Int) : Prop := n + 1 = x ∨ (n = 2 ∧ x = 0)
def T3 (n : Int) : Prop := n = 0 ∨ n = 1 ∨ n = 2
def Turn (k x : Int) (s : St) : Prop := sel3 x s.c0 s.c1 s.c2 ≤ 0 ∨ s.now = k ∨ (s.now ≠ k ∧ Suc s.now x)
def TQ (b : Prop) (k x : Int) (s : St) : Prop := sel3 x s.c0 s.c1 s.c2 ≤ 0 ∨ s.now = x ∨ (s.now ≠ k ∧ Suc s.now x) ∨ (b ∧ s.now = k)
def TI (h0 h1 h2 : Bool) (l0 l1 l2 : Int) (s : St) : Prop := ∀ k x : Int, T3 k → T3 x → x ≠ k → hasN h0 h1 h2 x = true → 0 ≤ sel3 k l0 l1 l2 → sel3 x l0 l1 l2 < sel3 k l0 l1 l2 → Turn k x s
theorem TI.init {h0 h1 h2 : Bool} {s : St} : TI h0 h1 h2 (-1) (-1) (-1) s := fun k x hk _ _ _ h _ => by
  exfalso
  rcases hk with rfl | rfl | rfl
  · rw [sel3_0] at h; omega
  · rw [sel3_1] at h; omega
  · rw [sel3_2] at h; omega
theorem nxt_keep {w0 w1 w2 : Int} {s : St} {x : Int} (hx : T3 x) (hn : T3 s.now) : Suc s.now (nxt w0 w1 w2 s).now ∧ ((nxt w0 w1 w2 s).now ≠ x → sel3 x (nxt w0 w1 w2 s).c0 (nxt w0 w1 w2 s).c1 (nxt w0 w1 w2 s).c2 = sel3 x s.c0 s.c1 s.c2) := by
  obtain ⟨c0, c1, c2, n⟩ := s
  dsimp only [T3] at hn
  rcases hn with rfl | rfl | rfl
  · refine ⟨.inl rfl, fun h => ?_⟩
    rcases hx with rfl | rfl | rfl
    · rfl
    · exact absurd rfl h
    · rfl
  · refine ⟨.inl rfl, fun h => ?_⟩
    rcases hx with rfl | rfl | rfl
    · rfl
    · rfl
    · exact absurd rfl h
  · refine ⟨.inr ⟨rfl, rfl⟩, fun h => ?_⟩
    rcases hx with rfl | rfl | rfl
    · exact absurd rfl h
    · rfl
    · rfl
theorem suc_uniq {n x y : Int} (hx : T3 x) (hy : T3 y) (h : Suc n x) (g : Suc n y) : x = y := by
  unfold Suc T3 at *; omega
theorem suc_third {k x y : Int} (hk : T3 k) (hx : T3 x) (hy : T3 y) (hne : x ≠ k) (h : Suc k y) : y = x ∨ (y ≠ k ∧ Suc y x) := by
  unfold Suc T3 at *; omega
theorem tq_step {h0 h1 h2 : Bool} {w0 w1 w2 : Int} {b : Prop} {k x : Int} {s : St} (hk : T3 k) (hx : T3 x) (hne : x ≠ k) (hh : hasN h0 h1 h2 x = true) (hn : T3 s.now) (g : good h0 h1 h2 s = false) (h : TQ b k x s) : TQ b k x (nxt w0 w1 w2 s) := by
  have hl := nxt_keep (w0 := w0) (w1 := w1) (w2 := w2) (s := s) hx hn
  have hn' : T3 (nxt w0 w1 w2 s).now := nxt_now hn
  by_cases e : (nxt w0 w1 w2 s).now = x
  · exact .inr (.inl e)
  · rcases h with h | h | ⟨_, h⟩ | ⟨hb, h⟩
    · exact .inl (by rw [hl.2 e]; exact h)
    · refine .inl ?_
      rw [hl.2 e]
      unfold good at g
      rw [h, hh, Bool.true_and] at g
      have := Int.not_lt.1 (of_decide_eq_false g)
      unfold St.cr at this
      rw [h] at this
      exact this
    · exact absurd (suc_uniq hx hn' h hl.1).symm e
    · have h1 := hl.1
      rw [h] at h1
      rcases suc_third hk hx hn' hne h1 with q | q
      · exact .inr (.inl q)
      · exact .inr (.inr (.inl q))
theorem turn_pick {h0 h1 h2 : Bool} {w0 w1 w2 : Int} {k x : Int} {s : St} (hv : WOK w0 w1 w2) (ho : Ok w0 w1 w2 s) (ha : (h0 || h1 || h2) = true) (hk : T3 k) (hx : T3 x) (hne : x ≠ k) (hh : hasN h0 h1 h2 x = true) (h : Turn k x s) : TQ (s.now = k) k x (pickS h0 h1 h2 w0 w1 w2 s) := by
  refine (pick_ind ha hv (fun t => T3 t.now ∧ TQ (s.now = k) k x t) (fun _ h => h.1) (fun t ⟨ht, hq⟩ hg => ⟨nxt_now ht, tq_step hk hx hne hh ht hg hq⟩) _ s (Nat.le_refl _) ⟨ho.n, ?_⟩).1.2
  rcases h with h | h | h
  · exact .inl h
  · exact .inr (.inr (.inr ⟨h, h⟩))
  · exact .inr (.inr (.inl h))
/-- What is asked of each other one. -/
theorem turn_check {h0 h1 h2 : Bool} {w0 w1 w2 l0 l1 l2 a b c d : Int} {x : Int} {s : St} (hv : WOK w0 w1 w2) (ho : Ok w0 w1 w2 s) (ha : (h0 || h1 || h2) = true) (he : pickS h0 h1 h2 w0 w1 w2 s = ⟨a, b, c, d⟩) (hT : TI h0 h1 h2 l0 l1 l2 s) (hx : T3 x)
    (hb : s.now ≠ d) (hl : 0 ≤ sel3 d l0 l1 l2) (hh : hasN h0 h1 h2 x = true) (hne : x ≠ d) (hlt : sel3 x l0 l1 l2 < sel3 d l0 l1 l2) : sel3 x a b c ≤ 0 := by
  have hd : T3 d := by have := (pickS_ok (h0 := h0) (h1 := h1) (h2 := h2) hv ho).n; rw [he] at this; exact this
  have := turn_pick hv ho ha hd hx hne hh (hT d x hd hx hne hh hl hlt)
  rw [he] at this
  rcases this with h | h | ⟨h, _⟩ | ⟨h, _⟩
  · exact h
  · exact absurd h.symm hne
  · exact absurd rfl h
  · exact absurd h hb
theorem TI.next {h0 h1 h2 : Bool} {w0 w1 w2 l0 l1 l2 a b c d i m : Int} {s : St} (hv : WOK w0 w1 w2) (ho : Ok w0 w1 w2 s) (ha : (h0 || h1 || h2) = true) (he : pickS h0 h1 h2 w0 w1 w2 s = ⟨a, b, c, d⟩) (hT : TI h0 h1 h2 l0 l1 l2 s)
    (i0 : l0 < i) (i1 : l1 < i) (i2 : l2 < i) (m1 : 1 ≤ m) (m2 : m ≤ 65536) : TI h0 h1 h2 (upd3 d 0 i l0) (upd3 d 1 i l1) (upd3 d 2 i l2) (spS m ⟨a, b, c, d⟩) := by
  have hg := pickS_is_good (h0 := h0) (h1 := h1) (h2 := h2) ha hv ho
  have hd : T3 d := by have := (pickS_ok (h0 := h0) (h1 := h1) (h2 := h2) hv ho).n; rw [he] at this; exact this
  rw [he] at hg
  have hs := (spend_ok m1 m2 (good_cr hg).2).2
  intro k x hk hx hne hh hl hlt
  have hnow : (spS m ⟨a, b, c, d⟩).now = d := by rw [hs]; split; rfl; split <;> rfl
  by_cases ek : d = k
  · exact .inr (.inl (hnow.trans ek))
  by_cases ex : d = x
  · exfalso
    subst ex
    rcases hd with rfl | rfl | rfl <;> rcases hk with rfl | rfl | rfl <;> first | exact ek rfl | skip
    all_goals simp only [sel3, upd3] at hlt; simp at hlt; omega
  · have hl' : sel3 k (upd3 d 0 i l0) (upd3 d 1 i l1) (upd3 d 2 i l2) = sel3 k l0 l1 l2 := by
      rcases hd with rfl | rfl | rfl <;> rcases hk with rfl | rfl | rfl <;> first | rfl | exact absurd rfl ek
    have hx' : sel3 x (upd3 d 0 i l0) (upd3 d 1 i l1) (upd3 d 2 i l2) = sel3 x l0 l1 l2 := by
      rcases hd with rfl | rfl | rfl <;> rcases hx with rfl | rfl | rfl <;> first | rfl | exact absurd rfl ex
    rw [hl'] at hl hlt
    rw [hx'] at hlt
    have q := turn_pick hv ho ha hk hx hne hh (hT k x hk hx hne hh hl hlt)
    rw [he] at q
    have hc : sel3 x (spS m ⟨a, b, c, d⟩).c0 (spS m ⟨a, b, c, d⟩).c1 (spS m ⟨a, b, c, d⟩).c2 = sel3 x a b c := by
      rw [hs]
      rcases hd with rfl | rfl | rfl <;> rcases hx with rfl | rfl | rfl <;> first | rfl | exact absurd rfl ex
    unfold Turn
    rw [hc, hnow]
    rcases q with q | q | q | ⟨_, q⟩
    · exact .inl q
    · exact absurd q ex
    · exact .inr (.inr q)
    · exact absurd q ek
/-! Steps of the walks. -/
theorem mulb {p w : Int} (hp : 0 ≤ p ∧ p ≤ 7864320) (hw : 1024 ≤ w ∧ w ≤ 1048576) : 0 ≤ p * w ∧ p * w ≤ 8246337208320 :=
  ⟨Int.mul_nonneg hp.1 (by omega), Int.le_trans (Int.mul_le_mul hp.2 hw.2 (by omega) (by omega)) (by decide)⟩
theorem mulb_w {p w : Int} (hp : 0 ≤ p ∧ p ≤ 7864320) (hw : 1024 ≤ w ∧ w ≤ 1048576) : IntKind.wrap .i64 (p * w) = p * w := by
  have := mulb hp hw
  exact wrap_i64 (by omega) (by omega)
theorem ww_b {u w : Int} (hu : 1024 ≤ u ∧ u ≤ 1048576) (hw : 1024 ≤ w ∧ w ≤ 1048576) : 0 ≤ u * w ∧ u * w ≤ 8246337208320 := mulb ⟨by omega, by omega⟩ hw
theorem w3_w {u w : Int} (hu : 1024 ≤ u ∧ u ≤ 1048576) (hw : 1024 ≤ w ∧ w ≤ 1048576) : IntKind.wrap .i64 ((3 * u) * w) = 3 * (u * w) := by
  have := ww_b hu hw
  rw [Int.mul_assoc]
  exact wrap_i64 (by omega) (by omega)
theorem df_w {a b : Int} (ha : 0 ≤ a ∧ a ≤ 8246337208320) (hb : 0 ≤ b ∧ b ≤ 8246337208320) : IntKind.wrap .i64 (a - b) = a - b := wrap_i64 (by omega) (by omega)
theorem sm_w {u w : Int} (hu : 1024 ≤ u ∧ u ≤ 1048576) (hw : 1024 ≤ w ∧ w ≤ 1048576) : IntKind.wrap .i64 (3 * (u * w) + 65536 * (u + w)) = 3 * (u * w) + 65536 * (u + w) := by
  have := ww_b hu hw
  exact wrap_i64 (by omega) (by omega)
def WinE (w0 w1 w2 : Int) (s : St) (p0 p1 p2 : Int) : Prop := ∃ n0 a0 a1 a2, Win w0 w1 w2 s p0 p1 p2 n0 a0 a1 a2
def Sh (w0 w1 w2 p0 p1 p2 : Int) : Prop := ∃ s, Ok w0 w1 w2 s ∧ WinE w0 w1 w2 s p0 p1 p2
theorem sh_same {p w : Int} (hw : 1024 ≤ w ∧ w ≤ 1048576) : decide (p * w - p * w > 3 * (w * w) + 65536 * (w + w)) = false := by
  have := ww_b hw hw
  exact decide_eq_false (by omega)
theorem WOK.b0 {w0 w1 w2 : Int} (h : WOK w0 w1 w2) : 1024 ≤ w0 ∧ w0 ≤ 1048576 := ⟨h.l0, h.r0⟩
theorem WOK.b1 {w0 w1 w2 : Int} (h : WOK w0 w1 w2) : 1024 ≤ w1 ∧ w1 ≤ 1048576 := ⟨h.l1, h.r1⟩
theorem WOK.b2 {w0 w1 w2 : Int} (h : WOK w0 w1 w2) : 1024 ≤ w2 ∧ w2 ≤ 1048576 := ⟨h.l2, h.r2⟩
section
variable {w0 w1 w2 p0 p1 p2 : Int}
theorem Sh.all (h : Sh w0 w1 w2 p0 p1 p2) (hv : WOK w0 w1 w2) :
    ((p0 * w1 - p1 * w0 ≤ 3 * (w0 * w1) + 65536 * (w0 + w1)) ∧ (p1 * w0 - p0 * w1 ≤ 3 * (w1 * w0) + 65536 * (w1 + w0))) ∧
    ((p0 * w2 - p2 * w0 ≤ 3 * (w0 * w2) + 65536 * (w0 + w2)) ∧ (p2 * w0 - p0 * w2 ≤ 3 * (w2 * w0) + 65536 * (w2 + w0))) ∧
    ((p1 * w2 - p2 * w1 ≤ 3 * (w1 * w2) + 65536 * (w1 + w2)) ∧ (p2 * w1 - p1 * w2 ≤ 3 * (w2 * w1) + 65536 * (w2 + w1))) := by
  obtain ⟨s, ho, n0, a0, a1, a2, W⟩ := h
  exact W.share hv ho
theorem Sh.c01 (h : Sh w0 w1 w2 p0 p1 p2) (hv : WOK w0 w1 w2) : decide (p0 * w1 - p1 * w0 > 3 * (w0 * w1) + 65536 * (w0 + w1)) = false := decide_eq_false (Int.not_lt.2 (h.all hv).1.1)
theorem Sh.c10 (h : Sh w0 w1 w2 p0 p1 p2) (hv : WOK w0 w1 w2) : decide (p1 * w0 - p0 * w1 > 3 * (w1 * w0) + 65536 * (w1 + w0)) = false := decide_eq_false (Int.not_lt.2 (h.all hv).1.2)
theorem Sh.c02 (h : Sh w0 w1 w2 p0 p1 p2) (hv : WOK w0 w1 w2) : decide (p0 * w2 - p2 * w0 > 3 * (w0 * w2) + 65536 * (w0 + w2)) = false := decide_eq_false (Int.not_lt.2 (h.all hv).2.1.1)
theorem Sh.c20 (h : Sh w0 w1 w2 p0 p1 p2) (hv : WOK w0 w1 w2) : decide (p2 * w0 - p0 * w2 > 3 * (w2 * w0) + 65536 * (w2 + w0)) = false := decide_eq_false (Int.not_lt.2 (h.all hv).2.1.2)
theorem Sh.c12 (h : Sh w0 w1 w2 p0 p1 p2) (hv : WOK w0 w1 w2) : decide (p1 * w2 - p2 * w1 > 3 * (w1 * w2) + 65536 * (w1 + w2)) = false := decide_eq_false (Int.not_lt.2 (h.all hv).2.2.1)
theorem Sh.c21 (h : Sh w0 w1 w2 p0 p1 p2) (hv : WOK w0 w1 w2) : decide (p2 * w1 - p1 * w2 > 3 * (w2 * w1) + 65536 * (w2 + w1)) = false := decide_eq_false (Int.not_lt.2 (h.all hv).2.2.2)
end
/-- What a round of BandsShare is told by. -/
structure ShI (F M w0 w1 w2 : Int) (i : Nat) (s : St) (p0 p1 p2 : Int) : Prop where
  le : i ≤ 120
  ok : Ok w0 w1 w2 s
  b0 : 0 ≤ p0 ∧ p0 ≤ 65536 * (i : Int)
  b1 : 0 ≤ p1 ∧ p1 ≤ 65536 * (i : Int)
  b2 : 0 ≤ p2 ∧ p2 ≤ 65536 * (i : Int)
  z : (i : Int) ≤ F → p0 = 0 ∧ p1 = 0 ∧ p2 = 0
  win : (i : Int) ≤ F + M → WinE w0 w1 w2 s p0 p1 p2
  sh : Sh w0 w1 w2 p0 p1 p2
theorem WinE.init {w0 w1 w2 : Int} {s : St} (h : Ok w0 w1 w2 s) : WinE w0 w1 w2 s 0 0 0 := ⟨_, _, _, _, Win.init h⟩
theorem ShI.init {F M w0 w1 w2 : Int} {s : St} (h : Ok w0 w1 w2 s) : ShI F M w0 w1 w2 0 s 0 0 0 :=
  ⟨Nat.zero_le _, h, ⟨by decide, by decide⟩, ⟨by decide, by decide⟩, ⟨by decide, by decide⟩, fun _ => ⟨rfl, rfl, rfl⟩, fun _ => WinE.init h, s, h, WinE.init h⟩
theorem ShI.out {F M w0 w1 w2 : Int} {i : Nat} {s t : St} {p0 p1 p2 : Int} (h : ShI F M w0 w1 w2 i s p0 p1 p2) (hi : i < 120) (ht : Ok w0 w1 w2 t) (hc : (i : Int) < F ∨ F + M ≤ (i : Int)) : ShI F M w0 w1 w2 (i + 1) t p0 p1 p2 := by
  obtain ⟨_, _, b0, b1, b2, z, win, sh⟩ := h
  refine ⟨hi, ht, by omega, by omega, by omega, fun hh => z (by omega), fun hh => ?_, sh⟩
  obtain ⟨rfl, rfl, rfl⟩ := z (by omega)
  exact WinE.init ht
theorem upd_sel {d k p0 p1 p2 m : Int} (hd : T3 d) : upd3 d 0 (sel3 d p0 p1 p2 + m) p0 = upd3 d 0 (p0 + m) p0 ∧ upd3 d 1 (sel3 d p0 p1 p2 + m) p1 = upd3 d 1 (p1 + m) p1 ∧ upd3 d 2 (sel3 d p0 p1 p2 + m) p2 = upd3 d 2 (p2 + m) p2 := by
  rcases hd with rfl | rfl | rfl <;> exact ⟨rfl, rfl, rfl⟩
theorem ShI.into {F M w0 w1 w2 m : Int} {i : Nat} {s t u : St} {p0 p1 p2 : Int} (hv : WOK w0 w1 w2) (h : ShI F M w0 w1 w2 i s p0 p1 p2) (hi : i < 120) (he : pickS true true true w0 w1 w2 s = t) (hu : spS m t = u) (m1 : 1 ≤ m) (m2 : m ≤ 65536) (hf : F ≤ (i : Int)) (hm : (i : Int) < F + M) :
    ShI F M w0 w1 w2 (i + 1) u (upd3 t.now 0 (sel3 t.now p0 p1 p2 + m) p0) (upd3 t.now 1 (sel3 t.now p0 p1 p2 + m) p1) (upd3 t.now 2 (sel3 t.now p0 p1 p2 + m) p2) := by
  obtain ⟨_, ok, b0, b1, b2, z, win, sh⟩ := h
  have hok : Ok w0 w1 w2 t := he ▸ pickS_ok hv ok
  have hg : good true true true t = true := he ▸ pickS_is_good (h0 := true) (h1 := true) (h2 := true) rfl hv ok
  obtain ⟨n0, a0, a1, a2, W⟩ := win (by omega)
  obtain ⟨c0, c1, c2, W'⟩ := Win.pick hv ok ⟨a0, a1, a2, W⟩
  rw [he] at W'
  have W2 := W'.spend hok m1 m2 (good_cr hg).2
  rw [hu] at W2
  have hu' : Ok w0 w1 w2 u := hu ▸ spS_ok hok
  have e := upd_sel (k := 0) (p0 := p0) (p1 := p1) (p2 := p2) (m := m) (d := t.now) hok.n
  rw [e.1, e.2.1, e.2.2]
  have bb : ∀ k : Int, ∀ p : Int, (0 ≤ p ∧ p ≤ 65536 * (i : Int)) → (0 ≤ upd3 t.now k (p + m) p ∧ upd3 t.now k (p + m) p ≤ 65536 * ((i + 1 : Nat) : Int)) := fun k p hp => by
    unfold upd3; split <;> omega
  exact ⟨hi, hu', bb _ _ b0, bb _ _ b1, bb _ _ b2, fun hh => by exfalso; omega, fun _ => ⟨_, _, _, _, W2⟩, u, hu', _, _, _, _, W2⟩
theorem sel3_b {n a b c lo hi : Int} (h0 : lo ≤ a ∧ a ≤ hi) (h1 : lo ≤ b ∧ b ≤ hi) (h2 : lo ≤ c ∧ c ≤ hi) : lo ≤ sel3 n a b c ∧ sel3 n a b c ≤ hi := by
  unfold sel3; split; exact h0; split; exact h1; exact h2
/-- What a pick comes to. -/
structure Picked (h0 h1 h2 : Bool) (w0 w1 w2 a b c d : Int) : Prop where
  now : d = 0 ∨ d = 1 ∨ d = 2
  has : hasN h0 h1 h2 d = true
  pos : 0 < sel3 d a b c
  top : sel3 d a b c ≤ sel3 d w0 w1 w2
  le : sel3 d a b c ≤ 1048576
theorem picked {h0 h1 h2 : Bool} {w0 w1 w2 a b c d : Int} {s : St} (hv : WOK w0 w1 w2) (ho : Ok w0 w1 w2 s) (ha : (h0 || h1 || h2) = true) (he : pickS h0 h1 h2 w0 w1 w2 s = ⟨a, b, c, d⟩) : Picked h0 h1 h2 w0 w1 w2 a b c d := by
  have hg := pickS_is_good (h0 := h0) (h1 := h1) (h2 := h2) ha hv ho
  have hd := pickS_ok (h0 := h0) (h1 := h1) (h2 := h2) hv ho
  rw [he] at hg hd
  have g := good_cr hg
  obtain ⟨hn, l0, r0, l1, r1, l2, r2⟩ := hd
  have v0 := hv.r0; have v1 := hv.r1; have v2 := hv.r2
  dsimp only at hn l0 r0 l1 r1 l2 r2
  have t : sel3 d a b c ≤ sel3 d w0 w1 w2 := by
    rcases hn with rfl | rfl | rfl
    · exact r0
    · exact r1
    · exact r2
  exact ⟨hn, g.1, g.2, t, Int.le_trans t (sel3_b (lo := 1024) ⟨hv.l0, hv.r0⟩ ⟨hv.l1, hv.r1⟩ ⟨hv.l2, hv.r2⟩).2⟩
/-- What is spent behind a pick. -/
theorem spent_now {h0 h1 h2 : Bool} {w0 w1 w2 a b c d m a' b' c' d' : Int} (hp : Picked h0 h1 h2 w0 w1 w2 a b c d) (m1 : 1 ≤ m) (m2 : m ≤ 65536) (he : spS m ⟨a, b, c, d⟩ = ⟨a', b', c', d'⟩) :
    spE m ⟨a, b, c, d⟩ = 0 ∧ sel3 d a' b' c' = sel3 d a b c - m ∧ d' = d := by
  have h := spend_ok (m := m) (s := ⟨a, b, c, d⟩) m1 m2 hp.pos
  refine ⟨h.1, ?_⟩
  have h2 := h.2
  rw [he] at h2
  rcases hp.now with rfl | rfl | rfl
  · simp only [if_true, St.mk.injEq] at h2; obtain ⟨rfl, rfl, rfl, rfl⟩ := h2; exact ⟨rfl, rfl⟩
  · simp only [show ((1 : Int) = 0) = False by simp, if_true, if_false, St.mk.injEq] at h2; obtain ⟨rfl, rfl, rfl, rfl⟩ := h2; exact ⟨rfl, rfl⟩
  · simp only [show ((2 : Int) = 0) = False by simp, show ((2 : Int) = 1) = False by simp, if_false, St.mk.injEq] at h2; obtain ⟨rfl, rfl, rfl, rfl⟩ := h2; exact ⟨rfl, rfl⟩
/-- Two that have something. -/
theorem has_two {x y k : Int} (hx : T3 x) (hy : T3 y) (hk : T3 k) (h : hasN (updB y 0 true (updB x 0 true false)) (updB y 1 true (updB x 1 true false)) (updB y 2 true (updB x 2 true false)) k = true) : k = x ∨ k = y := by
  rcases hk with rfl | rfl | rfl <;> rcases hx with rfl | rfl | rfl <;> rcases hy with rfl | rfl | rfl <;> first | exact .inl rfl | exact .inr rfl | exact absurd h (by decide)
theorem any_two' {x y : Int} (hx : T3 x) : (updB y 0 true (updB x 0 true false) || updB y 1 true (updB x 1 true false) || updB y 2 true (updB x 2 true false)) = true := by
  unfold updB
  rcases hx with rfl | rfl | rfl <;> by_cases h0 : y = 0 <;> by_cases h1 : y = 1 <;> by_cases h2 : y = 2 <;> simp [h0, h1, h2]
theorem mod3 {x : Int} (h : 0 ≤ x) : T3 (x.tmod 3) := by
  rw [Int.tmod_eq_emod_of_nonneg h]; unfold T3; omega
theorem idx_mod {i l : Nat} : Int.tmod (i : Int) (l : Int) = ((i % l : Nat) : Int) := rfl
theorem pick_val {h0 h1 h2 : Bool} {w0 w1 w2 a b c d : Int} {s : St} (ha : (h0 || h1 || h2) = true) (he : pickS h0 h1 h2 w0 w1 w2 s = ⟨a, b, c, d⟩) :
    Value.tuple #[.int .i64 (pickN h0 h1 h2 w0 w1 w2 s), .bool (h0 || h1 || h2)] = .tuple #[.int .i64 d, .bool true] := by
  rw [pickN_some ha, he, ha]
end Go.Proofs.Ytkfilmdnpocinaa
