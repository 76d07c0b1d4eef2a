/-
  Plain laws of limits.
-/
import Derived.Test.YtnajiccihfdggaaFns
namespace Go.Proofs.Ytnajiccihfdggaa
set_option linter.unusedVariables false
set_option linter.unusedSimpArgs false
theorem leftF_rng {cs : Array Value} {r b f : Int} (hc : LC cs r b f) (n0 n1 n2 : Int) : 0 ≤ leftF r b f n0 n1 n2 ∧ leftF r b f n0 n1 n2 ≤ 9223372036854775807 := by
  have h0 := lessF_range (a := r) (b := n0) hc.rr
  have h1 := lessF_range (a := b) (b := n1) hc.br
  have h2 := lessF_range (a := f) (b := n2) hc.fr
  unfold leftF mn
  (repeat' split) <;> omega
def minf (a b : Int) : Int := if a ≤ b then 0 else if a - b > 9223372036854775807 then 9223372036854775807 else a - b
theorem lessF_minf {a b : Int} (ar : a ≤ 9223372036854775807) (bl : -9223372036854775808 ≤ b) : lessF a b = minf a b := by
  unfold lessF minf; (repeat' split) <;> omega
theorem law4_pos {cs : Array Value} {r b f : Int} (hc : LC cs r b f) (n0 n1 n2 : Int) : ((decide (leftF r b f n0 n1 n2 > 0)) != (whyF r b f n0 n1 n2 == 0)) = false := by
  have h0 : 0 ≤ lessF r n0 ∧ (0 < lessF r n0 ↔ ¬ n0 ≥ r) := by have := hc.rr; unfold lessF; (repeat' split) <;> omega
  have h1 : 0 ≤ lessF b n1 ∧ (0 < lessF b n1 ↔ ¬ n1 ≥ b) := by have := hc.br; unfold lessF; (repeat' split) <;> omega
  have h2 : 0 ≤ lessF f n2 ∧ (0 < lessF f n2 ↔ ¬ n2 ≥ f) := by have := hc.fr; unfold lessF; (repeat' split) <;> omega
  have e : (leftF r b f n0 n1 n2 > 0) ↔ whyF r b f n0 n1 n2 = 0 := by
    unfold leftF whyF mn
    (repeat' split) <;> omega
  by_cases h : leftF r b f n0 n1 n2 > 0
  · simp [h, e.1 h]
  · have h' : whyF r b f n0 n1 n2 ≠ 0 := fun x => h (e.2 x)
    simp [h, h']
theorem law4_L {cs : Array Value} {r b f : Int} (hc : LC cs r b f) {n0 n1 n2 : Int} (n0l : -9223372036854775808 ≤ n0) (n0r : n0 ≤ 9223372036854775807) (n1l : -9223372036854775808 ≤ n1) (n1r : n1 ≤ 9223372036854775807) (n2l : -9223372036854775808 ≤ n2) (n2r : n2 ≤ 9223372036854775807)
    (h0 : leftF r b f n0 n1 n2 ≠ 0) (hm : leftF r b f n0 n1 n2 ≠ 9223372036854775807) (d : Int) (hd : 0 ≤ d) (hd' : d ≤ leftF r b f n0 n1 n2) :
    leftF r b f (moreF n0 (leftF r b f n0 n1 n2 - d)) (moreF n1 (leftF r b f n0 n1 n2 - d)) (moreF n2 (leftF r b f n0 n1 n2 - d)) = d ∧
    moreF n0 (leftF r b f n0 n1 n2 - d) = n0 + leftF r b f n0 n1 n2 - d ∧ moreF n1 (leftF r b f n0 n1 n2 - d) = n1 + leftF r b f n0 n1 n2 - d ∧ moreF n2 (leftF r b f n0 n1 n2 - d) = n2 + leftF r b f n0 n1 n2 - d := by
  have hr := hc.rr; have hrl := hc.rl; have hb := hc.br; have hbl := hc.bl; have hf := hc.fr; have hfl := hc.fl
  have k0 : lessF r n0 = minf r n0 := lessF_minf hr n0l
  have k1 : lessF b n1 = minf b n1 := lessF_minf hb n1l
  have k2 : lessF f n2 = minf f n2 := lessF_minf hf n2l
  have hL : leftF r b f n0 n1 n2 ≤ minf r n0 ∧ leftF r b f n0 n1 n2 ≤ minf b n1 ∧ leftF r b f n0 n1 n2 ≤ minf f n2 ∧ (leftF r b f n0 n1 n2 = minf r n0 ∨ leftF r b f n0 n1 n2 = minf b n1 ∨ leftF r b f n0 n1 n2 = minf f n2) ∧ 0 ≤ leftF r b f n0 n1 n2 ∧ leftF r b f n0 n1 n2 ≤ 9223372036854775807 := by
    have p0 : 0 ≤ minf r n0 ∧ minf r n0 ≤ 9223372036854775807 := by unfold minf; (repeat' split) <;> omega
    have p1 : 0 ≤ minf b n1 ∧ minf b n1 ≤ 9223372036854775807 := by unfold minf; (repeat' split) <;> omega
    have p2 : 0 ≤ minf f n2 ∧ minf f n2 ≤ 9223372036854775807 := by unfold minf; (repeat' split) <;> omega
    unfold leftF mn
    rw [k0, k1, k2]
    (repeat' split) <;> omega
  generalize leftF r b f n0 n1 n2 = L at *
  obtain ⟨l0, l1, l2, le, lp, lq⟩ := hL
  have q0 : L ≤ r - n0 := by revert l0; unfold minf; (repeat' split) <;> omega
  have q1 : L ≤ b - n1 := by revert l1; unfold minf; (repeat' split) <;> omega
  have q2 : L ≤ f - n2 := by revert l2; unfold minf; (repeat' split) <;> omega
  have m0 : moreF n0 (L - d) = n0 + L - d := by unfold moreF; (repeat' split) <;> omega
  have m1 : moreF n1 (L - d) = n1 + L - d := by unfold moreF; (repeat' split) <;> omega
  have m2 : moreF n2 (L - d) = n2 + L - d := by unfold moreF; (repeat' split) <;> omega
  refine ⟨?_, m0, m1, m2⟩
  rw [m0, m1, m2]
  have s0 : lessF r (n0 + L - d) = minf r (n0 + L - d) := lessF_minf hr (by omega)
  have s1 : lessF b (n1 + L - d) = minf b (n1 + L - d) := lessF_minf hb (by omega)
  have s2 : lessF f (n2 + L - d) = minf f (n2 + L - d) := lessF_minf hf (by omega)
  unfold leftF mn
  rw [s0, s1, s2]
  have g0 : d ≤ minf r (n0 + L - d) ∧ (L = minf r n0 → minf r (n0 + L - d) = d) := by unfold minf; constructor <;> (repeat' split) <;> omega
  have g1 : d ≤ minf b (n1 + L - d) ∧ (L = minf b n1 → minf b (n1 + L - d) = d) := by unfold minf; constructor <;> (repeat' split) <;> omega
  have g2 : d ≤ minf f (n2 + L - d) ∧ (L = minf f n2 → minf f (n2 + L - d) = d) := by unfold minf; constructor <;> (repeat' split) <;> omega
  generalize minf r (n0 + L - d) = x0 at *
  generalize minf b (n1 + L - d) = x1 at *
  generalize minf f (n2 + L - d) = x2 at *
  rcases le with h | h | h
  · have := g0.2 h; (repeat' split) <;> omega
  · have := g1.2 h; (repeat' split) <;> omega
  · have := g2.2 h; (repeat' split) <;> omega

theorem law4_0 {cs : Array Value} {r b f : Int} (hc : LC cs r b f) {n0 n1 n2 : Int} (n0l : -9223372036854775808 ≤ n0) (n0r : n0 ≤ 9223372036854775807) (n1l : -9223372036854775808 ≤ n1) (n1r : n1 ≤ 9223372036854775807) (n2l : -9223372036854775808 ≤ n2) (n2r : n2 ≤ 9223372036854775807)
    (h0 : leftF r b f n0 n1 n2 ≠ 0) (hm : leftF r b f n0 n1 n2 ≠ 9223372036854775807) :
    leftF r b f (moreF n0 (leftF r b f n0 n1 n2)) (moreF n1 (leftF r b f n0 n1 n2)) (moreF n2 (leftF r b f n0 n1 n2)) = 0 := by
  have := (law4_L hc n0l n0r n1l n1r n2l n2r h0 hm 0 (by decide) (leftF_rng hc n0 n1 n2).1).1
  simpa only [Int.sub_zero] using this
theorem law4_1 {cs : Array Value} {r b f : Int} (hc : LC cs r b f) {n0 n1 n2 : Int} (n0l : -9223372036854775808 ≤ n0) (n0r : n0 ≤ 9223372036854775807) (n1l : -9223372036854775808 ≤ n1) (n1r : n1 ≤ 9223372036854775807) (n2l : -9223372036854775808 ≤ n2) (n2r : n2 ≤ 9223372036854775807)
    (h0 : leftF r b f n0 n1 n2 ≠ 0) (hm : leftF r b f n0 n1 n2 ≠ 9223372036854775807) :
    leftF r b f (moreF n0 (leftF r b f n0 n1 n2 - 1)) (moreF n1 (leftF r b f n0 n1 n2 - 1)) (moreF n2 (leftF r b f n0 n1 n2 - 1)) = 1 := by
  have h1 := (leftF_rng hc n0 n1 n2).1
  exact (law4_L hc n0l n0r n1l n1r n2l n2r h0 hm 1 (by decide) (by omega)).1
theorem law4_why {cs : Array Value} {r b f : Int} (hc : LC cs r b f) {n0 n1 n2 : Int} (h : leftF r b f n0 n1 n2 = 0) : whyF r b f n0 n1 n2 = if n0 ≥ r then 1 else if n1 ≥ b then 2 else 3 := by
  have h0 : 0 ≤ lessF r n0 ∧ (0 < lessF r n0 ↔ ¬ n0 ≥ r) := by have := hc.rr; unfold lessF; (repeat' split) <;> omega
  have h1 : 0 ≤ lessF b n1 ∧ (0 < lessF b n1 ↔ ¬ n1 ≥ b) := by have := hc.br; unfold lessF; (repeat' split) <;> omega
  have h2 : 0 ≤ lessF f n2 ∧ (0 < lessF f n2 ↔ ¬ n2 ≥ f) := by have := hc.fr; unfold lessF; (repeat' split) <;> omega
  revert h
  unfold leftF whyF mn
  (repeat' split) <;> omega
theorem LC.set0 {cs : Array Value} {r b f r' : Int} (h : LC cs r b f) (l : -9223372036854775808 ≤ r') (g : r' ≤ 9223372036854775807) : LC (cs.setIfInBounds 0 (.int .i64 r')) r' b f :=
  ⟨by simp [h.size], by
    rw [List.all_eq_true]; intro v hv; rw [Array.toList_setIfInBounds] at hv
    rcases List.mem_or_eq_of_mem_set hv with hv | rfl
    · exact List.all_eq_true.1 h.one v hv
    · rfl, by rw [Array.getElem?_setIfInBounds_self_of_lt (by rw [h.size]; decide)], by rw [Array.getElem?_setIfInBounds_ne (by decide)]; exact h.c3, by rw [Array.getElem?_setIfInBounds_ne (by decide)]; exact h.c4, l, g, h.bl, h.br, h.fl, h.fr⟩
theorem LC.set4 {cs : Array Value} {r b f r' : Int} (h : LC cs r b f) (l : -9223372036854775808 ≤ r') (g : r' ≤ 9223372036854775807) : LC (cs.setIfInBounds 4 (.int .i64 r')) r r' f :=
  ⟨by simp [h.size], by
    rw [List.all_eq_true]; intro v hv; rw [Array.toList_setIfInBounds] at hv
    rcases List.mem_or_eq_of_mem_set hv with hv | rfl
    · exact List.all_eq_true.1 h.one v hv
    · rfl, by rw [Array.getElem?_setIfInBounds_ne (by decide)]; exact h.c0, by rw [Array.getElem?_setIfInBounds_ne (by decide)]; exact h.c3, by rw [Array.getElem?_setIfInBounds_self_of_lt (by rw [h.size]; decide)], h.rl, h.rr, l, g, h.fl, h.fr⟩
theorem LC.set3 {cs : Array Value} {r b f r' : Int} (h : LC cs r b f) (l : -9223372036854775808 ≤ r') (g : r' ≤ 9223372036854775807) : LC (cs.setIfInBounds 3 (.int .i64 r')) r b r' :=
  ⟨by simp [h.size], by
    rw [List.all_eq_true]; intro v hv; rw [Array.toList_setIfInBounds] at hv
    rcases List.mem_or_eq_of_mem_set hv with hv | rfl
    · exact List.all_eq_true.1 h.one v hv
    · rfl, by rw [Array.getElem?_setIfInBounds_ne (by decide)]; exact h.c0, by rw [Array.getElem?_setIfInBounds_self_of_lt (by rw [h.size]; decide)], by rw [Array.getElem?_setIfInBounds_ne (by decide)]; exact h.c4, h.rl, h.rr, h.bl, h.br, l, g⟩
/-! Order -/
theorem moreF_ge {n x : Int} (h : 0 ≤ x) (nr : n ≤ 9223372036854775807) : n ≤ moreF n x := by unfold moreF; (repeat' split) <;> omega
theorem lessF_mono {a n m : Int} (ar : a ≤ 9223372036854775807) (nl : -9223372036854775808 ≤ n) (h : n ≤ m) : lessF a m ≤ lessF a n := by unfold lessF; (repeat' split) <;> omega
theorem lessF_monl {a c n : Int} (ar : c ≤ 9223372036854775807) (nl : -9223372036854775808 ≤ n) (h : a ≤ c) : lessF a n ≤ lessF c n := by unfold lessF; (repeat' split) <;> omega
theorem mn_mono {a b c d : Int} (h : a ≤ c) (g : b ≤ d) : mn a b ≤ mn c d := by unfold mn; (repeat' split) <;> omega
theorem whyF_zero {r b f n0 n1 n2 : Int} : whyF r b f n0 n1 n2 = 0 ↔ n0 < r ∧ n1 < b ∧ n2 < f := by unfold whyF; (repeat' split) <;> omega
theorem law5_62 {cs : Array Value} {r b f : Int} (hc : LC cs r b f) {n0 n1 n2 x y z : Int} (n0l : -9223372036854775808 ≤ n0) (n0r : n0 ≤ 9223372036854775807) (n1l : -9223372036854775808 ≤ n1) (n1r : n1 ≤ 9223372036854775807) (n2l : -9223372036854775808 ≤ n2) (n2r : n2 ≤ 9223372036854775807)
    (hx : 0 ≤ x) (hy : 0 ≤ y) (hz : 0 ≤ z) : decide (leftF r b f (moreF n0 x) (moreF n1 y) (moreF n2 z) > leftF r b f n0 n1 n2) = false :=
  decide_eq_false (Int.not_lt.2 (mn_mono (mn_mono (mn_mono (Int.le_refl _) (lessF_mono hc.rr n0l (moreF_ge hx n0r))) (lessF_mono hc.br n1l (moreF_ge hy n1r))) (lessF_mono hc.fr n2l (moreF_ge hz n2r))))
theorem law5_71 {cs : Array Value} {r b f : Int} (hc : LC cs r b f) {n0 n1 n2 x y z : Int} (n0l : -9223372036854775808 ≤ n0) (n1l : -9223372036854775808 ≤ n1) (n2l : -9223372036854775808 ≤ n2)
    (hx : 0 ≤ x) (hy : 0 ≤ y) (hz : 0 ≤ z) (xi : x ≤ 4294967295) (yi : y ≤ 4294967295) (zi : z ≤ 4294967295) : decide (leftF (moreF r x) (moreF b y) (moreF f z) n0 n1 n2 < leftF r b f n0 n1 n2) = false :=
  decide_eq_false (Int.not_lt.2 (mn_mono (mn_mono (mn_mono (Int.le_refl _) (lessF_monl (moreF_range hc.rl hc.rr (by omega) (by omega)).2 n0l (moreF_ge hx hc.rr))) (lessF_monl (moreF_range hc.bl hc.br (by omega) (by omega)).2 n1l (moreF_ge hy hc.br))) (lessF_monl (moreF_range hc.fl hc.fr (by omega) (by omega)).2 n2l (moreF_ge hz hc.fr))))
theorem law5_80 {cs : Array Value} {r b f : Int} (hc : LC cs r b f) {n0 n1 n2 x y z : Int} (n0r : n0 ≤ 9223372036854775807) (n1r : n1 ≤ 9223372036854775807) (n2r : n2 ≤ 9223372036854775807)
    (hx : 0 ≤ x) (hy : 0 ≤ y) (hz : 0 ≤ z) (h : (whyF r b f n0 n1 n2 != 0) = true) : (whyF r b f (moreF n0 x) (moreF n1 y) (moreF n2 z) == 0) = false := by
  have h' : whyF r b f n0 n1 n2 ≠ 0 := by simpa using h
  rw [beq_eq_false_iff_ne]
  intro e
  have := whyF_zero.1 e
  have a0 := moreF_ge hx n0r; have a1 := moreF_ge hy n1r; have a2 := moreF_ge hz n2r
  exact h' (whyF_zero.2 (by omega))
theorem law5_92 {cs : Array Value} {r b f : Int} (hc : LC cs r b f) {n0 n1 n2 x y z : Int}
    (hx : 0 ≤ x) (hy : 0 ≤ y) (hz : 0 ≤ z) (h : (whyF r b f n0 n1 n2 == 0) = true) : (whyF (moreF r x) (moreF b y) (moreF f z) n0 n1 n2 != 0) = false := by
  have h' : whyF r b f n0 n1 n2 = 0 := by simpa using h
  have := whyF_zero.1 h'
  have a0 := moreF_ge hx hc.rr; have a1 := moreF_ge hy hc.br; have a2 := moreF_ge hz hc.fr
  have : whyF (moreF r x) (moreF b y) (moreF f z) n0 n1 n2 = 0 := whyF_zero.2 (by omega)
  simp [this]
theorem law5_106 (r b f n0 n1 n2 : Int) : ((whyF r b f n0 n1 n2 == 1) == (decide (n0 ≥ r))) = true := by unfold whyF; (repeat' split) <;> simp_all
theorem law5_115 {r b f n0 n1 n2 : Int} (h : (whyF r b f n0 n1 n2 != 3) = false) : decide (n2 ≥ f) = true := by revert h; unfold whyF; (repeat' split) <;> simp_all
theorem law5_120 {r b f n0 n1 n2 : Int} (h : (whyF r b f n0 n1 n2 != 3) = false) : decide (n1 < b) = true := by revert h; unfold whyF; (repeat' split) <;> simp_all
theorem law5_132 {r b f n0 n1 n2 : Int} (h : (whyF r b f n0 n1 n2 != 2) = false) : decide (n1 ≥ b) = true := by revert h; unfold whyF; (repeat' split) <;> simp_all
/-! Most -/
theorem most_small {r b f : Int} (r0 : 0 ≤ r) (r1 : r ≤ 300) (b0 : 0 ≤ b) (b1 : b ≤ 300) (f0 : 0 ≤ f) (f1 : f ≤ 300) {i : Int} (i0 : 0 ≤ i) : leftF r b f i i i = mn (mn (lessF r i) (lessF b i)) (lessF f i) ∧ lessF r i = (if r ≤ i then 0 else r - i) ∧ lessF b i = (if b ≤ i then 0 else b - i) ∧ lessF f i = (if f ≤ i then 0 else f - i) := by
  have e0 : lessF r i = (if r ≤ i then 0 else r - i) := by unfold lessF; (repeat' split) <;> omega
  have e1 : lessF b i = (if b ≤ i then 0 else b - i) := by unfold lessF; (repeat' split) <;> omega
  have e2 : lessF f i = (if f ≤ i then 0 else f - i) := by unfold lessF; (repeat' split) <;> omega
  refine ⟨?_, e0, e1, e2⟩
  unfold leftF mn
  rw [e0, e1, e2]; (repeat' split) <;> omega
theorem most_left {r b f : Int} (r0 : 0 ≤ r) (r1 : r ≤ 300) (b0 : 0 ≤ b) (b1 : b ≤ 300) (f0 : 0 ≤ f) (f1 : f ≤ 300) : leftF r b f 0 0 0 = mn (mn r b) f ∧ 0 ≤ leftF r b f 0 0 0 ∧ leftF r b f 0 0 0 ≤ 300 ∧ ∀ i, 0 ≤ i → i ≤ leftF r b f 0 0 0 → leftF r b f i i i = leftF r b f 0 0 0 - i ∧ (whyF r b f i i i = 0 ↔ i < leftF r b f 0 0 0) := by
  obtain ⟨e, e0, e1, e2⟩ := most_small r0 r1 b0 b1 f0 f1 (i := 0) (by decide)
  have E : leftF r b f 0 0 0 = mn (mn r b) f := by rw [e, e0, e1, e2]; unfold mn; (repeat' split) <;> omega
  refine ⟨E, ?_, ?_, fun i hi hL => ?_⟩
  · rw [E]; unfold mn; (repeat' split) <;> omega
  · rw [E]; unfold mn; (repeat' split) <;> omega
  · rw [E] at hL ⊢
    obtain ⟨d, d0, d1, d2⟩ := most_small r0 r1 b0 b1 f0 f1 hi
    rw [d, d0, d1, d2, whyF_zero]
    revert hL; unfold mn
    (repeat' split) <;> omega
theorem tm {x : Int} (h : (Lit.int .u16 x).wf = true) : 0 ≤ x.tmod 301 ∧ x.tmod 301 ≤ 300 := by
  have := bounds_u16 h
  rw [Int.tmod_eq_emod_of_nonneg this.1]; omega
/-! With -/
def fits5 (n0 n1 n2 x y : Int) : Bool := decide ((-2305843009213693952 ≤ n0 ∧ n0 ≤ 2305843009213693952) ∧ (-2305843009213693952 ≤ n1 ∧ n1 ≤ 2305843009213693952) ∧ (-2305843009213693952 ≤ n2 ∧ n2 ≤ 2305843009213693952) ∧ (-2305843009213693952 ≤ x ∧ x ≤ 2305843009213693952) ∧ (-2305843009213693952 ≤ y ∧ y ≤ 2305843009213693952))
theorem moreF_inv {n x : Int} (h : -2305843009213693952 ≤ n ∧ n ≤ 2305843009213693952) (g : -2305843009213693952 ≤ x ∧ x ≤ 2305843009213693952) : moreF (moreF n x) (-x) = n := by
  have : moreF n x = n + x := by unfold moreF; (repeat' split) <;> omega
  rw [this]; unfold moreF; (repeat' split) <;> omega
theorem moreF_zero {n : Int} (h : -2305843009213693952 ≤ n ∧ n ≤ 2305843009213693952) : moreF n 0 = n := by unfold moreF; (repeat' split) <;> omega
theorem moreF_assoc {n x y : Int} (h : -2305843009213693952 ≤ n ∧ n ≤ 2305843009213693952) (g : -2305843009213693952 ≤ x ∧ x ≤ 2305843009213693952) (k : -2305843009213693952 ≤ y ∧ y ≤ 2305843009213693952) : moreF (moreF n x) y = moreF n (x + y) := by
  have : moreF n x = n + x := by unfold moreF; (repeat' split) <;> omega
  rw [this]; unfold moreF; (repeat' split) <;> omega
theorem law7_53 {n0 n1 n2 x y : Int} (h : fits5 n0 n1 n2 x y = true) : eqA #[.int .i64 (moreF (moreF n0 x) (-x)), .int .i64 (moreF (moreF n1 x) (-x)), .int .i64 (moreF (moreF n2 x) (-x))] #[.int .i64 n0, .int .i64 n1, .int .i64 n2] = true := by
  obtain ⟨h0, h1, h2, hx, hy⟩ := of_decide_eq_true h
  rw [moreF_inv h0 hx, moreF_inv h1 hx, moreF_inv h2 hx]; exact eqA_true rfl
theorem law7_57 {n0 n1 n2 x y : Int} (h : fits5 n0 n1 n2 x y = true) : eqA #[.int .i64 (moreF n0 0), .int .i64 (moreF n1 0), .int .i64 (moreF n2 0)] #[.int .i64 n0, .int .i64 n1, .int .i64 n2] = true := by
  obtain ⟨h0, h1, h2, hx, hy⟩ := of_decide_eq_true h
  rw [moreF_zero h0, moreF_zero h1, moreF_zero h2]; exact eqA_true rfl
theorem law7_70 {n0 n1 n2 x y : Int} (h : fits5 n0 n1 n2 x y = true) : eqA #[.int .i64 (moreF (moreF n0 x) y), .int .i64 (moreF (moreF n1 x) y), .int .i64 (moreF (moreF n2 x) y)] #[.int .i64 (moreF n0 (x + y)), .int .i64 (moreF n1 (x + y)), .int .i64 (moreF n2 (x + y))] = true := by
  obtain ⟨h0, h1, h2, hx, hy⟩ := of_decide_eq_true h
  rw [moreF_assoc h0 hx hy, moreF_assoc h1 hx hy, moreF_assoc h2 hx hy]; exact eqA_true rfl
theorem law7_add {n0 n1 n2 x y : Int} (h : fits5 n0 n1 n2 x y = true) : -9223372036854775808 ≤ x + y ∧ x + y ≤ 9223372036854775807 := by
  obtain ⟨h0, h1, h2, hx, hy⟩ := of_decide_eq_true h
  omega
theorem law7_neg {n0 n1 n2 x y : Int} (h : fits5 n0 n1 n2 x y = true) : -9223372036854775808 ≤ -x ∧ -x ≤ 9223372036854775807 := by
  obtain ⟨h0, h1, h2, hx, hy⟩ := of_decide_eq_true h
  omega
theorem law7_ge (n0 : Int) (nr : n0 ≤ 9223372036854775807) : n0 ≤ moreF n0 9223372036854775807 := moreF_ge (by decide) nr
end Go.Proofs.Ytnajiccihfdggaa
