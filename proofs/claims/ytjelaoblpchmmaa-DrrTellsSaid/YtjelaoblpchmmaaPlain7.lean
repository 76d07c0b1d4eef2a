/-
  Plain laws of rounds: fairness.
-/
import Derived.Test.YtjelaoblpchmmaaPlain6
namespace Go.Proofs.Ytjelaoblpchmmaa
set_option linter.unusedVariables false
set_option linter.unusedSimpArgs false
set_option maxRecDepth 100000
open Go.RowKit
variable {N K : Nat}
/-- How many of the first so many turns are a flow's. -/
def cnt (N j T : Nat) : Nat := (T + N - 1 - j) / N
theorem cnt_step {N j T : Nat} (hN : 2 ≤ N ∧ N ≤ 8) (hj : j < N) : cnt N j (T + 1) = cnt N j T + if T % N = j then 1 else 0 := by
  have : N = 2 ∨ N = 3 ∨ N = 4 ∨ N = 5 ∨ N = 6 ∨ N = 7 ∨ N = 8 := by omega
  unfold cnt
  rcases this with rfl | rfl | rfl | rfl | rfl | rfl | rfl <;> split <;> omega
theorem cnt_fair {N a b T T0 : Nat} (hN : 2 ≤ N ∧ N ≤ 8) (ha : a < N) (hb : b < N) : ((cnt N a T : Int) - cnt N a T0) - ((cnt N b T : Int) - cnt N b T0) ≤ 1 := by
  have : N = 2 ∨ N = 3 ∨ N = 4 ∨ N = 5 ∨ N = 6 ∨ N = 7 ∨ N = 8 := by omega
  unfold cnt
  rcases this with rfl | rfl | rfl | rfl | rfl | rfl | rfl <;> omega
/-- The flows, turned so many times. -/
def rot (N T : Nat) : List Int := (List.range N).map fun j => (((T + j) % N : Nat) : Int)
theorem rot_cons (M T : Nat) : rot (M + 1) T = ((T % (M + 1) : Nat) : Int) :: (List.range M).map fun j => (((T + 1 + j) % (M + 1) : Nat) : Int) := by
  unfold rot
  rw [List.range_succ_eq_map, List.map_cons, List.map_map]
  congr 1
  apply List.map_congr_left
  intro j _
  show (((T + (j + 1)) % (M + 1) : Nat) : Int) = _
  rw [show T + (j + 1) = T + 1 + j by omega]
theorem rot_next (M T : Nat) : rot (M + 1) (T + 1) = ((List.range M).map fun j => (((T + 1 + j) % (M + 1) : Nat) : Int)) ++ [((T % (M + 1) : Nat) : Int)] := by
  unfold rot
  rw [List.range_succ, List.map_append, List.map_cons, List.map_nil, show T + 1 + M = T + (M + 1) by omega, Nat.add_mod_right]
theorem cred_b {x q : Int} (hx : 0 ≤ x) (hq : 64 ≤ q) : -4095 ≤ x.tmod (q + 4096) - 4095 ∧ x.tmod (q + 4096) - 4095 ≤ q := by
  rw [Int.tmod_eq_emod_of_nonneg hx]
  have h1 := Int.emod_nonneg x (b := q + 4096) (by omega)
  have h2 := Int.emod_lt_of_pos x (b := q + 4096) (by omega)
  omega
theorem size_b {x : Int} (hx : 0 ≤ x) : 1 ≤ 1 + x.tmod 4096 ∧ 1 + x.tmod 4096 ≤ 4096 := by
  rw [Int.tmod_eq_emod_of_nonneg hx]; omega
theorem mod_w {j m : Nat} (hj : j ≤ 120) : IntKind.wrap .i64 ((j : Int).tmod (m : Int)) = ((j % m : Nat) : Int) := by
  have := Nat.mod_le j m
  rw [← Int.ofNat_tmod]; exact wrap_i64 (by omega) (by omega)
namespace Ro
/-- So many flows have come back. -/
def BackI (q : Int) (s : Ro N) (i : Nat) : Prop := s.q = q ∧ s.c.lst 0 = [] ∧ s.c.lst 1 = (List.range i).map (fun (j : Nat) => (j : Int)) ∧ ∀ j : Nat, j < i → -4095 ≤ s.cd (j : Int) ∧ s.cd (j : Int) ≤ q
theorem BackI.start {r : Ro N} {q : Int} {h1 h2 h3} (e : r = Ro.new N q h1 h2 h3) : BackI q r 0 := by
  subst e
  exact ⟨rfl, Ch.lst_new, Ch.lst_new, fun j h => absurd h (Nat.not_lt_zero _)⟩
theorem BackI.step {s t : Ro N} {q x : Int} {i : Nat} (h : BackI q s i) (hi : i < N) (hx : -4095 ≤ x ∧ x ≤ q) (hq : q ≤ 65599) (e : t = s.enter 1 (i : Int) x) : BackI q t (i + 1) ∧ s.enterE 1 (i : Int) x = 0 := by
  obtain ⟨h1, h2, h3, h4⟩ := h
  have hni : s.c.inn (i : Int) = false := Bool.eq_false_iff.2 fun g => by
    have := in_all g
    unfold all at this
    rw [h2, h3, List.nil_append, List.mem_map] at this
    obtain ⟨j, hj, e⟩ := this
    rw [List.mem_range] at hj; omega
  have hp : s.c.pok 1 (i : Int) := ⟨by decide, ⟨by omega, by omega⟩, hni⟩
  have hm : mayB x = true := mayB_iff.2 (by omega)
  refine ⟨?_, by rw [enterE_t hm]; exact Ch.pushE_0 hp⟩
  rw [e, enter_t hm hp]
  refine ⟨h1, ?_, ?_, fun j hj => ?_⟩
  · show (s.c.push _ _).lst 0 = _
    rw [Ch.lst_push hp, if_neg (by decide)]; exact h2
  · show (s.c.push _ _).lst 1 = _
    rw [Ch.lst_push hp, if_pos rfl, h3, List.range_succ, List.map_append]; rfl
  · show -4095 ≤ (s.cr.set _ _).getD _ 0 ∧ (s.cr.set _ _).getD _ 0 ≤ q
    rw [getD_set _ _ _ _ (by rw [s.hl]; omega)]
    split
    · exact hx
    · exact h4 j (by omega)
/-- Where the rounds are: lo and hi: the stretch that counts. -/
def Fair (q : Int) (lo hi i : Nat) (s : Ro N) (ws : List Int) : Prop :=
  s.q = q ∧ s.c.lst 0 = [] ∧ (∀ j : Nat, j < N → -4095 ≤ s.cd (j : Int) ∧ s.cd (j : Int) ≤ q) ∧ ws.length = N ∧ (∀ j : Nat, j < N → 0 ≤ ws.getD j 0 ∧ ws.getD j 0 ≤ 4096 * (i : Int)) ∧ (∀ a b : Nat, a < N → b < N → ws.getD a 0 - ws.getD b 0 ≤ 3 * q + 8192) ∧ (i ≤ lo → ∀ j : Nat, j < N → ws.getD j 0 = 0) ∧
    ∃ T : Nat, s.c.lst 1 = rot N T ∧ (lo ≤ i → i ≤ hi → ∃ T0 : Nat, ∀ j : Nat, j < N → ∃ c : Int, -4095 ≤ c ∧ c ≤ q ∧ ws.getD j 0 + s.cd (j : Int) = c + q * ((cnt N j T : Int) - cnt N j T0))
theorem Fair.start {q : Int} {lo hi : Nat} {s : Ro N} {i : Nat} (h : BackI q s i) (hi' : N ≤ i) (hle : i ≤ N) (hq : 0 ≤ q) : Fair q lo hi 0 s (List.replicate N 0) := by
  obtain rfl : i = N := by omega
  obtain ⟨h1, h2, h3, h4⟩ := h
  refine ⟨h1, h2, h4, List.length_replicate, fun j _ => ?_, fun a b _ _ => ?_, fun _ j _ => getD_repI _ _, 0, ?_, fun _ _ => ⟨0, fun j hj => ⟨s.cd (j : Int), (h4 j hj).1, (h4 j hj).2, ?_⟩⟩⟩
  · rw [getD_repI]; omega
  · rw [getD_repI, getD_repI]; omega
  · rw [h3]; unfold rot
    apply List.map_congr_left
    intro j hj
    rw [List.mem_range] at hj
    rw [Nat.zero_add, Nat.mod_eq_of_lt hj]
  · rw [getD_repI, Int.sub_self, Int.mul_zero]; omega
theorem rot_f {s : Ro N} {T : Nat} (hN : 2 ≤ N) (h0 : s.c.lst 0 = []) (h1 : s.c.lst 1 = rot N T) : s.ok = true ∧ s.f = ((T % N : Nat) : Int) := by
  obtain ⟨M, rfl⟩ : ∃ M, N = M + 1 := ⟨N - 1, by omega⟩
  have ha : s.all = rot (M + 1) T := by unfold all; rw [h0, h1]; rfl
  rw [rot_cons] at ha
  exact ⟨ok_iff.2 (by rw [ha]; simp), by unfold f; rw [ha]; rfl⟩
theorem Fair.step {q : Int} {lo hi i : Nat} {s : Ro N} {ws : List Int} (hN : 2 ≤ N ∧ N ≤ 8) (hd : s.due) (h : Fair q lo hi i s ws) : Fair q lo hi i s.step ws := by
  obtain ⟨h1, h2, h3, h4, h5, h6, h7, T, hT, hW⟩ := h
  have hf := (rot_f hN.1 h2 hT).2
  have hTl := Nat.mod_lt T (show 0 < N by omega)
  have hr := s.hq
  have hcd : ∀ j : Nat, s.step.cd (j : Int) = if T % N = j then s.cd (j : Int) + q else s.cd (j : Int) := fun j => by
    unfold cd
    rw [(step_c hd).2, getD_set _ _ _ _ (by rw [s.hl, hf]; omega), hf, Int.toNat_natCast, Int.toNat_natCast]
    split
    · rename_i e; rw [← e, h1]; unfold cd; rw [Int.toNat_natCast]
    · rfl
  have hdue := hd.2
  rw [hf] at hdue
  refine ⟨(q_step s).trans h1, ?_, fun j hj => ?_, h4, h5, h6, h7, T + 1, ?_, fun g1 g2 => ?_⟩
  · rw [(step_c hd).1, (turn_lst s hd.1).1, h2]; rfl
  · rw [hcd]
    have := h3 j hj
    split
    · rename_i e; rw [e] at hdue; omega
    · exact this
  · obtain ⟨M, rfl⟩ : ∃ M, N = M + 1 := ⟨N - 1, by omega⟩
    rw [(step_c hd).1, (turn_lst s hd.1).2, hT, hf, rot_next, rot_cons]
    congr 1
    exact woI_cons (by rw [← rot_cons, ← hT]; exact s.c.nodup 1)
  · obtain ⟨T0, hc⟩ := hW g1 g2
    refine ⟨T0, fun j hj => ?_⟩
    obtain ⟨c, c1, c2, c3⟩ := hc j hj
    refine ⟨c, c1, c2, ?_⟩
    rw [hcd, cnt_step hN hj]
    split
    · push_cast
      rw [show ((cnt N j T : Int) + 1 - cnt N j T0) = ((cnt N j T : Int) - cnt N j T0) + 1 by omega, Int.mul_add, Int.mul_one]; omega
    · push_cast; rw [Int.add_zero]; exact c3
theorem Fair.head {q : Int} {lo hi i : Nat} {s t : Ro N} {ws : List Int} (hN : 2 ≤ N ∧ N ≤ 8) (h : Fair q lo hi i s ws) (e : t = s.head) : Fair q lo hi i t ws ∧ t.ok = true ∧ 0 < t.cd t.f ∧ t.cd t.f ≤ q ∧ (0 ≤ t.f ∧ t.f < (N : Int)) ∧ s.headC = t.cd t.f := by
  have hh := head_ind (P := fun s => Fair q lo hi i s ws) (fun r hd h => h.step hN hd) s.lack s (Nat.le_refl _) h
  rw [← e] at hh
  obtain ⟨hF, hn⟩ := hh
  obtain ⟨h1, h2, h3, h4, h5, h6, h7, T, hT, hW⟩ := hF
  have hf := rot_f hN.1 h2 hT
  have hTl := Nat.mod_lt T (show 0 < N by omega)
  have hb := h3 (T % N) hTl
  refine ⟨⟨h1, h2, h3, h4, h5, h6, h7, T, hT, hW⟩, hf.1, Classical.byContradiction fun g => hn ⟨hf.1, by omega⟩, by rw [hf.2]; exact hb.2, by rw [hf.2]; omega, headC_t e.symm hf.1⟩
theorem set_is {s : Ro N} {x : Int} (ho : s.ok = true) (hx : -4096 ≤ x ∧ x ≤ 65599) : s.setE x = 0 ∧ (s.set x).c = s.c ∧ (s.set x).cr = s.cr.set s.f.toNat x ∧ (s.set x).q = s.q := by
  have hm : mayB x = true := mayB_iff.2 (by omega)
  refine ⟨by unfold setE; rw [ho, hm]; rfl, ?_⟩
  rw [set_eq ⟨ho, hm⟩]; exact ⟨rfl, rfl, rfl⟩
section
variable {q z : Int} {lo hi i : Nat} {s t : Ro N} {ws : List Int}
theorem fair_of {T T0 : Nat} (hN : 2 ≤ N ∧ N ≤ 8) (hq : 0 ≤ q) (h3 : ∀ j : Nat, j < N → -4095 ≤ s.cd (j : Int) ∧ s.cd (j : Int) ≤ q) (h : ∀ j : Nat, j < N → ∃ c : Int, -4095 ≤ c ∧ c ≤ q ∧ ws.getD j 0 + s.cd (j : Int) = c + q * ((cnt N j T : Int) - cnt N j T0)) {a b : Nat} (ha : a < N) (hb : b < N) : ws.getD a 0 - ws.getD b 0 ≤ 3 * q + 8192 := by
  obtain ⟨c, c1, c2, c3⟩ := h a ha
  obtain ⟨d, d1, d2, d3⟩ := h b hb
  have f := cnt_fair (T := T) (T0 := T0) hN ha hb
  have g := Int.mul_le_mul_of_nonneg_left f hq
  rw [Int.mul_sub, Int.mul_one] at g
  have a3 := h3 a ha; have b3 := h3 b hb
  omega
theorem set_cd (ho : s.ok = true) (hx : -4096 ≤ s.cd s.f - z ∧ s.cd s.f - z ≤ 65599) (e : t = s.set (s.cd s.f - z)) (j : Nat) : t.cd (j : Int) = if s.f.toNat = j then s.cd (j : Int) - z else s.cd (j : Int) := by
  have hf := (f_in ho).2
  rw [e]
  show (s.set (s.cd s.f - z)).cr.getD (j : Int).toNat 0 = _
  rw [(set_is ho hx).2.2.1, getD_set _ _ _ _ (by rw [s.hl]; omega), Int.toNat_natCast]
  split
  · rename_i g; rw [← g]; unfold cd; rw [Int.toNat_natCast]
  · unfold cd; rw [Int.toNat_natCast]
theorem Fair.set (hN : 2 ≤ N ∧ N ≤ 8) (hq : 64 ≤ q ∧ q ≤ 65599) (hz : 1 ≤ z ∧ z ≤ 4096) (h : Fair q lo hi i s ws) (ho : s.ok = true) (hc : 0 < s.cd s.f) (e : t = s.set (s.cd s.f - z)) : s.setE (s.cd s.f - z) = 0 ∧ t.q = q ∧ t.c.lst 0 = [] ∧ t.c.lst 1 = s.c.lst 1 ∧ (∀ j : Nat, j < N → -4095 ≤ t.cd (j : Int) ∧ t.cd (j : Int) ≤ q) ∧ (∀ j : Nat, t.cd (j : Int) = if s.f.toNat = j then s.cd (j : Int) - z else s.cd (j : Int)) := by
  obtain ⟨h1, h2, h3, h4, h5, h6, h7, T, hT, hW⟩ := h
  have hf := (f_in ho).2
  have hfn : s.f = (s.f.toNat : Int) := by omega
  have hb := h3 s.f.toNat (by omega)
  rw [← hfn] at hb
  have hx : -4096 ≤ s.cd s.f - z ∧ s.cd s.f - z ≤ 65599 := by omega
  have hs := set_is ho hx
  have hcd := set_cd ho hx e
  refine ⟨hs.1, by rw [e, hs.2.2.2, h1], by rw [e, hs.2.1, h2], by rw [e, hs.2.1], fun j hj => ?_, hcd⟩
  rw [hcd]
  have := h3 j hj
  split
  · rename_i g; rw [← g, ← hfn] at this ⊢; omega
  · exact this
theorem Fair.count (hN : 2 ≤ N ∧ N ≤ 8) (hq : 64 ≤ q ∧ q ≤ 65599) (hz : 1 ≤ z ∧ z ≤ 4096) (h : Fair q lo hi i s ws) (ho : s.ok = true) (hc : 0 < s.cd s.f) (e : t = s.set (s.cd s.f - z)) (g1 : lo ≤ i) (g2 : i < hi) : Fair q lo hi (i + 1) t (ws.set s.f.toNat (ws.getD s.f.toNat 0 + z)) := by
  obtain ⟨a1, a2, a3, a4, a5, a6⟩ := Fair.set hN hq hz h ho hc e
  obtain ⟨h1, h2, h3, h4, h5, h6, h7, T, hT, hW⟩ := h
  have hf := (f_in ho).2
  have hws : ∀ j : Nat, (ws.set s.f.toNat (ws.getD s.f.toNat 0 + z)).getD j 0 = if s.f.toNat = j then ws.getD j 0 + z else ws.getD j 0 := fun j => by
    rw [getD_set _ _ _ _ (by rw [h4]; omega)]
    split
    · rename_i g; rw [g]
    · rfl
  obtain ⟨T0, hc0⟩ := hW g1 (by omega)
  have hnew : ∀ j : Nat, j < N → ∃ c : Int, -4095 ≤ c ∧ c ≤ q ∧ (ws.set s.f.toNat (ws.getD s.f.toNat 0 + z)).getD j 0 + t.cd (j : Int) = c + q * ((cnt N j T : Int) - cnt N j T0) := fun j hj => by
    obtain ⟨c, c1, c2, c3⟩ := hc0 j hj
    refine ⟨c, c1, c2, ?_⟩
    rw [hws, a6]
    split <;> omega
  refine ⟨a2, a3, a5, by rw [List.length_set]; exact h4, fun j hj => ?_, fun a b ha hb => fair_of hN (by omega) a5 hnew ha hb, fun g => by omega, T, a4.trans hT, fun _ _ => ⟨T0, hnew⟩⟩
  rw [hws]
  have := h5 j hj
  split <;> omega
theorem Fair.skip (hN : 2 ≤ N ∧ N ≤ 8) (hq : 64 ≤ q ∧ q ≤ 65599) (hz : 1 ≤ z ∧ z ≤ 4096) (h : Fair q lo hi i s ws) (ho : s.ok = true) (hc : 0 < s.cd s.f) (e : t = s.set (s.cd s.f - z)) (g : i < lo ∨ hi ≤ i) : Fair q lo hi (i + 1) t ws := by
  obtain ⟨a1, a2, a3, a4, a5, a6⟩ := Fair.set hN hq hz h ho hc e
  obtain ⟨h1, h2, h3, h4, h5, h6, h7, T, hT, hW⟩ := h
  refine ⟨a2, a3, a5, h4, fun j hj => by have := h5 j hj; omega, h6, fun g3 => h7 (by omega), T, a4.trans hT, fun g1 g2 => ⟨T, fun j hj => ⟨t.cd (j : Int), (a5 j hj).1, (a5 j hj).2, ?_⟩⟩⟩
  rw [h7 (by omega) j hj, Int.sub_self, Int.mul_zero]; omega
end
end Ro

end Go.Proofs.Ytjelaoblpchmmaa
