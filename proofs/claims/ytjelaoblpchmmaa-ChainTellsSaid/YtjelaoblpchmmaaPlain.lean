/-
  Chains, without a program: links, and the lists that they are.
-/
import Derived.Test.YtjelaoblpchmmaaAt
namespace Go.Proofs.Ytjelaoblpchmmaa
set_option linter.unusedVariables false
set_option linter.unusedSimpArgs false
set_option maxRecDepth 100000
open Go.RowKit
/-- Links, by pairs: what is ahead of a place, and what is behind it. -/
def nx (lk : List Int) (a : Nat) : Int := lk.getD (2 * a + 1) 0
def pv (lk : List Int) (a : Nat) : Int := lk.getD (2 * a) 0
def Lk (lk : List Int) (a b : Nat) : Prop := nx lk a = (b : Int) ∧ pv lk b = (a : Int)
def Path (lk : List Int) : List Nat → Prop
  | a :: b :: t => Lk lk a b ∧ Path lk (b :: t)
  | _ => True
theorem Path.cons {lk : List Int} {a b : Nat} {t : List Nat} : Path lk (a :: b :: t) ↔ Lk lk a b ∧ Path lk (b :: t) := by rw [Path]
theorem Path.one {lk : List Int} {a : Nat} : Path lk [a] := by simp [Path]
theorem Path.split {lk : List Int} {b : Nat} {C : List Nat} : ∀ {A : List Nat}, Path lk (A ++ b :: C) ↔ Path lk (A ++ [b]) ∧ Path lk (b :: C)
  | [] => by simp [Path.one]
  | [a] => by rw [List.cons_append, List.nil_append, List.cons_append, List.nil_append, Path.cons, Path.cons]; simp [Path.one]
  | a :: a' :: A => by
    rw [List.cons_append, List.cons_append, List.cons_append, List.cons_append, Path.cons, Path.cons, ← List.cons_append, ← List.cons_append, Path.split (A := a' :: A)]
    exact and_assoc.symm
theorem Path.congr {lk lk' : List Int} : ∀ {L : List Nat}, Path lk L → (∀ a ∈ L.dropLast, nx lk' a = nx lk a) → (∀ b ∈ L.tail, pv lk' b = pv lk b) → Path lk' L
  | [], _, _, _ => by simp [Path]
  | [a], _, _, _ => Path.one
  | a :: b :: t, h, hn, hp => by
    rw [Path.cons] at h ⊢
    refine ⟨⟨?_, ?_⟩, Path.congr h.2 (fun c hc => hn c ?_) (fun c hc => hp c ?_)⟩
    · rw [hn a (by simp)]; exact h.1.1
    · rw [hp b (by simp)]; exact h.1.2
    · rw [List.dropLast_cons_cons]; exact List.mem_cons_of_mem _ hc
    · exact List.mem_cons_of_mem _ hc
theorem getD_set (xs : List Int) (i j : Nat) (v : Int) (h : i < xs.length) : (xs.set i v).getD j 0 = if i = j then v else xs.getD j 0 := by
  rw [List.getD_eq_getElem?_getD, List.getD_eq_getElem?_getD, List.getElem?_set]
  by_cases hij : i = j
  · subst hij; simp [h]
  · simp [hij]
theorem getD_setL (xs : List (List Nat)) (i j : Nat) (v : List Nat) (h : i < xs.length) : (xs.set i v).getD j [] = if i = j then v else xs.getD j [] := by
  rw [List.getD_eq_getElem?_getD, List.getD_eq_getElem?_getD, List.getElem?_set]
  by_cases hij : i = j
  · subst hij; simp [h]
  · simp [hij]
/-- One behind the other. -/
def jn (lk : List Int) (a b : Nat) : List Int := (lk.set (2 * a + 1) (b : Int)).set (2 * b) (a : Int)
theorem jn_len {lk : List Int} {a b : Nat} : (jn lk a b).length = lk.length := by simp [jn]
theorem nx_jn {lk : List Int} {a b c m : Nat} (hl : lk.length = 2 * m) (ha : a < m) (hb : b < m) : nx (jn lk a b) c = if a = c then (b : Int) else nx lk c := by
  unfold nx jn
  rw [getD_set _ _ _ _ (by rw [List.length_set]; omega), getD_set _ _ _ _ (by omega), if_neg (by omega)]
  by_cases h : a = c
  · rw [if_pos (by omega), if_pos h]
  · rw [if_neg (by omega), if_neg h]
theorem pv_jn {lk : List Int} {a b c m : Nat} (hl : lk.length = 2 * m) (ha : a < m) (hb : b < m) : pv (jn lk a b) c = if b = c then (a : Int) else pv lk c := by
  unfold pv jn
  rw [getD_set _ _ _ _ (by rw [List.length_set]; omega), getD_set _ _ _ _ (by omega)]
  by_cases h : b = c
  · rw [if_pos (by omega), if_pos h]
  · rw [if_neg (by omega), if_neg h, if_neg (by omega)]
/-- A place alone. -/
def sf (lk : List Int) (a : Nat) : List Int := (lk.set (2 * a) (a : Int)).set (2 * a + 1) (a : Int)
theorem sf_len {lk : List Int} {a : Nat} : (sf lk a).length = lk.length := by simp [sf]
theorem nx_sf {lk : List Int} {a c m : Nat} (hl : lk.length = 2 * m) (ha : a < m) : nx (sf lk a) c = if a = c then (a : Int) else nx lk c := by
  unfold nx sf
  rw [getD_set _ _ _ _ (by rw [List.length_set]; omega), getD_set _ _ _ _ (by omega)]
  by_cases h : a = c
  · rw [if_pos (by omega), if_pos h]
  · rw [if_neg (by omega), if_neg h, if_neg (by omega)]
theorem pv_sf {lk : List Int} {a c m : Nat} (hl : lk.length = 2 * m) (ha : a < m) : pv (sf lk a) c = if a = c then (a : Int) else pv lk c := by
  unfold pv sf
  rw [getD_set _ _ _ _ (by rw [List.length_set]; omega), getD_set _ _ _ _ (by omega), if_neg (by omega)]
  by_cases h : a = c
  · rw [if_pos (by omega), if_pos h]
  · rw [if_neg (by omega), if_neg h]
structure Rep (N K : Nat) (lk of mn : List Int) (ls : List (List Nat)) : Prop where
  l1 : lk.length = 2 * (N + K)
  l2 : of.length = N
  l3 : mn.length = K
  l4 : ls.length = K
  path : ∀ k, k < K → Path lk ((N + k) :: (ls.getD k [] ++ [N + k]))
  nd : ∀ k, k < K → (ls.getD k []).Nodup
  node : ∀ k, k < K → ∀ x ∈ ls.getD k [], x < N ∧ of.getD x 0 = (k : Int) + 1
  free : ∀ x, x < N → of.getD x 0 = 0 ∨ ∃ k, k < K ∧ x ∈ ls.getD k []
  many : ∀ k, k < K → mn.getD k 0 = ((ls.getD k []).length : Int)
theorem last_of (r : Nat) : ∀ l : List Nat, ∃ L0 z, r :: l = L0 ++ [z] ∧ (∀ x ∈ L0, x ∈ r :: l) ∧ (z = r ∨ z ∈ l)
  | [] => ⟨[], r, rfl, fun _ h => by simp at h, .inl rfl⟩
  | a :: t => by
    obtain ⟨L0, z, he, h1, h2⟩ := last_of a t
    refine ⟨r :: L0, z, by rw [he]; rfl, fun x hx => ?_, ?_⟩
    · rcases List.mem_cons.1 hx with rfl | hx
      · exact List.mem_cons_self ..
      · exact List.mem_cons_of_mem _ (h1 x hx)
    · rcases h2 with rfl | h2
      · exact .inr (List.mem_cons_self ..)
      · exact .inr (List.mem_cons_of_mem _ h2)
theorem path_last {lk : List Int} {r : Nat} {l L0 : List Nat} {z : Nat} (h : Path lk (r :: (l ++ [r]))) (he : r :: l = L0 ++ [z]) : Lk lk z r ∧ Path lk (L0 ++ [z]) := by
  have e : r :: (l ++ [r]) = L0 ++ z :: [r] := by rw [← List.cons_append, he]; simp
  rw [e, Path.split] at h
  exact ⟨(Path.cons.1 h.2).1, h.1⟩
theorem tail_sub {L0 : List Nat} {z r : Nat} {l : List Nat} (he : r :: l = L0 ++ [z]) : (L0 ++ [z]).tail = l := by rw [← he]; rfl
theorem nodup_last {L0 : List Nat} {z r : Nat} {l : List Nat} (he : r :: l = L0 ++ [z]) (hnd : (r :: l).Nodup) : ∀ x ∈ L0, x ≠ z := by
  rw [he] at hnd
  intro x hx e
  exact (List.nodup_append.1 hnd).2.2 x hx z (by simp) e
variable {N K : Nat} {lk of mn : List Int} {ls : List (List Nat)}
theorem Rep.ring_last (h : Rep N K lk of mn ls) {k : Nat} (hk : k < K) : ∃ (L0 : List Nat) (z : Nat), (N + k) :: ls.getD k [] = L0 ++ [z] ∧ pv lk (N + k) = (z : Int) ∧ z < N + K ∧ (z = N + k ∨ z ∈ ls.getD k []) := by
  obtain ⟨L0, z, he, h1, h2⟩ := last_of (N + k) (ls.getD k [])
  refine ⟨L0, z, he, (path_last (h.path k hk) he).1.2, ?_, h2⟩
  rcases h2 with rfl | h2
  · omega
  · have := (h.node k hk z h2).1; omega
theorem Rep.push (h : Rep N K lk of mn ls) {k n : Nat} (hk : k < K) (hn : n < N) (h0 : of.getD n 0 = 0) : Rep N K (jn (jn lk (pv lk (N + k)).toNat n) n (N + k)) (of.set n ((k : Int) + 1)) (mn.set k (mn.getD k 0 + 1)) (ls.set k (ls.getD k [] ++ [n])) := by
  have hfree : ∀ j, j < K → n ∉ ls.getD j [] := fun j hj hx => by have := (h.node j hj n hx).2; omega
  obtain ⟨L0, z, he, hz, hzl, hzm⟩ := h.ring_last hk
  have hzt : (pv lk (N + k)).toNat = z := by rw [hz]; rfl
  rw [hzt]
  have hnz : n ≠ z := fun e => by rcases hzm with h' | h'; omega; exact hfree k hk (e ▸ h')
  have NX : ∀ c, nx (jn (jn lk z n) n (N + k)) c = if n = c then ((N + k : Nat) : Int) else if z = c then (n : Int) else nx lk c := fun c => by
    rw [nx_jn (by rw [jn_len]; exact h.l1) (by omega) (by omega), nx_jn h.l1 hzl (by omega)]
  have PV : ∀ c, pv (jn (jn lk z n) n (N + k)) c = if N + k = c then (n : Int) else if n = c then (z : Int) else pv lk c := fun c => by
    rw [pv_jn (by rw [jn_len]; exact h.l1) (by omega) (by omega), pv_jn h.l1 hzl (by omega)]
  have hg : ∀ j, (ls.set k (ls.getD k [] ++ [n])).getD j [] = if k = j then ls.getD k [] ++ [n] else ls.getD j [] := fun j => getD_setL _ _ _ _ (by rw [h.l4]; exact hk)
  refine ⟨by rw [jn_len, jn_len]; exact h.l1, by rw [List.length_set]; exact h.l2, by rw [List.length_set]; exact h.l3, by rw [List.length_set]; exact h.l4, fun j hj => ?_, fun j hj => ?_, fun j hj x hx => ?_, fun x hx => ?_, fun j hj => ?_⟩
  · rw [hg]
    by_cases hkj : k = j
    · subst hkj
      rw [if_pos rfl]
      have e : (N + k) :: (ls.getD k [] ++ [n] ++ [N + k]) = L0 ++ z :: [n, N + k] := by
        rw [← List.cons_append, ← List.cons_append, he]; simp
      rw [e, Path.split, Path.cons, Path.cons]
      refine ⟨(path_last (h.path k hk) he).2.congr (fun a ha => ?_) (fun b hb => ?_), ⟨?_, ?_⟩, ⟨?_, ?_⟩, Path.one⟩
      · rw [List.dropLast_concat] at ha
        have ha' : a ∈ (N + k) :: ls.getD k [] := by rw [he]; exact List.mem_append_left _ ha
        have hnd : ((N + k) :: ls.getD k []).Nodup := List.nodup_cons.2 ⟨fun hx => by have := (h.node k hk _ hx).1; omega, h.nd k hk⟩
        rw [NX, if_neg (fun e => ?_), if_neg (fun e => nodup_last he hnd a ha e.symm)]
        subst e
        rcases List.mem_cons.1 ha' with h' | h'
        · omega
        · exact hfree k hk h'
      · rw [tail_sub he] at hb
        rw [PV, if_neg (fun e => by have := (h.node k hk b hb).1; omega), if_neg (fun (e : n = b) => hfree k hk (e ▸ hb))]
      · rw [NX, if_neg hnz, if_pos rfl]
      · rw [PV, if_neg (by omega), if_pos rfl]
      · rw [NX, if_pos rfl]
      · rw [PV, if_pos rfl]
    · rw [if_neg hkj]
      refine (h.path j hj).congr (fun a ha => ?_) (fun b hb => ?_)
      · have ha' : a = N + j ∨ a ∈ ls.getD j [] := by
          rw [← List.cons_append, List.dropLast_concat] at ha
          exact List.mem_cons.1 ha
        rw [NX, if_neg (fun e => ?_), if_neg (fun e => ?_)]
        · rcases ha' with h' | h'
          · rcases hzm with g | g
            · omega
            · have := (h.node k hk z g).1; omega
          · rcases hzm with g | g
            · have := (h.node j hj a h').1; omega
            · have h1 := (h.node j hj a h').2; have h2 := (h.node k hk z g).2; rw [e] at h2; omega
        · rcases ha' with h' | h'
          · omega
          · exact hfree j hj (e ▸ h')
      · have hb' : b ∈ ls.getD j [] ∨ b = N + j := by simpa using hb
        rw [PV, if_neg (fun e => ?_), if_neg (fun e => ?_)]
        · rcases hb' with h' | h'
          · exact hfree j hj (e ▸ h')
          · omega
        · rcases hb' with h' | h'
          · have := (h.node j hj b h').1; omega
          · omega
  · rw [hg]
    by_cases hkj : k = j
    · subst hkj
      rw [if_pos rfl]
      exact List.nodup_append.2 ⟨h.nd k hk, by simp, fun a ha b hb e => by
        rw [List.mem_singleton] at hb; subst hb; subst e; exact hfree k hk ha⟩
    · rw [if_neg hkj]; exact h.nd j hj
  · rw [hg] at hx
    rw [getD_set _ _ _ _ (by rw [h.l2]; exact hn)]
    by_cases hkj : k = j
    · subst hkj
      rw [if_pos rfl] at hx
      rcases List.mem_append.1 hx with h' | h'
      · refine ⟨(h.node k hk x h').1, ?_⟩
        rw [if_neg (fun (e : n = x) => hfree k hk (e ▸ h'))]; exact (h.node k hk x h').2
      · rw [List.mem_singleton] at h'; subst h'
        exact ⟨hn, if_pos rfl⟩
    · rw [if_neg hkj] at hx
      refine ⟨(h.node j hj x hx).1, ?_⟩
      rw [if_neg (fun (e : n = x) => hfree j hj (e ▸ hx))]; exact (h.node j hj x hx).2
  · rw [getD_set _ _ _ _ (by rw [h.l2]; exact hn)]
    by_cases hnx : n = x
    · subst hnx
      exact .inr ⟨k, hk, by rw [hg, if_pos rfl]; simp⟩
    · rw [if_neg hnx]
      rcases h.free x hx with h' | ⟨j, hj, h'⟩
      · exact .inl h'
      · refine .inr ⟨j, hj, ?_⟩
        rw [hg]
        by_cases hkj : k = j
        · subst hkj; rw [if_pos rfl]; exact List.mem_append_left _ h'
        · rw [if_neg hkj]; exact h'
  · rw [hg, getD_set _ _ _ _ (by rw [h.l3]; exact hk)]
    by_cases hkj : k = j
    · subst hkj; rw [if_pos rfl, if_pos rfl, h.many k hk]; simp
    · rw [if_neg hkj, if_neg hkj]; exact h.many j hj
/-- A list without a node. -/
def wo (n : Nat) (l : List Nat) : List Nat := l.filter fun y => y != n
theorem mem_wo {n x : Nat} {l : List Nat} : x ∈ wo n l ↔ x ∈ l ∧ x ≠ n := by simp [wo]
theorem wo_no {n : Nat} {l : List Nat} (h : n ∉ l) : wo n l = l := by
  unfold wo; rw [List.filter_eq_self]; intro a ha; simp only [bne_iff_ne]; exact fun e => h (e ▸ ha)
theorem wo_mid {n : Nat} {A B : List Nat} (hd : (A ++ n :: B).Nodup) : wo n (A ++ n :: B) = A ++ B := by
  have h := List.nodup_append.1 hd
  have h2 := List.nodup_cons.1 h.2.1
  have hA : n ∉ A := fun hx => h.2.2 n hx n (by simp) rfl
  unfold wo
  rw [List.filter_append, List.filter_cons_of_neg (by simp)]
  have e1 := wo_no hA; have e2 := wo_no h2.1; unfold wo at e1 e2; rw [e1, e2]
theorem first_of (l : List Nat) (r : Nat) : ∃ q R0, l ++ [r] = q :: R0 ∧ (q = r ∨ q ∈ l) := by
  cases l with
  | nil => exact ⟨r, [], rfl, .inl rfl⟩
  | cons a t => exact ⟨a, t ++ [r], rfl, .inr (by simp)⟩
theorem path_mid {lk : List Int} {r n : Nat} {A B L0 R0 : List Nat} {p q : Nat} (h : Path lk (r :: (A ++ n :: B ++ [r]))) (he : r :: A = L0 ++ [p]) (hf : B ++ [r] = q :: R0) :
    Path lk (L0 ++ [p]) ∧ Lk lk p n ∧ Lk lk n q ∧ Path lk (q :: R0) := by
  have e : r :: (A ++ n :: B ++ [r]) = L0 ++ p :: n :: q :: R0 := by
    have : r :: (A ++ n :: B ++ [r]) = (r :: A) ++ n :: (B ++ [r]) := by simp
    rw [this, he, hf]; simp
  rw [e, Path.split, Path.cons, Path.cons] at h
  exact ⟨h.1, h.2.1, h.2.2.1, h.2.2.2⟩
theorem Rep.mid (h : Rep N K lk of mn ls) {k n : Nat} (hk : k < K) (hx : n ∈ ls.getD k []) : ∃ (A B L0 R0 : List Nat) (p q : Nat), ls.getD k [] = A ++ n :: B ∧ (N + k) :: A = L0 ++ [p] ∧ B ++ [N + k] = q :: R0 ∧ pv lk n = (p : Int) ∧ nx lk n = (q : Int) ∧ p < N + K ∧ q < N + K ∧ (p = N + k ∨ p ∈ A) ∧ (q = N + k ∨ q ∈ B) := by
  obtain ⟨A, B, e⟩ := List.append_of_mem hx
  obtain ⟨L0, p, he, h1, h2⟩ := last_of (N + k) A
  obtain ⟨q, R0, hf, h3⟩ := first_of B (N + k)
  have hp := h.path k hk
  rw [e] at hp
  obtain ⟨g1, g2, g3, g4⟩ := path_mid hp he hf
  refine ⟨A, B, L0, R0, p, q, e, he, hf, g2.2, g3.1, ?_, ?_, h2, h3⟩
  · rcases h2 with rfl | h2
    · omega
    · have := (h.node k hk p (by rw [e]; exact List.mem_append_left _ h2)).1; omega
  · rcases h3 with rfl | h3
    · omega
    · have := (h.node k hk q (by rw [e]; exact List.mem_append_right _ (List.mem_cons_of_mem _ h3))).1; omega
theorem Rep.drop (h : Rep N K lk of mn ls) {k n : Nat} (hk : k < K) (hx : n ∈ ls.getD k []) : Rep N K (sf (jn lk (pv lk n).toNat (nx lk n).toNat) n) (of.set n 0) (mn.set k (mn.getD k 0 - 1)) (ls.set k (wo n (ls.getD k []))) := by
  obtain ⟨A, B, L0, R0, p, q, e, he, hf, hp, hq, hpl, hql, hpm, hqm⟩ := h.mid hk hx
  have hn : n < N := (h.node k hk n hx).1
  have hof : of.getD n 0 = (k : Int) + 1 := (h.node k hk n hx).2
  have hothers : ∀ j, j < K → j ≠ k → n ∉ ls.getD j [] := fun j hj hjk hx' => by have := (h.node j hj n hx').2; omega
  rw [hp, hq, Int.toNat_natCast, Int.toNat_natCast]
  have hnd : (A ++ n :: B).Nodup := e ▸ h.nd k hk
  have ha := List.nodup_append.1 hnd
  have hb := List.nodup_cons.1 ha.2.1
  have hnA : n ∉ A := fun hx => ha.2.2 n hx n (by simp) rfl
  have hpn : p ≠ n := fun e' => by rcases hpm with g | g; omega; exact hnA (e' ▸ g)
  have hqn : q ≠ n := fun e' => by rcases hqm with g | g; omega; exact hb.1 (e' ▸ g)
  have hAB : ∀ x ∈ A, x ∉ B := fun x hx hx' => ha.2.2 x hx x (List.mem_cons_of_mem _ hx') rfl
  have hlt : ∀ x, x ∈ A ∨ x ∈ B → x < N := fun x hx => (h.node k hk x (by rw [e]; rcases hx with g | g; exact List.mem_append_left _ g; exact List.mem_append_right _ (List.mem_cons_of_mem _ g))).1
  have NX : ∀ c, nx (sf (jn lk p q) n) c = if n = c then (n : Int) else if p = c then (q : Int) else nx lk c := fun c => by
    rw [nx_sf (by rw [jn_len]; exact h.l1) (by omega), nx_jn h.l1 hpl hql]
  have PV : ∀ c, pv (sf (jn lk p q) n) c = if n = c then (n : Int) else if q = c then (p : Int) else pv lk c := fun c => by
    rw [pv_sf (by rw [jn_len]; exact h.l1) (by omega), pv_jn h.l1 hpl hql]
  have ew : wo n (ls.getD k []) = A ++ B := by rw [e]; exact wo_mid hnd
  rw [ew]
  have hg : ∀ j, (ls.set k (A ++ B)).getD j [] = if k = j then A ++ B else ls.getD j [] := fun j => getD_setL _ _ _ _ (by rw [h.l4]; exact hk)
  refine ⟨by rw [sf_len, jn_len]; exact h.l1, by rw [List.length_set]; exact h.l2, by rw [List.length_set]; exact h.l3, by rw [List.length_set]; exact h.l4, fun j hj => ?_, fun j hj => ?_, fun j hj x hx' => ?_, fun x hx' => ?_, fun j hj => ?_⟩
  · rw [hg]
    by_cases hkj : k = j
    · subst hkj
      rw [if_pos rfl]
      have e2 : (N + k) :: (A ++ B ++ [N + k]) = L0 ++ p :: (q :: R0) := by
        rw [← hf, List.append_assoc, ← List.cons_append, he]; simp
      have hpth := h.path k hk
      rw [e] at hpth
      obtain ⟨g1, g2, g3, g4⟩ := path_mid hpth he hf
      rw [e2, Path.split, Path.cons]
      refine ⟨g1.congr (fun a hA => ?_) (fun b hB => ?_), ⟨?_, ?_⟩, g4.congr (fun a hA => ?_) (fun b hB => ?_)⟩
      · rw [List.dropLast_concat] at hA
        have ha' : a ∈ (N + k) :: A := by rw [he]; exact List.mem_append_left _ hA
        have hnd2 : ((N + k) :: A).Nodup := List.nodup_cons.2 ⟨fun hx => by have := hlt _ (.inl hx); omega, ha.1⟩
        rw [NX, if_neg (fun e' => ?_), if_neg (fun e' => nodup_last he hnd2 a hA e'.symm)]
        rcases List.mem_cons.1 ha' with g | g
        · omega
        · exact hnA (e' ▸ g)
      · rw [tail_sub he] at hB
        rw [PV, if_neg (fun (e' : n = b) => hnA (e' ▸ hB)), if_neg (fun e' => ?_)]
        rcases hqm with g | g
        · have := hlt b (.inl hB); omega
        · exact hAB b hB (e' ▸ g)
      · rw [NX, if_neg (Ne.symm hpn), if_pos rfl]
      · rw [PV, if_neg (Ne.symm hqn), if_pos rfl]
      · rw [← hf, List.dropLast_concat] at hA
        rw [NX, if_neg (fun (e' : n = a) => hb.1 (e' ▸ hA)), if_neg (fun e' => ?_)]
        rcases hpm with g | g
        · have := hlt a (.inr hA); omega
        · exact hAB p g (e' ▸ hA)
      · have hB' : b ∈ R0 := hB
        have hqR : q ∉ R0 := by
          have : (B ++ [N + k]).Nodup := List.nodup_append.2 ⟨hb.2, by simp, fun x hx y hy e' => by rw [List.mem_singleton] at hy; have := hlt x (.inr hx); omega⟩
          rw [hf] at this; exact (List.nodup_cons.1 this).1
        have hbm : b ∈ B ++ [N + k] := by rw [hf]; exact List.mem_cons_of_mem _ hB'
        rw [PV, if_neg (fun e' => ?_), if_neg (fun (e' : q = b) => hqR (e' ▸ hB'))]
        rcases List.mem_append.1 hbm with g | g
        · exact hb.1 (e' ▸ g)
        · rw [List.mem_singleton] at g; omega
    · rw [if_neg hkj]
      refine (h.path j hj).congr (fun a hA => ?_) (fun b hB => ?_)
      · have ha' : a = N + j ∨ a ∈ ls.getD j [] := by
          rw [← List.cons_append, List.dropLast_concat] at hA
          exact List.mem_cons.1 hA
        rw [NX, if_neg (fun e' => ?_), if_neg (fun e' => ?_)]
        · rcases ha' with g | g
          · rcases hpm with g' | g'
            · omega
            · have := hlt p (.inl g'); omega
          · rcases hpm with g' | g'
            · have := (h.node j hj a g).1; omega
            · have h1 := (h.node j hj a g).2; have h2 := (h.node k hk p (by rw [e]; exact List.mem_append_left _ g')).2; rw [e'] at h2; omega
        · rcases ha' with g | g
          · omega
          · exact hothers j hj (Ne.symm hkj) (e' ▸ g)
      · have hb' : b ∈ ls.getD j [] ∨ b = N + j := by simpa using hB
        rw [PV, if_neg (fun e' => ?_), if_neg (fun e' => ?_)]
        · rcases hb' with g | g
          · rcases hqm with g' | g'
            · have := (h.node j hj b g).1; omega
            · have h1 := (h.node j hj b g).2; have h2 := (h.node k hk q (by rw [e]; exact List.mem_append_right _ (List.mem_cons_of_mem _ g'))).2; rw [e'] at h2; omega
          · rcases hqm with g' | g'
            · omega
            · have := hlt q (.inr g'); omega
        · rcases hb' with g | g
          · exact hothers j hj (Ne.symm hkj) (e' ▸ g)
          · omega
  · rw [hg]
    by_cases hkj : k = j
    · subst hkj
      rw [if_pos rfl]
      exact List.nodup_append.2 ⟨ha.1, hb.2, fun a h1 b h2 e' => hAB a h1 (e' ▸ h2)⟩
    · rw [if_neg hkj]; exact h.nd j hj
  · rw [hg] at hx'
    rw [getD_set _ _ _ _ (by rw [h.l2]; exact hn)]
    by_cases hkj : k = j
    · subst hkj
      rw [if_pos rfl] at hx'
      have hm : x ∈ ls.getD k [] ∧ n ≠ x := by
        rw [e]
        rcases List.mem_append.1 hx' with g | g
        · exact ⟨List.mem_append_left _ g, fun e' => hnA (e' ▸ g)⟩
        · exact ⟨List.mem_append_right _ (List.mem_cons_of_mem _ g), fun e' => hb.1 (e' ▸ g)⟩
      rw [if_neg hm.2]
      exact h.node k hk x hm.1
    · rw [if_neg hkj] at hx'
      rw [if_neg (fun (e' : n = x) => hothers j hj (Ne.symm hkj) (e' ▸ hx'))]
      exact h.node j hj x hx'
  · rw [getD_set _ _ _ _ (by rw [h.l2]; exact hn)]
    by_cases hnx : n = x
    · rw [if_pos hnx]; exact .inl rfl
    · rw [if_neg hnx]
      rcases h.free x hx' with g | ⟨j, hj, g⟩
      · exact .inl g
      · refine .inr ⟨j, hj, ?_⟩
        rw [hg]
        by_cases hkj : k = j
        · subst hkj
          rw [if_pos rfl]
          rw [e] at g
          rcases List.mem_append.1 g with g' | g'
          · exact List.mem_append_left _ g'
          · rcases List.mem_cons.1 g' with g'' | g''
            · exact absurd g''.symm hnx
            · exact List.mem_append_right _ g''
        · rw [if_neg hkj]; exact g
  · rw [hg, getD_set _ _ _ _ (by rw [h.l3]; exact hk)]
    by_cases hkj : k = j
    · subst hkj; rw [if_pos rfl, if_pos rfl, h.many k hk, e]; simp; omega
    · rw [if_neg hkj, if_neg hkj]; exact h.many j hj
/-- Links as New leaves them, so far. -/
def lkU (m i : Nat) : List Int := (List.range (2 * m)).map fun j => if j < 2 * i then ((j / 2 : Nat) : Int) else 0
theorem lkU_len {m i : Nat} : (lkU m i).length = 2 * m := by simp [lkU]
theorem lkU_0 {m : Nat} : List.replicate (2 * m) 0 = lkU m 0 := by
  apply List.ext_getElem (by simp [lkU])
  intro j h1 h2; simp [lkU]
theorem lkU_s {m i : Nat} (hi : i < m) : sf (lkU m i) i = lkU m (i + 1) := by
  apply List.ext_getElem (by simp [lkU, sf])
  intro j h1 h2
  simp only [sf, lkU, List.getElem_set, List.getElem_map, List.getElem_range]
  by_cases e1 : 2 * i + 1 = j
  · rw [if_pos e1, if_pos (by omega)]; congr 1; omega
  · rw [if_neg e1]
    by_cases e2 : 2 * i = j
    · rw [if_pos e2, if_pos (by omega)]; congr 1; omega
    · rw [if_neg e2]
      by_cases e3 : j < 2 * i
      · rw [if_pos e3, if_pos (by omega)]
      · rw [if_neg e3, if_neg (by omega)]
theorem lkU_get {m j : Nat} (h : j < 2 * m) : (lkU m m).getD j 0 = ((j / 2 : Nat) : Int) := by
  rw [List.getD_eq_getElem?_getD, List.getElem?_eq_getElem (by rw [lkU_len]; exact h)]
  simp [lkU, h]
theorem getD_repI (n j : Nat) : (List.replicate n (0 : Int)).getD j 0 = 0 := by
  rw [List.getD_eq_getElem?_getD, List.getElem?_replicate]; split <;> rfl
theorem getD_repL (n j : Nat) : (List.replicate n ([] : List Nat)).getD j [] = [] := by
  rw [List.getD_eq_getElem?_getD, List.getElem?_replicate]; split <;> rfl
theorem Rep.new (N K : Nat) : Rep N K (lkU (N + K) (N + K)) (List.replicate N 0) (List.replicate K 0) (List.replicate K []) := by
  refine ⟨lkU_len, List.length_replicate, List.length_replicate, List.length_replicate, fun k hk => ?_, fun k hk => ?_, fun k hk x hx => ?_, fun x hx => .inl (getD_repI _ _), fun k hk => ?_⟩
  · rw [getD_repL, List.nil_append, Path.cons]
    refine ⟨⟨?_, ?_⟩, Path.one⟩
    · unfold nx; rw [lkU_get (by omega)]; congr 1; omega
    · unfold pv; rw [lkU_get (by omega)]; congr 1; omega
  · rw [getD_repL]; exact List.nodup_nil
  · rw [getD_repL] at hx; cases hx
  · rw [getD_repL, getD_repI]; rfl
structure Ch (N K : Nat) where
  lk : List Int
  of : List Int
  mn : List Int
  ls : List (List Nat)
  hN : 1 ≤ N ∧ N ≤ 65536
  hK : 1 ≤ K ∧ K ≤ 64
  rep : Rep N K lk of mn ls
namespace Ch
def new (N K : Nat) (hN : 1 ≤ N ∧ N ≤ 65536) (hK : 1 ≤ K ∧ K ≤ 64) : Ch N K := ⟨_, _, _, _, hN, hK, Rep.new N K⟩
/-- A list, as numbers. -/
def lst (c : Ch N K) (l : Int) : List Int := if 0 ≤ l ∧ l < (K : Int) then (c.ls.getD l.toNat []).map (fun (x : Nat) => (x : Int)) else []
/-- Is a node in a list? -/
def inn (c : Ch N K) (n : Int) : Bool := decide (0 ≤ n ∧ n < (N : Int)) && c.of.getD n.toNat 0 != 0
def atV (c : Ch N K) (n : Int) : Int := if c.inn n then c.of.getD n.toNat 0 - 1 else 0
theorem inn_iff {c : Ch N K} {n : Int} : c.inn n = true ↔ (0 ≤ n ∧ n < (N : Int)) ∧ c.of.getD n.toNat 0 ≠ 0 := by simp [inn]
theorem of_in {c : Ch N K} {n : Nat} (hn : n < N) (h : c.of.getD n 0 ≠ 0) : ∃ k, k < K ∧ n ∈ c.ls.getD k [] ∧ c.of.getD n 0 = (k : Int) + 1 := by
  rcases c.rep.free n hn with h' | ⟨k, hk, h'⟩
  · exact absurd h' h
  · exact ⟨k, hk, h', (c.rep.node k hk n h').2⟩
theorem mem_lst {c : Ch N K} {l n : Int} : n ∈ c.lst l ↔ ∃ k x : Nat, l = (k : Int) ∧ n = (x : Int) ∧ k < K ∧ x ∈ c.ls.getD k [] := by
  unfold lst
  constructor
  · intro h
    split at h
    · rename_i hl
      obtain ⟨k, rfl⟩ := Int.eq_ofNat_of_zero_le hl.1
      rw [Int.toNat_natCast] at h
      obtain ⟨x, hx, rfl⟩ := List.mem_map.1 h
      exact ⟨k, x, rfl, rfl, by omega, hx⟩
    · cases h
  · rintro ⟨k, x, rfl, rfl, hk, hx⟩
    rw [if_pos ⟨by omega, by omega⟩, Int.toNat_natCast]
    exact List.mem_map_of_mem hx
theorem mem_in {c : Ch N K} {l n : Int} (h : n ∈ c.lst l) : c.inn n = true ∧ c.atV n = l ∧ (0 ≤ l ∧ l < (K : Int)) ∧ 0 ≤ n ∧ n < (N : Int) := by
  obtain ⟨k, x, rfl, rfl, hk, hx⟩ := mem_lst.1 h
  have h1 := c.rep.node k hk x hx
  have hi : c.inn (x : Int) = true := inn_iff.2 ⟨⟨by omega, by omega⟩, by rw [Int.toNat_natCast, h1.2]; omega⟩
  refine ⟨hi, ?_, ⟨by omega, by omega⟩, by omega, by omega⟩
  unfold atV; rw [if_pos hi, Int.toNat_natCast, h1.2]; omega
theorem in_mem {c : Ch N K} {n : Int} (h : c.inn n = true) : n ∈ c.lst (c.atV n) := by
  have h' := inn_iff.1 h
  obtain ⟨x, rfl⟩ := Int.eq_ofNat_of_zero_le h'.1.1
  rw [Int.toNat_natCast] at h'
  obtain ⟨k, hk, hx, he⟩ := of_in (by omega) h'.2
  refine mem_lst.2 ⟨k, x, ?_, rfl, hk, hx⟩
  unfold atV; rw [if_pos h, Int.toNat_natCast, he]; omega
theorem lst_out {c : Ch N K} {l : Int} (h : ¬ (0 ≤ l ∧ l < (K : Int))) : c.lst l = [] := if_neg h
theorem nodup_map : ∀ {l : List Nat}, l.Nodup → (l.map (fun (x : Nat) => (x : Int))).Nodup
  | [], _ => List.nodup_nil
  | a :: t, h => by
    have h' := List.nodup_cons.1 h
    rw [List.map_cons, List.nodup_cons]
    refine ⟨fun hx => ?_, nodup_map h'.2⟩
    obtain ⟨b, hb, e⟩ := List.mem_map.1 hx
    exact h'.1 (Int.ofNat_inj.1 e ▸ hb)
theorem nodup (c : Ch N K) (l : Int) : (c.lst l).Nodup := by
  unfold lst
  split
  · rename_i hl
    exact nodup_map (c.rep.nd l.toNat (by omega))
  · exact List.nodup_nil
/-- May a node be pushed? -/
def pok (c : Ch N K) (l n : Int) : Prop := (0 ≤ l ∧ l < (K : Int)) ∧ (0 ≤ n ∧ n < (N : Int)) ∧ c.inn n = false
instance (c : Ch N K) (l n : Int) : Decidable (c.pok l n) := inferInstanceAs (Decidable (_ ∧ _ ∧ _))
theorem pok_of {c : Ch N K} {l n : Int} (h : c.pok l n) : c.of.getD n.toNat 0 = 0 := by
  have := h.2.2
  unfold inn at this
  rw [decide_eq_true h.2.1, Bool.true_and] at this
  exact bne_eq_false_iff_eq.1 this
def push (c : Ch N K) (l n : Int) : Ch N K := if h : c.pok l n then ⟨_, _, _, _, c.hN, c.hK, c.rep.push (k := l.toNat) (n := n.toNat) (by have := h.1; omega) (by have := h.2.1; omega) (pok_of h)⟩ else c
def pushE (c : Ch N K) (l n : Int) : Int := if ¬ ((0 ≤ l ∧ l < (K : Int)) ∧ (0 ≤ n ∧ n < (N : Int))) then 2 else if c.inn n then 50 else 0
theorem pushE_0 {c : Ch N K} {l n : Int} (h : c.pok l n) : c.pushE l n = 0 := by unfold pushE; rw [if_neg (by simp only [Classical.not_not]; exact ⟨h.1, h.2.1⟩), h.2.2]; rfl
theorem pushE_iff {c : Ch N K} {l n : Int} : c.pushE l n = 0 ↔ c.pok l n := by
  refine ⟨fun h => ?_, pushE_0⟩
  unfold pushE at h
  split at h
  · cases h
  · rename_i h1
    simp only [Classical.not_not] at h1
    refine ⟨h1.1, h1.2, ?_⟩
    split at h
    · cases h
    · rename_i h2; exact Bool.eq_false_iff.2 h2
theorem lst_push {c : Ch N K} {l n : Int} (h : c.pok l n) (l' : Int) : (c.push l n).lst l' = if l' = l then c.lst l ++ [n] else c.lst l' := by
  obtain ⟨k, rfl⟩ := Int.eq_ofNat_of_zero_le h.1.1
  obtain ⟨x, rfl⟩ := Int.eq_ofNat_of_zero_le h.2.1.1
  have hk : k < K := by have := h.1; omega
  unfold push
  rw [dif_pos h]
  unfold lst
  by_cases e : l' = (k : Int)
  · subst e
    rw [if_pos h.1, if_pos rfl, if_pos h.1]
    simp only [Int.toNat_natCast]
    rw [getD_setL _ _ _ _ (by rw [c.rep.l4]; exact hk), if_pos rfl, List.map_append]; rfl
  · rw [if_neg e]
    by_cases hl : 0 ≤ l' ∧ l' < (K : Int)
    · rw [if_pos hl, if_pos hl]
      dsimp only
      rw [getD_setL _ _ _ _ (by rw [c.rep.l4]; exact hk), if_neg (by omega)]
    · rw [if_neg hl, if_neg hl]
theorem push_no {c : Ch N K} {l n : Int} (h : ¬ c.pok l n) : c.push l n = c := dif_neg h
theorem drop_k {c : Ch N K} {n : Int} (h : c.inn n = true) : (c.atV n).toNat < K ∧ n.toNat ∈ c.ls.getD (c.atV n).toNat [] := by
  obtain ⟨k, x, e1, e2, hk, hx⟩ := mem_lst.1 (in_mem h)
  rw [e1, Int.toNat_natCast, show n.toNat = x by omega]
  exact ⟨hk, hx⟩
def drop (c : Ch N K) (n : Int) : Ch N K := if h : c.inn n = true then ⟨_, _, _, _, c.hN, c.hK, c.rep.drop (drop_k h).1 (drop_k h).2⟩ else c
/-- A list of numbers without one. -/
def woI (n : Int) (l : List Int) : List Int := l.filter fun y => y != n
theorem mem_woI {n x : Int} {l : List Int} : x ∈ woI n l ↔ x ∈ l ∧ x ≠ n := by simp [woI]
theorem woI_no {n : Int} {l : List Int} (h : n ∉ l) : woI n l = l := by
  unfold woI; rw [List.filter_eq_self]; intro a ha; simp only [bne_iff_ne]; exact fun e => h (e ▸ ha)
theorem woI_map {n : Nat} {l : List Nat} : (wo n l).map (fun (x : Nat) => (x : Int)) = woI (n : Int) (l.map (fun (x : Nat) => (x : Int))) := by
  unfold wo woI
  rw [List.filter_map]
  congr 1
  apply List.filter_congr
  intro x _
  show (x != n) = ((x : Int) != (n : Int))
  rw [Bool.eq_iff_iff, bne_iff_ne, bne_iff_ne]; omega
theorem drop_no {c : Ch N K} {n : Int} (h : c.inn n = false) : c.drop n = c := dif_neg (by rw [h]; simp)
theorem lst_drop {c : Ch N K} {n : Int} (l : Int) : (c.drop n).lst l = woI n (c.lst l) := by
  by_cases h : c.inn n = true
  · obtain ⟨k, x, e1, e2, hk, hx⟩ := mem_lst.1 (in_mem h)
    subst e2
    by_cases e : l = (k : Int)
    · subst e
      unfold drop
      rw [dif_pos h]
      unfold lst
      have hl : 0 ≤ (k : Int) ∧ (k : Int) < (K : Int) := ⟨by omega, by omega⟩
      rw [if_pos hl, if_pos hl]
      simp only [e1, Int.toNat_natCast]
      rw [getD_setL _ _ _ _ (by rw [c.rep.l4]; exact hk), if_pos rfl, woI_map]
    · have hn : (x : Int) ∉ c.lst l := fun hm => e (((mem_in hm).2.1).symm.trans e1)
      rw [woI_no hn]
      unfold drop
      rw [dif_pos h]
      unfold lst
      by_cases hl : 0 ≤ l ∧ l < (K : Int)
      · rw [if_pos hl, if_pos hl]
        simp only [e1, Int.toNat_natCast]
        rw [getD_setL _ _ _ _ (by rw [c.rep.l4]; exact hk), if_neg (by omega)]
      · rw [if_neg hl, if_neg hl]
  · have hf : c.inn n = false := Bool.eq_false_iff.2 h
    rw [drop_no hf, woI_no (fun hm => h (mem_in hm).1)]
def some_ (c : Ch N K) (l : Int) : Bool := !(c.lst l).isEmpty
def fst (c : Ch N K) (l : Int) : Int := (c.lst l).headD 0
def pop (c : Ch N K) (l : Int) : Ch N K := if c.some_ l then c.drop (c.fst l) else c
theorem some_iff {c : Ch N K} {l : Int} : c.some_ l = true ↔ c.lst l ≠ [] := by simp [some_]
theorem fst_mem {c : Ch N K} {l : Int} (h : c.some_ l = true) : c.fst l ∈ c.lst l := by
  have h' := some_iff.1 h
  unfold fst
  cases hc : c.lst l with
  | nil => exact absurd hc h'
  | cons a t => simp
theorem lst_len {c : Ch N K} {k : Nat} (hk : k < K) : c.mn.getD k 0 = ((c.lst (k : Int)).length : Int) := by
  unfold lst; rw [if_pos ⟨by omega, by omega⟩, List.length_map, Int.toNat_natCast]; exact c.rep.many k hk
theorem sub_len {n : Nat} : ∀ {l : List Nat}, l.Nodup → (∀ x ∈ l, x < n) → l.length ≤ n := by
  induction n with
  | zero => intro l _ h; cases l with
    | nil => simp
    | cons a t => exact absurd (h a (by simp)) (Nat.not_lt_zero _)
  | succ n ih =>
    intro l hd h
    by_cases hm : n ∈ l
    · obtain ⟨A, B, rfl⟩ := List.append_of_mem hm
      have h1 := List.nodup_append.1 hd
      have h2 := List.nodup_cons.1 h1.2.1
      have hn : (A ++ B).Nodup := List.nodup_append.2 ⟨h1.1, h2.2, fun a ha b hb => h1.2.2 a ha b (List.mem_cons_of_mem _ hb)⟩
      have := ih hn (fun x hx => by
        have hx' : x ∈ A ++ n :: B := by
          rcases List.mem_append.1 hx with g | g
          · exact List.mem_append_left _ g
          · exact List.mem_append_right _ (List.mem_cons_of_mem _ g)
        have := h x hx'
        have hne : x ≠ n := fun e => by
          subst e
          rcases List.mem_append.1 hx with g | g
          · exact h1.2.2 x g x (by simp) rfl
          · exact h2.1 g
        omega)
      simp at this ⊢; omega
    · have := ih hd (fun x hx => by have := h x hx; have : x ≠ n := fun e => hm (e ▸ hx); omega)
      omega
theorem ls_len (c : Ch N K) {k : Nat} (hk : k < K) : (c.ls.getD k []).length ≤ N := sub_len (c.rep.nd k hk) (fun x hx => (c.rep.node k hk x hx).1)
theorem lst_le (c : Ch N K) (l : Int) : (c.lst l).length ≤ N := by
  unfold lst
  split
  · rename_i hl; rw [List.length_map]; exact c.ls_len (by omega)
  · simp
theorem lst_new {hN hK} {l : Int} : (new N K hN hK).lst l = [] := by
  unfold lst new
  simp only [getD_repL, List.map_nil, ite_self]
theorem inn_congr {c d : Ch N K} (h : ∀ l, c.lst l = d.lst l) (n : Int) : c.inn n = d.inn n := by
  rw [Bool.eq_iff_iff]
  exact ⟨fun hc => (mem_in (h _ ▸ in_mem hc)).1, fun hd => (mem_in ((h _).symm ▸ in_mem hd)).1⟩
/-- What follows a node of a list: the walk of List. -/
theorem path_next {lk : List Int} {r : Nat} : ∀ {pre l : List Nat} {x : Nat}, Path lk (pre ++ x :: (l ++ [r])) → nx lk x = (((l ++ [r]).headD 0 : Nat) : Int)
  | pre, [], x, h => by
    rw [List.nil_append, Path.split, Path.cons] at h; exact h.2.1.1
  | pre, a :: l, x, h => by
    rw [List.cons_append, Path.split, Path.cons] at h; exact h.2.1.1
end Ch
namespace Ch
theorem inn_n {c : Ch N K} {n : Nat} (hn : n < N) : c.inn (n : Int) = (c.of.getD n 0 != 0) := by
  unfold inn; rw [decide_eq_true ⟨by omega, by omega⟩, Bool.true_and, Int.toNat_natCast]
theorem atV_0 {c : Ch N K} {n : Nat} (hn : n < N) (h : c.of.getD n 0 = 0) : c.atV (n : Int) = 0 := by
  unfold atV; rw [inn_n hn, if_neg (by rw [h]; decide)]
theorem atV_n {c : Ch N K} {n : Nat} (hn : n < N) (h : c.of.getD n 0 ≠ 0) : c.atV (n : Int) = c.of.getD n 0 - 1 := by
  unfold atV; rw [inn_n hn, if_pos (bne_iff_ne.2 h), Int.toNat_natCast]
theorem inn_o {c : Ch N K} {n : Int} (hn : ¬ (0 ≤ n ∧ n < (N : Int))) : c.inn n = false := by
  unfold inn; rw [decide_eq_false hn]; rfl
theorem atV_o {c : Ch N K} {n : Int} (hn : ¬ (0 ≤ n ∧ n < (N : Int))) : c.atV n = 0 := by
  unfold atV; rw [inn_o hn]; rfl
theorem of_b (c : Ch N K) {n : Nat} (hn : n < N) : 0 ≤ c.of.getD n 0 ∧ c.of.getD n 0 ≤ 64 := by
  rcases c.rep.free n hn with h | ⟨k, hk, h⟩
  · omega
  · have := (c.rep.node k hk n h).2; have := c.hK; omega
theorem mn_b (c : Ch N K) {k : Nat} (hk : k < K) : 0 ≤ c.mn.getD k 0 ∧ c.mn.getD k 0 ≤ 65536 := by
  have := c.lst_le (k : Int); have := c.hN; rw [lst_len hk]; omega
theorem lst_k (c : Ch N K) {k : Nat} (hk : k < K) : c.lst (k : Int) = (c.ls.getD k []).map (fun (x : Nat) => (x : Int)) := by
  unfold lst; rw [if_pos ⟨by omega, by omega⟩, Int.toNat_natCast]
theorem fst_0 {c : Ch N K} {k : Nat} (hk : k < K) (h : c.mn.getD k 0 = 0) : c.fst (k : Int) = 0 := by
  have : c.lst (k : Int) = [] := List.length_eq_zero_iff.1 (by have := lst_len (c := c) hk; omega)
  unfold fst; rw [this]; rfl
theorem some_0 {c : Ch N K} {k : Nat} (hk : k < K) (h : c.mn.getD k 0 = 0) : c.some_ (k : Int) = false := by
  have : c.lst (k : Int) = [] := List.length_eq_zero_iff.1 (by have := lst_len (c := c) hk; omega)
  unfold some_; rw [this]; rfl
theorem some_n {c : Ch N K} {k : Nat} (hk : k < K) (h : c.mn.getD k 0 ≠ 0) : c.some_ (k : Int) = true :=
  some_iff.2 fun e => h (by rw [lst_len hk, e]; rfl)
theorem fst_n {c : Ch N K} {k : Nat} (hk : k < K) (h : c.mn.getD k 0 ≠ 0) : c.lk.getD (2 * (N + k) + 1) 0 = c.fst (k : Int) := by
  have h1 := some_iff.1 (some_n hk h)
  have hp := c.rep.path k hk
  have := path_next (pre := []) (by rw [List.nil_append]; exact hp)
  unfold nx at this
  rw [this]
  unfold fst
  rw [lst_k c hk] at h1 ⊢
  cases hc : c.ls.getD k [] with
  | nil => rw [hc] at h1; exact absurd rfl h1
  | cons a t => rfl
theorem fst_o {c : Ch N K} {l : Int} (hl : ¬ (0 ≤ l ∧ l < (K : Int))) : c.fst l = 0 := by unfold fst; rw [lst_out hl]; rfl
theorem some_o {c : Ch N K} {l : Int} (hl : ¬ (0 ≤ l ∧ l < (K : Int))) : c.some_ l = false := by unfold some_; rw [lst_out hl]; rfl
end Ch
namespace Ch
theorem push_eq (c : Ch N K) {k n : Nat} (hk : k < K) (hn : n < N) (h0 : c.of.getD n 0 = 0) : c.push (k : Int) (n : Int) = ⟨_, _, _, _, c.hN, c.hK, c.rep.push hk hn h0⟩ :=
  dif_pos (⟨⟨by omega, by omega⟩, ⟨by omega, by omega⟩, by rw [inn_n hn, h0]; rfl⟩ : c.pok (k : Int) (n : Int))
theorem pushE_50 {c : Ch N K} {l n : Int} (hl : 0 ≤ l ∧ l < (K : Int)) (hn : 0 ≤ n ∧ n < (N : Int)) (h : c.inn n = true) : c.pushE l n = 50 := by
  unfold pushE; rw [if_neg (by simp only [Classical.not_not]; exact ⟨hl, hn⟩), if_pos h]
theorem pushE_2 {c : Ch N K} {l n : Int} (h : ¬ ((0 ≤ l ∧ l < (K : Int)) ∧ (0 ≤ n ∧ n < (N : Int)))) : c.pushE l n = 2 := by unfold pushE; rw [if_pos h]
theorem drop_eq (c : Ch N K) {n : Nat} (hn : n < N) (h0 : c.of.getD n 0 ≠ 0) : c.drop (n : Int) = ⟨_, _, _, _, c.hN, c.hK, c.rep.drop (drop_k (c := c) (n := (n : Int)) (by rw [inn_n hn]; exact bne_iff_ne.2 h0)).1 (drop_k (c := c) (n := (n : Int)) (by rw [inn_n hn]; exact bne_iff_ne.2 h0)).2⟩ :=
  dif_pos (by rw [inn_n hn]; exact bne_iff_ne.2 h0)
theorem pop_t {c : Ch N K} {l : Int} (h : c.some_ l = true) : c.pop l = c.drop (c.fst l) := if_pos h
theorem pop_f {c : Ch N K} {l : Int} (h : c.some_ l = false) : c.pop l = c := if_neg (by rw [h]; decide)
theorem pop_v {c : Ch N K} {l : Int} (h : c.some_ l = true) : c.inn (c.fst l) = c.some_ l := by rw [h]; exact (mem_in (fst_mem h)).1
end Ch
namespace Ch
/-- Where List is: what it has, and what is to come. -/
def ListI (c : Ch N K) (k : Nat) (xs : List Int) (post : List Nat) : Prop := (∃ pre, c.ls.getD k [] = pre ++ post) ∧ xs ++ post.map (fun (x : Nat) => (x : Int)) = c.lst (k : Int)
theorem list_0 (c : Ch N K) {k : Nat} (hk : k < K) : ListI c k [] (c.ls.getD k []) := ⟨⟨[], rfl⟩, by rw [lst_k c hk]; rfl⟩
theorem fst_k (c : Ch N K) {k : Nat} (hk : k < K) : c.lk.getD (2 * (N + k) + 1) 0 = (((c.ls.getD k [] ++ [N + k]).headD 0 : Nat) : Int) := by
  have hp := c.rep.path k hk
  exact path_next (pre := []) (by rw [List.nil_append]; exact hp)
theorem list_ne (c : Ch N K) {k : Nat} {post : List Nat} {xs : List Int} (hk : k < K) (h : ListI c k xs post) (hne : (((post ++ [N + k]).headD 0 : Nat) : Int) ≠ ((N + k : Nat) : Int)) : ∃ x t, post = x :: t := by
  cases post with
  | nil => exact absurd rfl hne
  | cons x t => exact ⟨x, t, rfl⟩
theorem list_lt (c : Ch N K) {k : Nat} {post : List Nat} {xs : List Int} (hk : k < K) (h : ListI c k xs post) : (post ++ [N + k]).headD 0 < N + K := by
  obtain ⟨⟨pre, he⟩, _⟩ := h
  cases post with
  | nil => show N + k < N + K; omega
  | cons x t =>
    have := (c.rep.node k hk x (by rw [he]; simp)).1
    show x < N + K; omega
theorem list_n (c : Ch N K) {k : Nat} {post : List Nat} {xs : List Int} (hk : k < K) (h : ListI c k xs post) (hne : (((post ++ [N + k]).headD 0 : Nat) : Int) ≠ ((N + k : Nat) : Int)) : c.lk.getD (2 * ((post ++ [N + k]).headD 0) + 1) 0 = (((post.tail ++ [N + k]).headD 0 : Nat) : Int) := by
  obtain ⟨x, t, rfl⟩ := list_ne c hk h hne
  obtain ⟨⟨pre, he⟩, _⟩ := h
  have hp := c.rep.path k hk
  rw [he] at hp
  exact path_next (pre := (N + k) :: pre) (l := t) (x := x) (by simpa using hp)
theorem list_s (c : Ch N K) {k : Nat} {post : List Nat} {xs : List Int} (hk : k < K) (h : ListI c k xs post) (hne : (((post ++ [N + k]).headD 0 : Nat) : Int) ≠ ((N + k : Nat) : Int)) : ListI c k (xs ++ [(((post ++ [N + k]).headD 0 : Nat) : Int)]) post.tail := by
  obtain ⟨x, t, rfl⟩ := list_ne c hk h hne
  obtain ⟨⟨pre, he⟩, h2⟩ := h
  exact ⟨⟨pre ++ [x], by simpa using he⟩, by rw [← h2]; simp⟩
theorem list_m (c : Ch N K) {k : Nat} {post : List Nat} {xs : List Int} (hk : k < K) (h : ListI c k xs post) (hne : (((post ++ [N + k]).headD 0 : Nat) : Int) ≠ ((N + k : Nat) : Int)) : post.tail.length < post.length := by
  obtain ⟨x, t, rfl⟩ := list_ne c hk h hne
  simp
theorem list_b (c : Ch N K) {k : Nat} {post : List Nat} {xs : List Int} (hk : k < K) (h : ListI c k xs post) : xs.length ≤ 65536 := by
  have := c.lst_le (k : Int); have := c.hN
  rw [← h.2, List.length_append] at *; omega
theorem list_e (c : Ch N K) {k : Nat} {post : List Nat} {xs : List Int} (hk : k < K) (h : ListI c k xs post) (he : (((post ++ [N + k]).headD 0 : Nat) : Int) = ((N + k : Nat) : Int)) : c.lst (k : Int) = xs := by
  obtain ⟨⟨pre, h1⟩, h2⟩ := h
  cases post with
  | nil => rw [← h2]; simp
  | cons x t =>
    have := (c.rep.node k hk x (by rw [h1]; simp)).1
    have : (x : Int) = ((N + k : Nat) : Int) := he
    omega
end Ch
theorem same_t {xs ys : List Int} {i : Nat} (h : xs.take i = ys.take i) (hi : xs.length ≤ i) (hn : xs.length = ys.length) : (xs == ys) = true := by
  rw [List.take_of_length_le hi, List.take_of_length_le (by omega)] at h; exact beq_iff_eq.2 h
theorem same_f {xs ys : List Int} {i : Nat} (hi : i < xs.length) (h : xs.getD i 0 ≠ ys.getD i 0) : (xs == ys) = false := beq_eq_false_iff_ne.2 fun e => h (by rw [e])
theorem same_n {xs ys : List Int} (h : (xs.length : Int) ≠ (ys.length : Int)) : (xs == ys) = false := beq_eq_false_iff_ne.2 fun e => h (by rw [e])
theorem same_s {xs ys : List Int} {i : Nat} (h : xs.take i = ys.take i) (e : xs.getD i 0 = ys.getD i 0) (hx : i < xs.length) (hy : i < ys.length) : xs.take (i + 1) = ys.take (i + 1) := by
  rw [List.take_add_one, List.take_add_one, h, List.getElem?_eq_getElem hx, List.getElem?_eq_getElem hy]
  simp only [List.getD, List.getElem?_eq_getElem hx, List.getElem?_eq_getElem hy, Option.getD_some] at e
  rw [e]
abbrev c20_4 : Ch 20 4 := Ch.new 20 4 (by decide) (by decide)
abbrev c4_2 : Ch 4 2 := Ch.new 4 2 (by decide) (by decide)
namespace Ch
theorem drop_out (c : Ch N K) (n : Int) : (c.drop n).inn n = false := by
  refine Bool.eq_false_iff.2 fun h => ?_
  have := in_mem h
  rw [lst_drop] at this
  exact (mem_woI.1 this).2 rfl
theorem push_inn {c : Ch N K} {k n : Int} (h : c.pok k n) : (c.push k n).inn n = true :=
  (mem_in (l := k) (by rw [lst_push h, if_pos rfl]; simp)).1
theorem back3 {c : Ch N K} {k n : Int} (h : c.pok k n) : (((c.push k n).drop n).drop n).lst k = c.lst k := by
  have hn : n ∉ c.lst k := fun hm => by have := (mem_in hm).1; rw [h.2.2] at this; cases this
  rw [lst_drop, lst_drop, lst_push h, if_pos rfl]
  have e : woI n (c.lst k ++ [n]) = c.lst k := by
    have := woI_no hn
    unfold woI at this ⊢
    rw [List.filter_append, this, List.filter_cons_of_neg (by simp)]; simp
  rw [e, woI_no hn]
theorem back_pok {c : Ch N K} {n : Int} (h : c.inn n = true) : (c.drop n).pok (c.atV n) n := by
  have := mem_in (in_mem h)
  exact ⟨this.2.2.1, this.2.2.2, drop_out c n⟩
theorem back_l {c : Ch N K} {n : Int} (h : c.inn n = true) : ((c.drop n).push (c.atV n) n).lst (c.atV n) = woI n (c.lst (c.atV n)) ++ [n] := by
  rw [lst_push (back_pok h), if_pos rfl, lst_drop]
theorem back_n {c : Ch N K} {n : Int} (h : c.inn n = true) : 1 ≤ (((c.drop n).push (c.atV n) n).lst (c.atV n)).length := by rw [back_l h]; simp
theorem back_g {c : Ch N K} {n : Int} (h : c.inn n = true) : (((c.drop n).push (c.atV n) n).lst (c.atV n)).getD ((((c.drop n).push (c.atV n) n).lst (c.atV n)).length - 1) 0 = n := by
  rw [back_l h, List.length_append, List.length_singleton, Nat.add_sub_cancel, List.getD_eq_getElem?_getD, List.getElem?_append_right (Nat.le_refl _), Nat.sub_self]; rfl
theorem apart_push {c d : Ch N K} {k n : Int} (h : ∀ j, j ≠ k → d.lst j = c.lst j) : ∀ j, j ≠ k → (d.push k n).lst j = c.lst j := fun j hj => by
  by_cases hp : d.pok k n
  · rw [lst_push hp, if_neg hj]; exact h j hj
  · rw [push_no hp]; exact h j hj
theorem apart_drop {c d : Ch N K} {k n : Int} (h : ∀ j, j ≠ k → d.lst j = c.lst j) (hn : d.inn n = true → d.atV n = k) : ∀ j, j ≠ k → (d.drop n).lst j = c.lst j := fun j hj => by
  rw [lst_drop, woI_no (fun hm => hj (by have := mem_in hm; rw [← this.2.1]; exact hn this.1))]; exact h j hj
theorem apart_pop {c d : Ch N K} {k : Int} (h : ∀ j, j ≠ k → d.lst j = c.lst j) : ∀ j, j ≠ k → (d.pop k).lst j = c.lst j := by
  unfold pop
  split
  · rename_i hs; exact apart_drop h (fun _ => (mem_in (fst_mem hs)).2.1)
  · exact h
end Ch

end Go.Proofs.Ytjelaoblpchmmaa
