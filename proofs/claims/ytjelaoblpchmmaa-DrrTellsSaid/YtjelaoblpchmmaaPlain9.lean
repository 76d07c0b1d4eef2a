/-
  Pairs and rounds, without a program.
-/
import Derived.Test.YtjelaoblpchmmaaRef17
namespace Go.Proofs.Ytjelaoblpchmmaa
set_option linter.unusedVariables false
set_option linter.unusedSimpArgs false
set_option maxRecDepth 100000
open Go.RowKit
variable {N K : Nat}
theorem take_fst {F : List (Int × Int)} {i : Nat} (hi : i < F.length) : (F.map Prod.fst).take (i + 1) = (F.map Prod.fst).take i ++ [(F.getD i (0, 0)).1] := by
  rw [List.take_add_one, List.getElem?_eq_getElem (by rw [List.length_map]; exact hi)]
  simp [List.getD, List.getElem?_eq_getElem hi]
theorem take_all {F : List (Int × Int)} {i : Nat} (hi : F.length ≤ i) : (F.map Prod.fst).take i = F.map Prod.fst := List.take_of_length_le (by rw [List.length_map]; exact hi)
namespace Ro
/-- A list, with credits. -/
def pl (r : Ro N) (l : Int) : List (Int × Int) := (r.c.lst l).map fun f => (f, r.cd f)
theorem pl_le (r : Ro N) (l : Int) : (r.pl l).length ≤ 4096 := by
  unfold pl; rw [List.length_map]; exact Nat.le_trans (r.c.lst_le l) r.hN
theorem pl_fst (r : Ro N) (l : Int) : (r.pl l).map Prod.fst = r.c.lst l := by
  unfold pl; rw [List.map_map]
  exact List.map_id' _
theorem pl_new {q : Int} {h1 h2 h3} (l : Int) : (Ro.new N q h1 h2 h3).pl l = [] := by
  unfold pl
  rw [show (Ro.new N q h1 h2 h3).c.lst l = [] from Ch.lst_new]; rfl
theorem emB_ok (r : Ro N) : emB (r.pl 0) (r.pl 1) = !r.ok := by
  unfold emB pl ok all
  cases r.c.lst 0 <;> cases r.c.lst 1 <;> rfl
theorem pl_all (r : Ro N) : r.pl 0 ++ r.pl 1 = r.all.map fun f => (f, r.cd f) := by unfold pl all; rw [List.map_append]
theorem pl_hd {r : Ro N} (ho : r.ok = true) : hdP (r.pl 0) (r.pl 1) = (r.f, r.cd r.f) := by
  have h := ok_iff.1 ho
  unfold hdP f
  rw [pl_all]
  cases hc : r.all with
  | nil => exact absurd hc h
  | cons x t => rfl
theorem inL_map {g : Int → Int} {n : Int} : ∀ {L : List Int}, inL (L.map fun f => (f, g f)) n = decide (n ∈ L) ∧ crL (L.map fun f => (f, g f)) n = if n ∈ L then g n else 0
  | [] => ⟨rfl, rfl⟩
  | x :: L => by
    have ih := inL_map (g := g) (n := n) (L := L)
    unfold inL crL at ih ⊢
    rw [List.map_cons, List.any_cons, List.find?_cons]
    by_cases e : x = n
    · subst e
      simp
    · have e' : (x == n) = false := beq_eq_false_iff_ne.2 e
      have e2 : ¬ n = x := fun h => e h.symm
      simp only [e', Bool.false_or, List.mem_cons, e2, false_or]
      exact ih
theorem pl_cr (r : Ro N) (n : Int) : crL (r.pl 0 ++ r.pl 1) n = r.crV n ∧ inL (r.pl 0 ++ r.pl 1) n = r.c.inn n := by
  rw [pl_all]
  have h := inL_map (g := r.cd) (n := n) (L := r.all)
  have hi : r.c.inn n = decide (n ∈ r.all) := by
    rw [Bool.eq_iff_iff, decide_eq_true_eq]; exact inn_iff
  rw [h.1, h.2]
  refine ⟨?_, hi.symm⟩
  unfold crV
  rw [hi]
  simp only [decide_eq_true_eq]
theorem parts {r : Ro N} (ho : r.ok = true) : (∃ t, r.c.lst 0 = r.f :: t ∧ r.f ∉ t ∧ r.f ∉ r.c.lst 1) ∨ (∃ t, r.c.lst 0 = [] ∧ r.c.lst 1 = r.f :: t ∧ r.f ∉ t) := by
  have h := ok_iff.1 ho
  have hnd := r.all_nd
  unfold f
  unfold all at h hnd ⊢
  cases h0 : r.c.lst 0 with
  | cons x t =>
    rw [h0] at hnd
    refine .inl ⟨t, rfl, (List.nodup_cons.1 (List.nodup_append.1 hnd).1).1, fun g => (List.nodup_append.1 hnd).2.2 x (by simp) x g rfl⟩
  | nil =>
    cases h1 : r.c.lst 1 with
    | nil => rw [h0, h1] at h; exact absurd rfl h
    | cons x t =>
      have := r.c.nodup 1
      rw [h1] at this
      exact .inr ⟨t, rfl, rfl, (List.nodup_cons.1 this).1⟩
/-- A row of flows, with credits, of which one flow's may have changed. -/
theorem map_cd {r s : Ro N} {L : List Int} {f : Int} (hf : f ∉ L) (h : ∀ g, g ∈ L → g ≠ f → s.cd g = r.cd g) : (L.map fun g => (g, s.cd g)) = L.map fun g => (g, r.cd g) :=
  List.map_congr_left fun g hg => by rw [h g hg (fun e => hf (e ▸ hg))]
theorem set_cd' {r s : Ro N} {f v : Int} (hc : s.cr = r.cr.set f.toNat v) (hf : 0 ≤ f ∧ f < (N : Int)) : s.cd f = v ∧ ∀ g, 0 ≤ g → g ≠ f → s.cd g = r.cd g := by
  constructor
  · unfold cd; rw [hc, getD_set _ _ _ _ (by rw [r.hl]; omega), if_pos rfl]
  · intro g hg hne
    unfold cd; rw [hc, getD_set _ _ _ _ (by rw [r.hl]; omega), if_neg (by omega)]
section
variable {r : Ro N} {x : Int}
theorem mem_ge {c : Ch N K} {l g : Int} (h : g ∈ c.lst l) : 0 ≤ g := (Ch.mem_in h).2.2.2.1
theorem drop_pl {s : Ro N} (ho : r.ok = true) (hc : s.c = r.c.drop r.f) (hg : ∀ g, 0 ≤ g → g ≠ r.f → s.cd g = r.cd g) : s.pl 0 = (r.pl 0).tail ∧ s.pl 1 = tO (r.pl 0) (r.pl 1) := by
  unfold pl
  rw [hc, Ch.lst_drop, Ch.lst_drop]
  rcases parts ho with ⟨t, h0, h1, h2⟩ | ⟨t, h0, h1, h2⟩
  · have e0 : Ch.woI r.f (r.c.lst 0) = t := by rw [h0]; exact woI_cons (h0 ▸ r.c.nodup 0)
    rw [e0, Ch.woI_no h2, map_cd (r := r) h1 (fun g hgm hne => hg g (mem_ge (c := r.c) (l := 0) (by rw [h0]; exact List.mem_cons_of_mem _ hgm)) hne), map_cd (r := r) h2 (fun g hgm hne => hg g (mem_ge hgm) hne), h0]
    exact ⟨rfl, rfl⟩
  · have e1 : Ch.woI r.f (r.c.lst 1) = t := by rw [h1]; exact woI_cons (h1 ▸ r.c.nodup 1)
    rw [e1, h0, map_cd (r := r) h2 (fun g hgm hne => hg g (mem_ge (c := r.c) (l := 1) (by rw [h1]; exact List.mem_cons_of_mem _ hgm)) hne), h1]
    exact ⟨rfl, rfl⟩
theorem turn_pl {s : Ro N} {v : Int} (ho : r.ok = true) (hc : s.c = (r.turn r.f).c) (hv : s.cd r.f = v) (hg : ∀ g, 0 ≤ g → g ≠ r.f → s.cd g = r.cd g) : s.pl 0 = (r.pl 0).tail ∧ s.pl 1 = tO (r.pl 0) (r.pl 1) ++ [(r.f, v)] := by
  have ht := turn_lst r ho
  have hd := drop_pl (s := ⟨r.c.drop r.f, s.cr, s.q, s.hN, s.hq, s.hl, s.hb⟩) ho rfl hg
  unfold pl at hd ⊢
  rw [hc, ht.1, ht.2, List.map_append, ← hd.1, ← hd.2, Ch.lst_drop, Ch.lst_drop, ← hv]
  exact ⟨rfl, rfl⟩
theorem leave_pl (he : emB (r.pl 0) (r.pl 1) = false) : r.leave.pl 0 = (r.pl 0).tail ∧ r.leave.pl 1 = tO (r.pl 0) (r.pl 1) ∧ r.f = (hdP (r.pl 0) (r.pl 1)).1 ∧ r.leaveC = (hdP (r.pl 0) (r.pl 1)).2 ∧ r.ok = true := by
  have ho : r.ok = true := by rw [emB_ok] at he; simpa using he
  have h := drop_pl (s := r.leave) ho (by rw [(leave_t ho).1]; rfl) (fun g _ _ => by rw [(leave_t ho).1]; rfl)
  rw [pl_hd ho, (leave_t ho).2]
  exact ⟨h.1, h.2, rfl, rfl, ho⟩
theorem leave_pl0 (he : emB (r.pl 0) (r.pl 1) = true) : r.leave.pl 0 = r.pl 0 ∧ r.leave.pl 1 = r.pl 1 ∧ r.f = 0 ∧ r.leaveC = 0 ∧ r.ok = false := by
  have ho : r.ok = false := by rw [emB_ok] at he; simpa using he
  rw [(leave_f ho).1, (leave_f ho).2]
  exact ⟨rfl, rfl, f_no ho, rfl, ho⟩
theorem nF_li (ho : r.ok = true) : nF (r.pl 0) = (r.li == 0) := by
  rcases parts ho with ⟨t, h0, h1, h2⟩ | ⟨t, h0, h1, h2⟩
  · have : r.li = 0 := (fst_ok h0).2.2
    rw [this]; unfold nF pl; rw [h0]; rfl
  · have h1' := some1 (r := r) (by unfold Ch.some_; rw [h0]; rfl) (Ch.some_iff.2 (by rw [h1]; simp))
    rw [h1'.1]; unfold nF pl; rw [h0]; rfl
theorem idle_pl1 (he : emB (r.pl 0) (r.pl 1) = false) (hn : nF (r.pl 0) = true) : r.idle.pl 0 = (r.pl 0).tail ∧ r.idle.pl 1 = tO (r.pl 0) (r.pl 1) ++ [((hdP (r.pl 0) (r.pl 1)).1, (hdP (r.pl 0) (r.pl 1)).2)] ∧ r.f = (hdP (r.pl 0) (r.pl 1)).1 ∧ r.idleL = false ∧ r.ok = true := by
  have ho : r.ok = true := by rw [emB_ok] at he; simpa using he
  rw [nF_li ho] at hn
  have h := turn_pl (s := r.idle) ho (by rw [(idle_0 ho hn).1]) (v := r.cd r.f) (by rw [(idle_0 ho hn).1]; rfl) (fun g _ _ => by rw [(idle_0 ho hn).1]; rfl)
  rw [pl_hd ho]
  exact ⟨h.1, h.2, rfl, (idle_0 ho hn).2, ho⟩
theorem idle_pl2 (he : emB (r.pl 0) (r.pl 1) = false) (hn : nF (r.pl 0) = false) : r.idle.pl 0 = (r.pl 0).tail ∧ r.idle.pl 1 = tO (r.pl 0) (r.pl 1) ∧ r.f = (hdP (r.pl 0) (r.pl 1)).1 ∧ r.idleL = true ∧ r.ok = true := by
  have ho : r.ok = true := by rw [emB_ok] at he; simpa using he
  rw [nF_li ho] at hn
  have h := drop_pl (s := r.idle) ho (by rw [(idle_1 ho hn).1]; rfl) (fun g _ _ => by rw [(idle_1 ho hn).1]; rfl)
  rw [pl_hd ho]
  exact ⟨h.1, h.2, rfl, (idle_1 ho hn).2, ho⟩
theorem idle_pl0 (he : emB (r.pl 0) (r.pl 1) = true) : r.idle.pl 0 = r.pl 0 ∧ r.idle.pl 1 = r.pl 1 ∧ r.f = 0 ∧ r.idleL = false ∧ r.ok = false := by
  have ho : r.ok = false := by rw [emB_ok] at he; simpa using he
  rw [(idle_f ho).1, (idle_f ho).2]
  exact ⟨rfl, rfl, f_no ho, rfl, ho⟩
theorem set_pl0 (h : emB (r.pl 0) (r.pl 1) = true ∨ mayB x = false) : (r.set x).pl 0 = r.pl 0 ∧ (r.set x).pl 1 = r.pl 1 ∧ r.setE x = 2 := by
  have hn : ¬ (r.ok = true ∧ mayB x = true) := fun g => by
    rcases h with h | h
    · rw [emB_ok, g.1] at h; cases h
    · rw [g.2] at h; cases h
  rw [set_no hn]
  refine ⟨rfl, rfl, ?_⟩
  unfold setE
  rw [if_neg (by rw [Bool.and_eq_true]; exact hn)]
theorem set_pl (he : emB (r.pl 0) (r.pl 1) = false) (hm : mayB x = true) : r.ok = true ∧ (r.set x).c = r.c ∧ (r.set x).cr = r.cr.set r.f.toNat x ∧ r.setE x = 0 := by
  have ho : r.ok = true := by rw [emB_ok] at he; simpa using he
  rw [set_eq ⟨ho, hm⟩]
  exact ⟨ho, rfl, rfl, by unfold setE; rw [ho, hm]; rfl⟩
theorem set_pl1 (he : emB (r.pl 0) (r.pl 1) = false) (hm : mayB x = true) (hn : nF (r.pl 0) = true) : (r.set x).pl 0 = [((hdP (r.pl 0) (r.pl 1)).1, x)] ++ (r.pl 0).tail ∧ (r.set x).pl 1 = tO (r.pl 0) (r.pl 1) ∧ r.setE x = 0 := by
  obtain ⟨ho, h1, h2, h3⟩ := set_pl he hm
  have hc := set_cd' (r := r) (s := r.set x) h2 (f_in ho).2
  rw [pl_hd ho]
  rcases parts ho with ⟨t, g0, g1, g2⟩ | ⟨t, g0, g1, g2⟩
  · unfold pl
    rw [h1, map_cd (r := r) g2 (fun g hgm hne => hc.2 g (mem_ge hgm) hne), g0, List.map_cons, hc.1, map_cd (r := r) g1 (fun g hgm hne => hc.2 g (mem_ge (c := r.c) (l := 0) (by rw [g0]; exact List.mem_cons_of_mem _ hgm)) hne)]
    exact ⟨rfl, rfl, h3⟩
  · unfold nF pl at hn; rw [g0] at hn; cases hn
theorem set_pl2 (he : emB (r.pl 0) (r.pl 1) = false) (hm : mayB x = true) (hn : nF (r.pl 0) = false) : (r.set x).pl 0 = (r.pl 0).tail ∧ (r.set x).pl 1 = [((hdP (r.pl 0) (r.pl 1)).1, x)] ++ tO (r.pl 0) (r.pl 1) ∧ r.setE x = 0 := by
  obtain ⟨ho, h1, h2, h3⟩ := set_pl he hm
  have hc := set_cd' (r := r) (s := r.set x) h2 (f_in ho).2
  rw [pl_hd ho]
  rcases parts ho with ⟨t, g0, g1, g2⟩ | ⟨t, g0, g1, g2⟩
  · unfold nF pl at hn; rw [g0] at hn; cases hn
  · unfold pl
    rw [h1, g0, g1, List.map_cons, hc.1, map_cd (r := r) g2 (fun g hgm hne => hc.2 g (mem_ge (c := r.c) (l := 1) (by rw [g1]; exact List.mem_cons_of_mem _ hgm)) hne)]
    exact ⟨rfl, rfl, h3⟩
/-- A round of Head. -/
theorem step_pl (he : emB (r.pl 0) (r.pl 1) = false) (hd : ¬ (hdP (r.pl 0) (r.pl 1)).2 > 0) : r.due ∧ (hdP (r.pl 0) (r.pl 1)).2 = r.cd r.f ∧ r.step.pl 0 = (r.pl 0).tail ∧ r.step.pl 1 = tO (r.pl 0) (r.pl 1) ++ [((hdP (r.pl 0) (r.pl 1)).1, (hdP (r.pl 0) (r.pl 1)).2 + r.q)] ∧ emB (r.step.pl 0) (r.step.pl 1) = false := by
  have ho : r.ok = true := by rw [emB_ok] at he; simpa using he
  rw [pl_hd ho] at hd ⊢
  have hdue : r.due := ⟨ho, by have : ¬ r.cd r.f > 0 := hd; omega⟩
  have hs := step_c hdue
  have hc := set_cd' (r := r) (s := r.step) hs.2 (f_in ho).2
  have h := turn_pl (s := r.step) ho hs.1 hc.1 hc.2
  refine ⟨hdue, rfl, h.1, h.2, ?_⟩
  rw [h.2]; unfold emB; rw [Bool.and_eq_false_iff]; right; simp
theorem head_pl {s : Ro N} (he : emB (s.pl 0) (s.pl 1) = false) (hd : (hdP (s.pl 0) (s.pl 1)).2 > 0) (hs : s.head = r.head) : r.head.pl 0 = s.pl 0 ∧ r.head.pl 1 = s.pl 1 ∧ r.head.f = (hdP (s.pl 0) (s.pl 1)).1 ∧ r.headC = (hdP (s.pl 0) (s.pl 1)).2 ∧ r.head.ok = true := by
  have ho : s.ok = true := by rw [emB_ok] at he; simpa using he
  rw [pl_hd ho] at hd ⊢
  have e := head_t hs (fun g => by have : s.cd s.f > 0 := hd; have := g.2; omega)
  rw [headC_t e ho, e]
  exact ⟨rfl, rfl, rfl, rfl, ho⟩
theorem head_pl0 (he : emB (r.pl 0) (r.pl 1) = true) : r.head.pl 0 = r.pl 0 ∧ r.head.pl 1 = r.pl 1 ∧ r.head.f = 0 ∧ r.headC = 0 ∧ r.head.ok = false := by
  have ho : r.ok = false := by rw [emB_ok] at he; simpa using he
  have e : r.head = r := head_no (fun g => by have := g.1; rw [ho] at this; cases this)
  rw [headC_f e ho, e]
  exact ⟨rfl, rfl, f_no ho, rfl, ho⟩
variable {l f : Int}
theorem enter_pl2 (hl : 0 ≤ l ∧ l < 2) (h : ¬ (0 ≤ f ∧ f < (N : Int)) ∨ mayB x = false) : (r.enter l f x).pl 0 = r.pl 0 ∧ (r.enter l f x).pl 1 = r.pl 1 ∧ r.enterE l f x = 2 := by
  have hn : mayB x = true → ¬ r.c.pok l f := fun hm g => by
    rcases h with h | h
    · exact h g.2.1
    · rw [hm] at h; cases h
  have e : r.enter l f x = r := by
    by_cases hm : mayB x = true
    · exact enter_n (hn hm)
    · exact enter_f (Bool.eq_false_iff.2 hm)
  rw [e]
  refine ⟨rfl, rfl, ?_⟩
  by_cases hm : mayB x = true
  · rw [enterE_t hm]
    rcases h with h | h
    · exact Ch.pushE_2 (fun g => h g.2)
    · rw [hm] at h; cases h
  · exact enterE_f (Bool.eq_false_iff.2 hm)
theorem enter_pl50 (hl : 0 ≤ l ∧ l < 2) (hf : 0 ≤ f ∧ f < (N : Int)) (hm : mayB x = true) (hi : inL (r.pl 0 ++ r.pl 1) f = true) : (r.enter l f x).pl 0 = r.pl 0 ∧ (r.enter l f x).pl 1 = r.pl 1 ∧ r.enterE l f x = 50 := by
  rw [(pl_cr r f).2] at hi
  have e : r.enter l f x = r := enter_n (fun g => by have := g.2.2; rw [hi] at this; cases this)
  rw [e]
  exact ⟨rfl, rfl, by rw [enterE_t hm]; exact Ch.pushE_50 hl hf hi⟩
theorem enter_pl0 (hl : 0 ≤ l ∧ l < 2) (hf : 0 ≤ f ∧ f < (N : Int)) (hm : mayB x = true) (hi : inL (r.pl 0 ++ r.pl 1) f = false) : (∀ l', (r.enter l f x).pl l' = if l' = l then r.pl l' ++ [(f, x)] else r.pl l') ∧ r.enterE l f x = 0 := by
  rw [(pl_cr r f).2] at hi
  have hp : r.c.pok l f := ⟨hl, hf, hi⟩
  refine ⟨fun l' => ?_, by rw [enterE_t hm]; exact Ch.pushE_0 hp⟩
  have hc := set_cd' (r := r) (s := r.enter l f x) (f := f) (v := x) (by rw [enter_t hm hp]) hf
  have hno : ∀ k, f ∉ r.c.lst k := fun k g => by have := (Ch.mem_in g).1; rw [hi] at this; cases this
  unfold pl
  rw [show (r.enter l f x).c = r.c.push l f by rw [enter_t hm hp], Ch.lst_push hp]
  by_cases e : l' = l
  · subst e
    rw [if_pos rfl, if_pos rfl, List.map_append, map_cd (r := r) (hno l') (fun g hgm hne => hc.2 g (mem_ge hgm) hne), List.map_cons, hc.1]; rfl
  · rw [if_neg e, if_neg e, map_cd (r := r) (hno l') (fun g hgm hne => hc.2 g (mem_ge hgm) hne)]
theorem enter_plA (hf : 0 ≤ f ∧ f < (N : Int)) (hm : mayB x = true) (hi : inL (r.pl 0 ++ r.pl 1) f = false) : (r.enter 0 f x).pl 0 = r.pl 0 ++ [(f, x)] ∧ (r.enter 0 f x).pl 1 = r.pl 1 ∧ r.enterE 0 f x = 0 := by
  have h := enter_pl0 (l := 0) (by decide) hf hm hi
  exact ⟨by rw [h.1, if_pos rfl], by rw [h.1, if_neg (by decide)], h.2⟩
theorem enter_plB (hf : 0 ≤ f ∧ f < (N : Int)) (hm : mayB x = true) (hi : inL (r.pl 0 ++ r.pl 1) f = false) : (r.enter 1 f x).pl 0 = r.pl 0 ∧ (r.enter 1 f x).pl 1 = r.pl 1 ++ [(f, x)] ∧ r.enterE 1 f x = 0 := by
  have h := enter_pl0 (l := 1) (by decide) hf hm hi
  exact ⟨by rw [h.1, if_neg (by decide)], by rw [h.1, if_pos rfl], h.2⟩
theorem tl_le (r : Ro N) : (r.pl 0).tail.length ≤ 4096 ∧ (tO (r.pl 0) (r.pl 1)).length ≤ 4096 := by
  have h0 := r.pl_le 0; have h1 := r.pl_le 1
  refine ⟨by rw [List.length_tail]; omega, ?_⟩
  unfold tO; split
  · rw [List.length_tail]; omega
  · exact h1
end
end Ro

end Go.Proofs.Ytjelaoblpchmmaa
