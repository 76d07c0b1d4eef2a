/-
  Lists of lists, without a program.
-/
import Derived.Test.YtjelaoblpchmmaaPlain2
import Derived.Test.YtjelaoblpchmmaaFwLL
namespace Go.Proofs.Ytjelaoblpchmmaa
set_option linter.unusedVariables false
set_option linter.unusedSimpArgs false
set_option maxRecDepth 100000
open Go.RowKit
variable {N K : Nat}
theorem if3_27 : (Try.prog.info? 27).map (fun i => (i.zero, i.size, i.bytes)) = some (some (.slice none 0 0), 1, 24) := by kernel_rfl
theorem map_getD {LL : List En} {j : Nat} (hj : j < LL.length) : (LL.map fun e => e.2.2)[j]? = some (LL.getD j eD).2.2 := by
  simp [List.getElem?_eq_getElem hj, List.getD]
namespace Ch
variable {c d : Ch N K} {LL : List En} {l n : Int}
/-- All lists. -/
def ll (c : Ch N K) : List (List Int) := (List.range K).map fun (k : Nat) => c.lst (k : Int)
def Lof (c : Ch N K) (LL : List En) : Prop := (LL.map fun e => e.2.2) = c.ll
theorem Lof.len (h : Lof c LL) : LL.length = K := by
  have := congrArg List.length h
  simpa [ll] using this
theorem Lof.get (h : Lof c LL) {j : Nat} (hj : j < K) : (LL.getD j eD).2.2 = c.lst (j : Int) := by
  have e := map_getD (LL := LL) (j := j) (by rw [h.len]; exact hj)
  rw [h] at e
  unfold ll at e
  rw [List.getElem?_map, List.getElem?_range hj] at e
  exact (Option.some.inj e).symm
theorem Lof.get' (h : Lof c LL) (hl : 0 ≤ l ∧ l < (K : Int)) : (LL.getD l.toNat eD).2.2 = c.lst l := by
  rw [h.get (by omega)]; congr 1; omega
theorem Lof.le (h : Lof c LL) {j : Nat} (hj : j < K) : (LL.getD j eD).2.2.length ≤ 65536 := by
  rw [h.get hj]; exact Nat.le_trans (c.lst_le _) (by have := c.hN; omega)
theorem Lof.set (h : Lof c LL) {a : Nat} {q : Option Addr} {cq : Nat} {xs : List Int} (h1 : d.lst (a : Int) = xs) (h2 : ∀ j : Nat, j < K → j ≠ a → d.lst (j : Int) = c.lst (j : Int)) : Lof d (LL.set a (q, cq, xs)) := by
  unfold Lof ll at h ⊢
  rw [List.map_set, h]
  apply List.ext_getElem (by simp)
  intro j g1 g2
  simp only [List.length_set, List.length_map, List.length_range] at g1
  rw [List.getElem_set]
  by_cases e : a = j
  · subst e; rw [if_pos rfl]; simp [h1]
  · rw [if_neg e]; simp [h2 j g1 (Ne.symm e)]
theorem in_t (h : Lof c LL) {i k : Nat} (hi : i < K) (hk : k < (LL.getD i eD).2.2.length) (e : (LL.getD i eD).2.2.getD k 0 = n) : c.inn n = true ∧ c.atV n = (i : Int) := by
  have hg := h.get hi
  rw [hg] at hk e
  have hm := mem_in (get_mem hk)
  rw [e] at hm
  exact ⟨hm.1, hm.2.1⟩
theorem in_f (h : Lof c LL) (hn : ∀ j, j < K → ∀ m, m < (LL.getD j eD).2.2.length → (LL.getD j eD).2.2.getD m 0 ≠ n) : c.inn n = false ∧ c.atV n = 0 := by
  have hi : c.inn n = false := Bool.eq_false_iff.2 fun g => by
    have hm := in_mem g
    have hk := (mem_in hm).2.2.1
    obtain ⟨m, hm1, hm2⟩ := List.mem_iff_getElem.1 hm
    have hg := h.get' hk
    have := hn (c.atV n).toNat (by omega) m (by rw [hg]; exact hm1)
    rw [hg, List.getD_eq_getElem?_getD, List.getElem?_eq_getElem hm1] at this
    exact this hm2
  exact ⟨hi, by unfold atV; rw [hi]; rfl⟩
theorem push_bad (hr : ¬ ((0 ≤ l ∧ l < (K : Int)) ∧ (0 ≤ n ∧ n < (N : Int)))) : c.push l n = c ∧ c.pushE l n = 2 := ⟨push_no (fun g => hr ⟨g.1, g.2.1⟩), pushE_2 hr⟩
theorem push_full (hl : 0 ≤ l ∧ l < (K : Int)) (hn : 0 ≤ n ∧ n < (N : Int)) (hi : c.inn n = true) : c.push l n = c ∧ c.pushE l n = 50 := ⟨push_no (fun g => by have := g.2.2; rw [hi] at this; cases this), pushE_50 hl hn hi⟩
theorem push_lof (h : Lof c LL) (hl : 0 ≤ l ∧ l < (K : Int)) (hn : 0 ≤ n ∧ n < (N : Int)) (hi : c.inn n = false) {q : Option Addr} {cq : Nat} : Lof (c.push l n) (LL.set l.toNat (q, cq, ([] ++ (LL.getD l.toNat eD).2.2) ++ [n])) ∧ c.pushE l n = 0 := by
  have hp : c.pok l n := ⟨hl, hn, hi⟩
  refine ⟨h.set ?_ (fun j hj hne => ?_), pushE_0 hp⟩
  · rw [h.get' hl, show ((l.toNat : Nat) : Int) = l by omega, lst_push hp, if_pos rfl]; rfl
  · rw [lst_push hp, if_neg (by omega)]
theorem drop_lof (h : Lof c LL) (hi : c.inn n = true) {q : Option Addr} {cq k : Nat} (hk : (LL.getD (c.atV n).toNat eD).2.2.length ≤ k) : Lof (c.drop n) (LL.set (c.atV n).toNat (q, cq, woI n ((LL.getD (c.atV n).toNat eD).2.2.take k))) := by
  have ha := (mem_in (in_mem hi)).2.2.1
  refine h.set ?_ (fun j hj hne => ?_)
  · rw [List.take_of_length_le hk, h.get' ha, lst_drop, show (((c.atV n).toNat : Nat) : Int) = c.atV n by omega]
  · rw [lst_drop, woI_no (fun hm => ?_)]
    have := (mem_in hm).2.1; omega
theorem pop_none (h : ((c.lst l).length : Int) = 0) : c.pop l = c ∧ c.fst l = 0 ∧ c.some_ l = false := by
  have e : c.lst l = [] := List.length_eq_zero_iff.1 (by omega)
  have hs : c.some_ l = false := by unfold some_; rw [e]; rfl
  exact ⟨pop_f hs, by unfold fst; rw [e]; rfl, hs⟩
theorem pop_some (h : ((c.lst l).length : Int) ≠ 0) : c.some_ l = true ∧ (c.lst l).getD 0 0 = c.fst l ∧ c.pop l = c.drop ((c.lst l).getD 0 0) := by
  have hs : c.some_ l = true := some_iff.2 fun e => h (by rw [e]; rfl)
  have e : (c.lst l).getD 0 0 = c.fst l := by unfold fst; cases c.lst l <;> rfl
  exact ⟨hs, e, by rw [e]; exact pop_t hs⟩
theorem some_len (c : Ch N K) (l : Int) : (c.some_ l != decide (((c.lst l).length : Int) > 0)) = false := by
  rw [bne_eq_false_iff_eq, Bool.eq_iff_iff, some_iff, decide_eq_true_eq]
  cases c.lst l <;> simp
theorem some_pos {c : Ch N K} {l : Int} (h : c.some_ l = true) : 0 < (c.lst l).length := List.length_pos_iff.2 (some_iff.1 h)
theorem fst_get (c : Ch N K) (l : Int) : (c.fst l != (c.lst l).getD 0 0) = false := by
  rw [bne_eq_false_iff_eq]; unfold fst; cases c.lst l <;> rfl
theorem fst_none {c : Ch N K} {l : Int} (h : c.some_ l = false) : (c.fst l != 0) = false := by
  have e : c.lst l = [] := Classical.byContradiction fun g => by rw [some_iff.2 g] at h; cases h
  rw [bne_eq_false_iff_eq]; unfold fst; rw [e]; rfl
theorem new_lof {hN hK} (h : (LL.map fun e => e.2.2) = List.replicate K []) : Lof (Ch.new N K hN hK) LL := by
  unfold Lof ll
  rw [h]
  apply List.ext_getElem (by simp)
  intro j g1 g2
  simp [lst_new]
end Ch
theorem VL.empty {w0 : World} {S : List Blk} {P : Option Addr} {C K : Nat} {LL : List En} (h : SO S P C LL) (he : (LL.map fun e => e.2.2) = List.replicate K []) : VL w0 S P C LL := by
  have := VL.so (w0 := w0) (SS := []) h (fun e hm => by
    have hx : e.2.2 ∈ LL.map fun e => e.2.2 := List.mem_map_of_mem (f := fun (e : En) => e.2.2) hm
    rw [he] at hx
    rw [List.eq_of_mem_replicate hx]
    exact fun _ _ _ i h => absurd h (Nat.not_lt_zero _))
  simpa using this
theorem rep_s {LL : List En} {i : Nat} {p : Option Addr} (h : (LL.map fun e => e.2.2) = List.replicate i []) : ((LL ++ [(p, 0, [])]).map fun (e : En) => e.2.2) = List.replicate (i + 1) [] := by
  rw [List.map_append, h, List.replicate_succ']; rfl
theorem VL.start_le {w0 : World} {SS : List Blk} {P : Option Addr} {C : Nat} {LL : List En} (h : VL w0 SS P C LL) : LL.length ≤ C := h.1

end Go.Proofs.Ytjelaoblpchmmaa
