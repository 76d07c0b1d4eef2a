/-
  Plain laws of rounds: who joins.
-/
import Derived.Test.YtjelaoblpchmmaaPlain4
namespace Go.Proofs.Ytjelaoblpchmmaa
set_option linter.unusedVariables false
set_option linter.unusedSimpArgs false
set_option maxRecDepth 100000
open Go.RowKit
variable {N K : Nat}
namespace Ro
section
variable {r r1 r2 r3 s : Ro N} {n m : Int} {i : Nat}
theorem join_ok (hn : 0 ≤ n ∧ n < (N : Int)) (hi : r.c.inn n = false) : r.c.pok 0 n := ⟨by decide, hn, hi⟩
theorem j1 (hn : 0 ≤ n ∧ n < (N : Int)) (hi : r.c.inn n = false) (hm : 1 ≤ m ∧ m ≤ 65536) : r.enterE 0 n m = 0 := by
  rw [enterE_t (mayB_iff.2 (by omega))]; exact Ch.pushE_0 (join_ok hn hi)
theorem entered (hn : 0 ≤ n ∧ n < (N : Int)) (hi : r.c.inn n = false) (hm : 1 ≤ m ∧ m ≤ 65536) (e1 : r1 = r.enter 0 n m) : r1.c = r.c.push 0 n ∧ r1.cr = r.cr.set n.toNat m := by
  rw [e1, enter_t (mayB_iff.2 (by omega)) (join_ok hn hi)]; exact ⟨rfl, rfl⟩
theorem entered_in (hn : 0 ≤ n ∧ n < (N : Int)) (hi : r.c.inn n = false) (hm : 1 ≤ m ∧ m ≤ 65536) (e1 : r1 = r.enter 0 n m) : r1.c.inn n = true := by
  rw [(entered hn hi hm e1).1]; exact Ch.push_inn (join_ok hn hi)
theorem full {l : Int} (hl : 0 ≤ l ∧ l < 2) (hn : 0 ≤ n ∧ n < (N : Int)) (hi : r.c.inn n = true) : r.enterE l n 1 = 50 ∧ r.enter l n 1 = r := by
  refine ⟨?_, enter_n (fun h => by have := h.2.2; rw [hi] at this; cases this)⟩
  rw [enterE_t (by decide)]; exact Ch.pushE_50 hl hn hi
theorem j2 (hn : 0 ≤ n ∧ n < (N : Int)) (hi : r.c.inn n = false) (hm : 1 ≤ m ∧ m ≤ 65536) (e1 : r1 = r.enter 0 n m) : r1.enterE 0 n 1 = 50 := (full (by decide) hn (entered_in hn hi hm e1)).1
theorem same2 (hn : 0 ≤ n ∧ n < (N : Int)) (hi : r.c.inn n = false) (hm : 1 ≤ m ∧ m ≤ 65536) (e1 : r1 = r.enter 0 n m) (e2 : r2 = r1.enter 0 n 1) : r2 = r1 := by
  rw [e2]; exact (full (by decide) hn (entered_in hn hi hm e1)).2
theorem j3 (hn : 0 ≤ n ∧ n < (N : Int)) (hi : r.c.inn n = false) (hm : 1 ≤ m ∧ m ≤ 65536) (e1 : r1 = r.enter 0 n m) (e2 : r2 = r1.enter 0 n 1) : r2.enterE 1 n 1 = 50 := by
  rw [same2 hn hi hm e1 e2]; exact (full (by decide) hn (entered_in hn hi hm e1)).1
/-- Behind the join: so many of those ahead have left. -/
def NewI (r s : Ro N) (n m : Int) (i : Nat) : Prop := s.c.lst 0 = (r.c.lst 0).drop i ++ [n] ∧ s.c.lst 1 = r.c.lst 1 ∧ s.cd n = m
theorem j4 (hn : 0 ≤ n ∧ n < (N : Int)) (hi : r.c.inn n = false) (hm : 1 ≤ m ∧ m ≤ 65536) (e1 : r1 = r.enter 0 n m) (e2 : r2 = r1.enter 0 n 1) (e3 : r3 = r2.enter 1 n 1) : NewI r r3 n m 0 := by
  have e : r3 = r1 := by
    rw [e3, same2 hn hi hm e1 e2]; exact (full (by decide) hn (entered_in hn hi hm e1)).2
  have h := entered hn hi hm e1
  rw [e]
  refine ⟨?_, ?_, ?_⟩
  · rw [h.1, Ch.lst_push (join_ok hn hi), if_pos rfl]; rfl
  · rw [h.1, Ch.lst_push (join_ok hn hi), if_neg (by decide)]
  · unfold cd
    rw [h.2, getD_set _ _ _ _ (by rw [r.hl]; omega), if_pos rfl]
theorem j5 (h : NewI r s n m 0) : (s.c.lst 0 == (([] ++ (r.c.lst 0)) ++ [n])) = true := beq_iff_eq.2 (by rw [h.1]; rfl)
theorem j6 (h : NewI r s n m 0) : (s.c.lst 1 == r.c.lst 1) = true := beq_iff_eq.2 h.2.1
theorem fst_ok {x : Int} {t : List Int} (h : s.c.lst 0 = x :: t) : s.ok = true ∧ s.f = x ∧ s.li = 0 := by
  have h1 : s.c.some_ 0 = true := Ch.some_iff.2 (by rw [h]; simp)
  have := some0 h1
  refine ⟨this.2.2, ?_, this.1⟩
  rw [this.2.1]; unfold Ch.fst; rw [h]; rfl
theorem NewI.leave (h : NewI r s n m i) (hi : i < (r.c.lst 0).length) : s.ok = true ∧ NewI r s.leave n m (i + 1) := by
  rw [NewI, Ch.drop_cons hi, List.cons_append] at h
  have h1 := fst_ok h.1
  refine ⟨h1.1, ?_⟩
  rw [(leave_t h1.1).1, h1.2.1]
  have hd := h.1 ▸ s.c.nodup 0
  refine ⟨?_, ?_, h.2.2⟩
  · show (s.c.drop _).lst 0 = _
    rw [Ch.lst_drop, h.1]; exact woI_cons hd
  · show (s.c.drop _).lst 1 = _
    rw [Ch.lst_drop, Ch.woI_no (fun hm => ?_)]
    · exact h.2.1
    · have a1 := (Ch.mem_in hm).2.1
      have a2 := (Ch.mem_in (c := s.c) (l := 0) (n := (r.c.lst 0).getD i 0) (by rw [h.1]; exact List.mem_cons_self ..)).2.1
      omega
theorem NewI.last (h : NewI r s n m i) (hi : (r.c.lst 0).length ≤ i) (hm : 1 ≤ m) : s.head = s ∧ s.ok = true ∧ s.f = n ∧ s.headC = m := by
  rw [NewI, List.drop_eq_nil_of_le hi, List.nil_append] at h
  have h1 := fst_ok h.1
  have e : s.head = s := head_no (fun hd => by have := hd.2; rw [h1.2.1, h.2.2] at this; omega)
  refine ⟨e, h1.1, h1.2.1, ?_⟩
  rw [headC_t e h1.1, h1.2.1, h.2.2]
theorem NewI.idle (h : NewI r s n m i) (hi : (r.c.lst 0).length ≤ i) : s.idleL = false ∧ s.idle.c.lst 0 = [] ∧ s.idle.c.lst 1 = r.c.lst 1 ++ [n] := by
  rw [NewI, List.drop_eq_nil_of_le hi, List.nil_append] at h
  have h1 := fst_ok h.1
  have hi' := idle_0 h1.1 (by rw [h1.2.2]; rfl)
  refine ⟨hi'.2, ?_⟩
  rw [hi'.1, h1.2.1]
  have hm := Ch.mem_in (c := s.c) (l := 0) (n := n) (by rw [h.1]; simp)
  have hp : (s.c.drop n).pok 1 n := ⟨by decide, hm.2.2.2, Ch.drop_out _ _⟩
  have hnn : n ∉ s.c.lst 1 := fun g => by have a1 := (Ch.mem_in g).2.1; have a2 := hm.2.1; omega
  constructor
  · show ((s.c.drop n).push 1 n).lst 0 = _
    rw [Ch.lst_push hp, if_neg (by decide), Ch.lst_drop, h.1]; exact woI_cons (by simp)
  · show ((s.c.drop n).push 1 n).lst 1 = _
    rw [Ch.lst_push hp, if_pos rfl, Ch.lst_drop, Ch.woI_no hnn, h.2.1]
end
end Ro

end Go.Proofs.Ytjelaoblpchmmaa
