/-
  Plain laws of rounds: who leaves.
-/
import Derived.Test.YtjelaoblpchmmaaRns5
import Derived.Test.YtjelaoblpchmmaaFwApp
import Derived.Test.YtjelaoblpchmmaaOpen
namespace Go.Proofs.Ytjelaoblpchmmaa
set_option linter.unusedVariables false
set_option linter.unusedSimpArgs false
set_option maxRecDepth 100000
open Go.RowKit
variable {N K : Nat}
namespace Ro
theorem all_nd (r : Ro N) : r.all.Nodup := List.nodup_append.2 ⟨r.c.nodup 0, r.c.nodup 1, fun a ha b hb e => by
  subst e
  have h1 := (Ch.mem_in ha).2.1; have h2 := (Ch.mem_in hb).2.1; omega⟩
theorem in_all {r : Ro N} {x : Int} (h : r.c.inn x = true) : x ∈ r.all := by
  have h1 := Ch.in_mem h; have h2 := (Ch.mem_in h1).2.2.1
  have : r.c.atV x = 0 ∨ r.c.atV x = 1 := by omega
  rcases this with e | e <;> rw [e] at h1
  · exact List.mem_append_left _ h1
  · exact List.mem_append_right _ h1
theorem ok_f {r : Ro N} (h : r.ok = false) : r.all = [] := by
  unfold ok at h
  cases hc : r.all with
  | nil => rfl
  | cons a t => rw [hc] at h; cases h
theorem ok_no {r : Ro N} (h : r.all = []) : r.ok = false := by unfold ok; rw [h]; rfl
theorem all_dropped (r : Ro N) (f : Int) : (r.dropped f).all = Ch.woI f r.all := by
  unfold all dropped
  simp only [Ch.lst_drop]
  unfold Ch.woI
  rw [List.filter_append]
theorem woI_cons {x : Int} {t : List Int} (h : (x :: t).Nodup) : Ch.woI x (x :: t) = t := by
  have hd := List.nodup_cons.1 h
  have := Ch.woI_no hd.1
  unfold Ch.woI at this ⊢
  rw [List.filter_cons_of_neg (by simp), this]
theorem leave_cons {s : Ro N} {x : Int} {t : List Int} (h : s.all = x :: t) : s.ok = true ∧ s.f = x ∧ s.c.inn x = true ∧ s.leaveC = s.crV x ∧ s.leave.c.inn x = false ∧ s.leave.all = t := by
  have ho : s.ok = true := ok_iff.2 (by rw [h]; simp)
  have hf : s.f = x := by unfold f; rw [h]; rfl
  have hi : s.c.inn x = true := hf ▸ (f_in ho).1
  refine ⟨ho, hf, hi, ?_, ?_, ?_⟩
  · rw [(leave_t ho).2, crV_t hi, hf]
  · rw [(leave_t ho).1, hf]; exact Ch.drop_out _ _
  · rw [(leave_t ho).1, all_dropped, hf, h]; exact woI_cons (h ▸ s.all_nd)
theorem leaves {s : Ro N} {L : List Int} {i : Nat} (h : s.all = L.drop i) (hi : i < L.length) : s.ok = true ∧ s.f = L.getD i 0 ∧ s.c.inn (L.getD i 0) = true ∧ s.leaveC = s.crV (L.getD i 0) ∧ s.leave.c.inn (L.getD i 0) = false ∧ s.leave.all = L.drop (i + 1) :=
  leave_cons (h.trans (Ch.drop_cons hi))
theorem gone {s : Ro N} {L : List Int} {i : Nat} (h : s.all = L.drop i) (hi : L.length ≤ i) : s.head.ok = false ∧ s.head.leave.ok = false ∧ s.head.leave.idle.setE 1 = 2 := by
  rw [List.drop_eq_nil_of_le hi] at h
  have ho := ok_no h
  have e1 : s.head = s := head_no (fun hd => by rw [hd.1] at ho; cases ho)
  rw [e1, (leave_f ho).1, (idle_f ho).1]
  exact ⟨ho, ho, by unfold setE; rw [ho]; rfl⟩
theorem two_eq {r : Ro N} {L : List Int} (h : r.all = L) : ((([] ++ (r.c.lst 0)) ++ (r.c.lst 1)) == L) = true := beq_iff_eq.2 h
theorem two_le (c : Ch 8 2) : (([] ++ c.lst 0) ++ c.lst 1).length ≤ 1000000 := by
  have h1 := c.lst_le 0; have h2 := c.lst_le 1
  rw [List.nil_append, List.length_append]; omega
end Ro
namespace Ro
theorem none_last {r : Ro 3} {h1 h2 h3} (e : r = Ro.new 3 100 h1 h2 h3) {f x : Int} : (r.enterE 0 f x == 2) = decide (f < 0 ∨ f > 2 ∨ x < -65536 ∨ x > 1048576) := by
  subst e
  have hi : (Ro.new 3 100 h1 h2 h3).c.inn f = false := Bool.eq_false_iff.2 fun h => by
    have := Ch.in_mem h
    rw [show (Ro.new 3 100 h1 h2 h3).c = Ch.new 3 2 ⟨h1, by omega⟩ (by decide) from rfl, Ch.lst_new] at this; cases this
  rw [Bool.eq_iff_iff, beq_iff_eq, decide_eq_true_eq]
  unfold enterE
  by_cases hm : mayB x = true
  · rw [if_pos hm]
    have hm' := mayB_iff.1 hm
    unfold Ch.pushE
    rw [hi]
    split
    · rename_i h; constructor
      · intro _; omega
      · intro _; rfl
    · rename_i h; constructor
      · intro g; cases g
      · intro g; omega
  · rw [if_neg hm]
    have hm' : ¬ (-65536 ≤ x ∧ x ≤ 1048576) := fun g => hm (mayB_iff.2 g)
    constructor
    · intro _; omega
    · intro _; rfl
end Ro

end Go.Proofs.Ytjelaoblpchmmaa
