/-
  Plain laws of rounds: whose turn it is.
-/
import Derived.Test.YtjelaoblpchmmaaPlain5
namespace Go.Proofs.Ytjelaoblpchmmaa
set_option linter.unusedVariables false
set_option linter.unusedSimpArgs false
set_option maxRecDepth 100000
open Go.RowKit
variable {N K : Nat}
namespace Ro
theorem woI_len {x : Int} {l : List Int} (hd : l.Nodup) (h : x ∈ l) : (Ch.woI x l).length + 1 = l.length := by
  obtain ⟨A, B, rfl⟩ := List.append_of_mem h
  have h1 := List.nodup_append.1 hd
  have h2 := List.nodup_cons.1 h1.2.1
  have e1 : Ch.woI x A = A := Ch.woI_no (fun g => h1.2.2 x g x (by simp) rfl)
  have e2 : Ch.woI x B = B := Ch.woI_no h2.1
  have : Ch.woI x (A ++ x :: B) = Ch.woI x A ++ Ch.woI x B := by
    unfold Ch.woI; rw [List.filter_append, List.filter_cons_of_neg (by simp)]
  rw [this, e1, e2]; simp; omega
theorem woI_short (x : Int) (l : List Int) : (Ch.woI x l).length ≤ l.length := List.length_filter_le _ _
theorem turn_lst (r : Ro N) (h : r.ok = true) : (r.turn r.f).c.lst 0 = Ch.woI r.f (r.c.lst 0) ∧ (r.turn r.f).c.lst 1 = Ch.woI r.f (r.c.lst 1) ++ [r.f] := by
  have hf := f_in h
  have hp : (r.c.drop r.f).pok 1 r.f := ⟨by decide, hf.2, Ch.drop_out _ _⟩
  constructor
  · show ((r.c.drop r.f).push 1 r.f).lst 0 = _
    rw [Ch.lst_push hp, if_neg (by decide), Ch.lst_drop]
  · show ((r.c.drop r.f).push 1 r.f).lst 1 = _
    rw [Ch.lst_push hp, if_pos rfl, Ch.lst_drop]
theorem turn_all (r : Ro N) (h : r.ok = true) : (r.turn r.f).all = Ch.woI r.f r.all ++ [r.f] := by
  unfold all
  rw [(turn_lst r h).1, (turn_lst r h).2]
  unfold Ch.woI
  rw [List.filter_append, List.append_assoc]
theorem step_c {r : Ro N} (h : r.due) : r.step.c = (r.turn r.f).c ∧ r.step.cr = r.cr.set r.f.toNat (r.cd r.f + r.q) := by rw [step_eq h]; exact ⟨rfl, rfl⟩
theorem step_all {r : Ro N} (h : r.due) : r.step.all = Ch.woI r.f r.all ++ [r.f] := by
  rw [← turn_all r h.1]; unfold all; rw [(step_c h).1]
theorem inn_iff {r : Ro N} {x : Int} : r.c.inn x = true ↔ x ∈ r.all := ⟨in_all, fun h => (all_in h).1⟩
/-- What a look for the head may change. -/
def TurnI (r s : Ro N) : Prop := s.q = r.q ∧ (∀ x, s.c.inn x = r.c.inn x) ∧ s.all.length = r.all.length ∧ (s.c.lst 0).length ≤ (r.c.lst 0).length ∧ ∀ x, 0 ≤ x → ∃ k : Nat, s.cd x = r.cd x + (k : Int) * r.q ∧ (k ≠ 0 → r.cd x ≤ 0)
theorem TurnI.refl (r : Ro N) : TurnI r r := ⟨rfl, fun _ => rfl, rfl, Nat.le_refl _, fun x _ => ⟨0, by simp, fun h => absurd rfl h⟩⟩
theorem TurnI.step {r s : Ro N} (hd : s.due) (h : TurnI r s) : TurnI r s.step := by
  obtain ⟨h1, h2, h3, h4, h5⟩ := h
  have hf := f_in hd.1
  have hm := f_all hd.1
  refine ⟨(q_step s).trans h1, fun x => ?_, ?_, ?_, fun x hx => ?_⟩
  · rw [← h2 x, Bool.eq_iff_iff, inn_iff, inn_iff, step_all hd, List.mem_append, List.mem_singleton, Ch.mem_woI]
    constructor
    · rintro (g | rfl)
      · exact g.1
      · exact hm
    · intro g
      by_cases e : x = s.f
      · exact .inr e
      · exact .inl ⟨g, e⟩
  · rw [step_all hd, List.length_append, List.length_singleton, woI_len s.all_nd hm, h3]
  · rw [(step_c hd).1, (turn_lst s hd.1).1]; exact Nat.le_trans (woI_short _ _) h4
  · obtain ⟨k, e, hk⟩ := h5 x hx
    have hcd : s.step.cd x = if s.f.toNat = x.toNat then s.cd s.f + s.q else s.cd x := by
      unfold cd; rw [(step_c hd).2, getD_set _ _ _ _ (by rw [s.hl]; omega)]; rfl
    by_cases ef : s.f = x
    · subst ef
      rw [if_pos rfl] at hcd
      have hq := r.hq
      have hdd := hd.2
      refine ⟨k + 1, ?_, fun _ => ?_⟩
      · rw [hcd, e, h1]; push_cast; rw [Int.add_mul]; omega
      · have : 0 ≤ (k : Int) * r.q := Int.mul_nonneg (by omega) (by omega)
        omega
    · rw [if_neg (by omega)] at hcd
      exact ⟨k, by rw [hcd, e], hk⟩
theorem head_I (r : Ro N) : TurnI r r.head ∧ ¬ r.head.due := head_ind (P := TurnI r) (fun s hd h => h.step hd) r.lack r (Nat.le_refl _) (TurnI.refl r)
theorem head_head (r : Ro N) : r.head.head = r.head := head_no (head_I r).2
theorem ok_len (r : Ro N) : r.ok = decide (0 < r.all.length) := by
  unfold ok
  cases r.all <;> simp
theorem head_ok (r : Ro N) : r.head.ok = r.ok := by rw [ok_len, ok_len, (head_I r).1.2.2.1]
theorem crV_b (r : Ro N) (x : Int) : -65536 ≤ r.crV x ∧ r.crV x ≤ 1048576 := by
  unfold crV
  split
  · rename_i h; exact r.cd_b (all_in (in_all h)).2
  · omega
section
variable {r r1 r2 : Ro N}
theorem t0 (e1 : r1 = r.head) (e2 : r2 = r1.head) : r2 = r1 := by rw [e2, e1, head_head]
theorem all_len (r : Ro N) : r.all.length = (r.c.lst 0).length + (r.c.lst 1).length := List.length_append
theorem t1 : (r.head.ok != decide (((((r.c.lst 0).length + (r.c.lst 1).length : Nat) : Int) > 0))) = false := by
  rw [head_ok, ok_len, all_len, bne_eq_false_iff_eq, decide_eq_decide]; omega
theorem t2 (e1 : r1 = r.head) : ((((r1.c.lst 0).length + (r1.c.lst 1).length : Nat) : Int) != (((r.c.lst 0).length + (r.c.lst 1).length : Nat) : Int)) = false := by
  rw [e1, ← all_len, ← all_len, (head_I r).1.2.2.1]; exact bne_self_eq_false _
theorem t3 (e1 : r1 = r.head) : decide (((r1.c.lst 0).length : Int) > ((r.c.lst 0).length : Int)) = false := by
  have := (head_I r).1.2.2.2.1
  rw [e1]; exact decide_eq_false (by omega)
theorem t4 (e1 : r1 = r.head) : (r1.head.f != r.head.f) = false ∧ (r1.headC != r.headC) = false ∧ (r1.head.ok != r.head.ok) = false := by
  rw [e1]; unfold headC; rw [head_head]
  exact ⟨bne_self_eq_false _, bne_self_eq_false _, bne_self_eq_false _⟩
theorem t5 (e1 : r1 = r.head) (e2 : r2 = r1.head) (l : Int) : (!(r1.c.lst l == r2.c.lst l)) = false := by rw [t0 e1 e2, beq_self_eq_true]; rfl
theorem t6 (e1 : r1 = r.head) (e2 : r2 = r1.head) {x : Int} (hx : 0 ≤ x) : ∃ k : Nat, r2.crV x = r.crV x + (k : Int) * r.q ∧ (k ≠ 0 → r.crV x ≤ 0) := by
  rw [t0 e1 e2, e1]
  have h := (head_I r).1
  unfold crV
  rw [h.2.1 x]
  split
  · exact h.2.2.2.2 x hx
  · exact ⟨0, by simp, fun g => absurd rfl g⟩
theorem t7 (e1 : r1 = r.head) (e2 : r2 = r1.head) (h : r.head.ok = true) : r2.c.inn r.head.f = true ∧ r2.crV r.head.f = r.headC ∧ r.headC > 0 := by
  rw [t0 e1 e2, e1]
  have hi := (f_in h).1
  refine ⟨hi, ?_, ?_⟩
  · rw [crV_t hi, headC_t rfl h]
  · rw [headC_t rfl h]; exact headV h
theorem t8 (e1 : r1 = r.head) (h : r.head.ok = true) {xs : List Int} (ex : xs = ([] ++ (r1.c.lst 0)) ++ (r1.c.lst 1)) : 0 < xs.length ∧ xs.getD 0 0 = r.head.f := by
  have e : xs = r.head.all := by rw [ex, e1]; rfl
  rw [ok_len] at h
  rw [e]
  refine ⟨of_decide_eq_true h, ?_⟩
  unfold f
  cases r.head.all <;> rfl
/-- The credits that were. -/
def Was (r : Ro 8) (i : Nat) (ws : List Int) : Prop := ws.length = 8 ∧ ∀ j, j < i → ws.getD j 0 = r.crV (j : Int)
theorem was_0 {r : Ro 8} : Was r 0 (List.replicate 8 0) := ⟨rfl, fun j h => absurd h (Nat.not_lt_zero _)⟩
theorem was_s {r : Ro 8} {i : Nat} {ws : List Int} (h : Was r i ws) (hi : i < 8) : Was r (i + 1) (ws.set i (r.crV (i : Int))) := ⟨by rw [List.length_set]; exact h.1, fun j hj => by
  rw [getD_set _ _ _ _ (by rw [h.1]; exact hi)]
  split
  · rename_i e; rw [e]
  · exact h.2 j (by omega)⟩
theorem was_g {r : Ro 8} {n i : Nat} {ws : List Int} (h : Was r n ws) (hn : 8 ≤ n) (hi : i < 8) : ws.getD i 0 = r.crV (i : Int) := h.2 i (by omega)
theorem t9 {r r1 r2 : Ro 8} {i : Nat} {q : Int} {ws : List Int} (e1 : r1 = r.head) (e2 : r2 = r1.head) (hq : r.q = q) (hw : ws.getD i 0 = r.crV (i : Int)) : ¬ r2.crV (i : Int) < ws.getD i 0 ∧ (r2.crV (i : Int) - ws.getD i 0).tmod q = 0 ∧ (r2.crV (i : Int) ≠ ws.getD i 0 → ¬ ws.getD i 0 > 0) := by
  obtain ⟨k, h1, h2⟩ := t6 e1 e2 (x := (i : Int)) (by omega)
  have hr := r.hq
  have hk : 0 ≤ (k : Int) * r.q := Int.mul_nonneg (by omega) (by omega)
  rw [hw]
  refine ⟨by omega, ?_, fun hne => ?_⟩
  · rw [h1, ← hq, show r.crV (i : Int) + (k : Int) * r.q - r.crV (i : Int) = (k : Int) * r.q by omega]; exact Int.mul_tmod_left _ _
  · have := h2 (fun e => hne (by rw [h1, e]; simp)); omega
theorem t10 {r r2 : Ro 8} {i : Nat} {ws : List Int} (hw : ws.getD i 0 = r.crV (i : Int)) : IntKind.wrap .i64 (r2.crV (i : Int) - ws.getD i 0) = r2.crV (i : Int) - ws.getD i 0 := by
  have h1 := r2.crV_b (i : Int); have h2 := r.crV_b (i : Int)
  rw [hw]; exact wrap_i64 (by omega) (by omega)
theorem t12 (r : Ro 8) : IntKind.wrap .i64 (((r.c.lst 0).length : Int) + ((r.c.lst 1).length : Int)) = (((r.c.lst 0).length + (r.c.lst 1).length : Nat) : Int) := by
  have h1 := r.c.lst_le 0; have h2 := r.c.lst_le 1
  rw [wrap_i64 (by omega) (by omega)]; rfl
end
end Ro

end Go.Proofs.Ytjelaoblpchmmaa
