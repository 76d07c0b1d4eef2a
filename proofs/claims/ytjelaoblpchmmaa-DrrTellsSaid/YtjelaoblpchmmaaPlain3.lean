/-
  Rounds, without a program.
-/
import Derived.Test.YtjelaoblpchmmaaPlain2
namespace Go.Proofs.Ytjelaoblpchmmaa
set_option linter.unusedVariables false
set_option linter.unusedSimpArgs false
set_option maxRecDepth 100000
open Go.RowKit
variable {N K : Nat}
theorem pw_keys {hs : List Blk} (h : (hs.map (·.1)).Nodup) : hs.Pairwise fun x y => x.1 ≠ y.1 := List.pairwise_map.1 h
theorem Inv.nd6 {w0 w : World} {hs : List Blk} (h : Inv w0 hs w) (i : Nat) {a b c d e f : Nat} {u1 u2 u3 u4 u5 u6 : Array Value} {t1 t2 t3 t4 t5 t6 : TypeId} (h1 : hs[i]? = some (a, u1, t1)) (h2 : hs[i + 1]? = some (b, u2, t2)) (h3 : hs[i + 2]? = some (c, u3, t3)) (h4 : hs[i + 3]? = some (d, u4, t4)) (h5 : hs[i + 4]? = some (e, u5, t5)) (h6 : hs[i + 5]? = some (f, u6, t6)) : [a, b, c, d, e, f].Nodup := by
  have n12 := h.ne h1 h2 (by omega); have n13 := h.ne h1 h3 (by omega); have n14 := h.ne h1 h4 (by omega); have n15 := h.ne h1 h5 (by omega); have n16 := h.ne h1 h6 (by omega)
  have n23 := h.ne h2 h3 (by omega); have n24 := h.ne h2 h4 (by omega); have n25 := h.ne h2 h5 (by omega); have n26 := h.ne h2 h6 (by omega)
  have n34 := h.ne h3 h4 (by omega); have n35 := h.ne h3 h5 (by omega); have n36 := h.ne h3 h6 (by omega)
  have n45 := h.ne h4 h5 (by omega); have n46 := h.ne h4 h6 (by omega); have n56 := h.ne h5 h6 (by omega)
  simp only at n12 n13 n14 n15 n16 n23 n24 n25 n26 n34 n35 n36 n45 n46 n56
  simp [n12, n13, n14, n15, n16, n23, n24, n25, n26, n34, n35, n36, n45, n46, n56]
theorem fk6 {a b c d e f n : Nat} {u1 u2 u3 u4 u5 u6 : Array Value} {t1 t2 t3 t4 t5 t6 : TypeId} (h1 : n ≤ a) (h2 : n ≤ b) (h3 : n ≤ c) (h4 : n ≤ d) (h5 : n ≤ e) (h6 : n ≤ f) : ∀ x ∈ ([(a, u1, t1), (b, u2, t2), (c, u3, t3), (d, u4, t4), (e, u5, t5), (f, u6, t6)] : List Blk), n ≤ x.1 := fun x hx => by
  simp only [List.mem_cons, List.mem_nil_iff, or_false] at hx
  rcases hx with rfl | rfl | rfl | rfl | rfl | rfl <;> assumption
/-- May a credit be? -/
def mayB (x : Int) : Bool := decide (-65536 ≤ x ∧ x ≤ 1048576)
theorem mayB_iff {x : Int} : mayB x = true ↔ -65536 ≤ x ∧ x ≤ 1048576 := by simp [mayB]
structure Ro (N : Nat) where
  c : Ch N 2
  cr : List Int
  q : Int
  hN : N ≤ 4096
  hq : 64 ≤ q ∧ q ≤ 1048576
  hl : cr.length = N
  hb : ∀ n, n < N → -65536 ≤ cr.getD n 0 ∧ cr.getD n 0 ≤ 1048576
namespace Ro
theorem set_b {xs : List Int} {i : Nat} {x : Int} (h : ∀ n, n < N → -65536 ≤ xs.getD n 0 ∧ xs.getD n 0 ≤ 1048576) (hx : -65536 ≤ x ∧ x ≤ 1048576) : ∀ n, n < N → -65536 ≤ (xs.set i x).getD n 0 ∧ (xs.set i x).getD n 0 ≤ 1048576 := fun n hn => by
  by_cases hi : i < xs.length
  · rw [getD_set _ _ _ _ hi]; split
    · exact hx
    · exact h n hn
  · rw [List.set_eq_of_length_le (by omega)]; exact h n hn
def new (N : Nat) (q : Int) (h1 : 1 ≤ N) (hN : N ≤ 4096) (hq : 64 ≤ q ∧ q ≤ 1048576) : Ro N :=
  ⟨Ch.new N 2 ⟨h1, by omega⟩ (by decide), List.replicate N 0, q, hN, hq, List.length_replicate, fun n _ => by rw [getD_repI]; decide⟩
/-- All, the new ones first. -/
def all (r : Ro N) : List Int := r.c.lst 0 ++ r.c.lst 1
def ok (r : Ro N) : Bool := !r.all.isEmpty
def f (r : Ro N) : Int := r.all.headD 0
def li (r : Ro N) : Int := if (r.c.lst 0).isEmpty && r.ok then 1 else 0
/-- A flow's credit. -/
def cd (r : Ro N) (f : Int) : Int := r.cr.getD f.toNat 0
theorem ok_iff {r : Ro N} : r.ok = true ↔ r.all ≠ [] := by simp [ok]
theorem f_all {r : Ro N} (h : r.ok = true) : r.f ∈ r.all := by
  have h' := ok_iff.1 h
  unfold f
  cases hc : r.all with
  | nil => exact absurd hc h'
  | cons a t => simp
theorem all_in {r : Ro N} {x : Int} (h : x ∈ r.all) : r.c.inn x = true ∧ 0 ≤ x ∧ x < (N : Int) := by
  rcases List.mem_append.1 h with g | g <;> have := Ch.mem_in g <;> exact ⟨this.1, this.2.2.2⟩
theorem f_in {r : Ro N} (h : r.ok = true) : r.c.inn r.f = true ∧ 0 ≤ r.f ∧ r.f < (N : Int) := all_in (f_all h)
theorem cd_b (r : Ro N) {f : Int} (h : 0 ≤ f ∧ f < (N : Int)) : -65536 ≤ r.cd f ∧ r.cd f ≤ 1048576 := r.hb _ (by omega)
theorem some0 {r : Ro N} (h : r.c.some_ 0 = true) : r.li = 0 ∧ r.f = r.c.fst 0 ∧ r.ok = true := by
  have h' := Ch.some_iff.1 h
  have ho : r.ok = true := ok_iff.2 (by unfold all; simp [h'])
  refine ⟨?_, ?_, ho⟩
  · unfold li
    cases hc : r.c.lst 0 with
    | nil => exact absurd hc h'
    | cons a t => rfl
  · unfold f Ch.fst all
    cases hc : r.c.lst 0 with
    | nil => exact absurd hc h'
    | cons a t => rfl
theorem some1 {r : Ro N} (h0 : r.c.some_ 0 = false) (h : r.c.some_ 1 = true) : r.li = 1 ∧ r.f = r.c.fst 1 ∧ r.ok = true := by
  have h0' : r.c.lst 0 = [] := by
    cases hc : r.c.lst 0 with
    | nil => rfl
    | cons a t => unfold Ch.some_ at h0; rw [hc] at h0; cases h0
  have h' := Ch.some_iff.1 h
  have ho : r.ok = true := ok_iff.2 (by unfold all; simp [h'])
  refine ⟨?_, ?_, ho⟩
  · unfold li; rw [h0', ho]; rfl
  · unfold f Ch.fst all; rw [h0']; rfl
theorem lst_none {c : Ch N K} {l : Int} (h : c.some_ l = false) : c.lst l = [] := by
  cases hc : c.lst l with
  | nil => rfl
  | cons a t => unfold Ch.some_ at h; rw [hc] at h; cases h
theorem some2 {r : Ro N} (h0 : r.c.some_ 0 = false) (h1 : r.c.some_ 1 = false) : r.li = 0 ∧ r.f = 0 ∧ r.ok = false := by
  have e0 := lst_none h0; have e1 := lst_none h1
  have ho : r.ok = false := by unfold ok all; rw [e0, e1]; rfl
  exact ⟨by unfold li; rw [ho]; simp, by unfold f all; rw [e0, e1]; rfl, ho⟩
def enterE (r : Ro N) (l f x : Int) : Int := if mayB x then r.c.pushE l f else 2
def enter (r : Ro N) (l f x : Int) : Ro N := if h : mayB x = true then if r.c.pok l f then ⟨r.c.push l f, r.cr.set f.toNat x, r.q, r.hN, r.hq, by rw [List.length_set]; exact r.hl, set_b r.hb (mayB_iff.1 h)⟩ else r else r
theorem enter_t {r : Ro N} {l f x : Int} (h : mayB x = true) (hp : r.c.pok l f) : r.enter l f x = ⟨r.c.push l f, r.cr.set f.toNat x, r.q, r.hN, r.hq, by rw [List.length_set]; exact r.hl, set_b r.hb (mayB_iff.1 h)⟩ := by
  unfold enter; rw [dif_pos h, if_pos hp]
theorem enter_f {r : Ro N} {l f x : Int} (h : mayB x = false) : r.enter l f x = r := by unfold enter; rw [dif_neg (by rw [h]; decide)]
theorem enter_n {r : Ro N} {l f x : Int} (hp : ¬ r.c.pok l f) : r.enter l f x = r := by
  by_cases h : mayB x = true
  · unfold enter; rw [dif_pos h, if_neg hp]
  · unfold enter; rw [dif_neg h]
theorem enterE_t {r : Ro N} {l f x : Int} (h : mayB x = true) : r.enterE l f x = r.c.pushE l f := if_pos h
theorem enterE_f {r : Ro N} {l f x : Int} (h : mayB x = false) : r.enterE l f x = 2 := if_neg (by rw [h]; decide)
/-- To the old list's end. -/
def turn (r : Ro N) (f : Int) : Ro N := ⟨(r.c.drop f).push 1 f, r.cr, r.q, r.hN, r.hq, r.hl, r.hb⟩
def put (r : Ro N) (f x : Int) (h : -65536 ≤ x ∧ x ≤ 1048576) : Ro N := ⟨r.c, r.cr.set f.toNat x, r.q, r.hN, r.hq, by rw [List.length_set]; exact r.hl, set_b r.hb h⟩
/-- Is the first one to be turned? -/
def due (r : Ro N) : Prop := r.ok = true ∧ r.cd r.f ≤ 0
instance (r : Ro N) : Decidable r.due := inferInstanceAs (Decidable (_ ∧ _))
theorem due_b {r : Ro N} (h : r.due) : -65536 ≤ r.cd r.f + r.q ∧ r.cd r.f + r.q ≤ 1048576 := by
  have h1 := r.cd_b (f_in h.1).2; have h2 := r.hq; have := h.2; omega
def step (r : Ro N) : Ro N := if h : r.due then (r.put r.f (r.cd r.f + r.q) (due_b h)).turn r.f else r
def sumN (g : Nat → Nat) : Nat → Nat
  | 0 => 0
  | n + 1 => sumN g n + g n
theorem sumN_lt {g h : Nat → Nat} {i : Nat} : ∀ {n : Nat}, i < n → (∀ j, j ≠ i → g j = h j) → g i < h i → sumN g n < sumN h n
  | n + 1, hi, he, hl => by
    rw [sumN, sumN]
    by_cases e : i = n
    · subst e
      have : sumN g i = sumN h i := by
        have : ∀ m, m ≤ i → sumN g m = sumN h m := by
          intro m
          induction m with
          | zero => intro _; rfl
          | succ m ih => intro hm; rw [sumN, sumN, ih (by omega), he m (by omega)]
        exact this i (Nat.le_refl _)
      omega
    · have := sumN_lt (n := n) (by omega) he hl
      rw [he n (Ne.symm e)]; omega
/-- What all credits lack. -/
def lack (r : Ro N) : Nat := sumN (fun n => (1 - r.cr.getD n 0).toNat) N
theorem step_eq {r : Ro N} (h : r.due) : r.step = (r.put r.f (r.cd r.f + r.q) (due_b h)).turn r.f := dif_pos h
theorem step_no {r : Ro N} (h : ¬ r.due) : r.step = r := dif_neg h
theorem lack_step {r : Ro N} (h : r.due) : r.step.lack < r.lack := by
  rw [step_eq h]
  have hf := (f_in h.1).2
  have hcd : r.cd r.f = r.cr.getD r.f.toNat 0 := rfl
  have h2 := h.2; have h3 := r.hq
  refine sumN_lt (i := r.f.toNat) (by omega) (fun j hj => ?_) ?_
  · show (1 - (r.cr.set _ _).getD j 0).toNat = _
    rw [getD_set _ _ _ _ (by rw [r.hl]; omega), if_neg (Ne.symm hj)]
  · show (1 - (r.cr.set _ _).getD _ 0).toNat < _
    rw [getD_set _ _ _ _ (by rw [r.hl]; omega), if_pos rfl]; omega
def headF : Nat → Ro N → Ro N
  | 0, r => r
  | k + 1, r => if r.due then headF k r.step else r
def head (r : Ro N) : Ro N := headF r.lack r
theorem headF_eq : ∀ (k m : Nat) (r : Ro N), r.lack ≤ k → r.lack ≤ m → headF k r = headF m r
  | 0, 0, r, _, _ => rfl
  | 0, m + 1, r, h, _ => by
    rw [headF, headF, if_neg (fun hd => by have := lack_step hd; omega)]
  | k + 1, 0, r, _, h => by
    rw [headF, headF, if_neg (fun hd => by have := lack_step hd; omega)]
  | k + 1, m + 1, r, h1, h2 => by
    rw [headF, headF]
    split
    · rename_i hd; have := lack_step hd; exact headF_eq k m _ (by omega) (by omega)
    · rfl
theorem head_due {r : Ro N} (h : r.due) : r.step.head = r.head := by
  have hl := lack_step h
  unfold head
  rw [headF_eq r.step.lack (r.lack - 1) r.step (Nat.le_refl _) (by omega)]
  have e : r.lack = (r.lack - 1) + 1 := by omega
  conv => rhs; rw [e, headF, if_pos h]
theorem head_no {r : Ro N} (h : ¬ r.due) : r.head = r := by
  unfold head
  cases r.lack with
  | zero => rfl
  | succ k => rw [headF, if_neg h]
theorem head_ind {P : Ro N → Prop} (hs : ∀ r, r.due → P r → P r.step) : ∀ (k : Nat) (r : Ro N), r.lack ≤ k → P r → P r.head ∧ ¬ r.head.due
  | k, r, hk, hp => by
    by_cases h : r.due
    · have hl := lack_step h
      cases k with
      | zero => omega
      | succ k => rw [← head_due h]; exact head_ind hs k _ (by omega) (hs r h hp)
    · rw [head_no h]; exact ⟨hp, h⟩
def setE (r : Ro N) (x : Int) : Int := if r.ok && mayB x then 0 else 2
def set (r : Ro N) (x : Int) : Ro N := if h : r.ok = true ∧ mayB x = true then r.put r.f x (mayB_iff.1 h.2) else r
theorem set_eq {r : Ro N} {x : Int} (h : r.ok = true ∧ mayB x = true) : r.set x = r.put r.f x (mayB_iff.1 h.2) := dif_pos h
theorem set_no {r : Ro N} {x : Int} (h : ¬ (r.ok = true ∧ mayB x = true)) : r.set x = r := dif_neg h
def dropped (r : Ro N) (f : Int) : Ro N := ⟨r.c.drop f, r.cr, r.q, r.hN, r.hq, r.hl, r.hb⟩
def leave (r : Ro N) : Ro N := if r.ok then r.dropped r.f else r
def leaveC (r : Ro N) : Int := if r.ok then r.cd r.f else 0
theorem f_no {r : Ro N} (h : r.ok = false) : r.f = 0 := by
  unfold ok at h
  unfold f
  cases hc : r.all with
  | nil => rfl
  | cons a t => rw [hc] at h; cases h
def idle (r : Ro N) : Ro N := if r.ok then if r.li == 0 then r.turn r.f else r.dropped r.f else r
def idleL (r : Ro N) : Bool := r.ok && r.li != 0
def crV (r : Ro N) (f : Int) : Int := if r.c.inn f then r.cd f else 0
theorem leave_t {r : Ro N} (h : r.ok = true) : r.leave = r.dropped r.f ∧ r.leaveC = r.cd r.f := ⟨if_pos h, if_pos h⟩
theorem leave_f {r : Ro N} (h : r.ok = false) : r.leave = r ∧ r.leaveC = 0 := ⟨if_neg (by rw [h]; decide), if_neg (by rw [h]; decide)⟩
theorem idle_f {r : Ro N} (h : r.ok = false) : r.idle = r ∧ r.idleL = false := ⟨if_neg (by rw [h]; decide), by unfold idleL; rw [h]; rfl⟩
theorem idle_0 {r : Ro N} (h : r.ok = true) (hl : (r.li == 0) = true) : r.idle = r.turn r.f ∧ r.idleL = false := by
  unfold idle idleL
  rw [if_pos h, if_pos hl, h, show r.li = 0 from beq_iff_eq.1 hl]; exact ⟨rfl, rfl⟩
theorem idle_1 {r : Ro N} (h : r.ok = true) (hl : (r.li == 0) = false) : r.idle = r.dropped r.f ∧ r.idleL = true := by
  unfold idle idleL
  rw [if_pos h, if_neg (by rw [hl]; decide), h, show (r.li != 0) = true from by unfold bne; rw [hl]; rfl]; exact ⟨rfl, rfl⟩
theorem headV {r : Ro N} : r.head.ok = true → r.head.cd r.head.f > 0 := fun h => by
  have := (head_ind (P := fun _ => True) (fun _ _ _ => trivial) r.lack r (Nat.le_refl _) trivial).2
  exact Classical.byContradiction fun hn => this ⟨h, by omega⟩
end Ro
namespace Ro
/-- What Head tells. -/
def headC (r : Ro N) : Int := if r.head.ok then r.head.cd r.head.f else 0
theorem head_t {r s : Ro N} (h : s.head = r.head) (hn : ¬ s.due) : r.head = s := by rw [← h, head_no hn]
theorem headC_t {r s : Ro N} (h : r.head = s) (ho : s.ok = true) : r.headC = s.cd s.f := by unfold headC; rw [h, if_pos ho]
theorem headC_f {r s : Ro N} (h : r.head = s) (ho : s.ok = false) : r.headC = 0 := by unfold headC; rw [h, if_neg (by rw [ho]; decide)]
theorem crV_t {r : Ro N} {f : Int} (h : r.c.inn f = true) : r.crV f = r.cd f := if_pos h
theorem crV_f {r : Ro N} {f : Int} (h : r.c.inn f = false) : r.crV f = 0 := if_neg (by rw [h]; decide)
end Ro
theorem Inv.unreadA2 {w w' : World} {A S T : List Blk} (h : Inv w (A ++ S ++ T) w') (h0 : Has A w) : Inv w (S ++ T) w' := Inv.unreadA (A := A) (B := S ++ T) (by rw [← List.append_assoc]; exact h) h0
theorem Inv.callN2 {w0 w w' : World} {hs S T : List Blk} (h : Inv w0 hs w) (h' : Inv w (S ++ T) w') (hS : ∀ x ∈ S, w.heap.size ≤ x.1) (hT : ∀ x ∈ T, w.heap.size ≤ x.1) : Inv w0 (hs ++ S ++ T) w' := by
  rw [List.append_assoc]; exact h.callN h' (fk_app hS hT)
namespace Ro
theorem q_enter (r : Ro N) (l f x : Int) : (r.enter l f x).q = r.q := by
  unfold enter
  split
  · split <;> rfl
  · rfl
theorem q_step (r : Ro N) : r.step.q = r.q := by
  unfold step
  split <;> rfl
theorem q_head (r : Ro N) : r.head.q = r.q := (head_ind (P := fun s => s.q = r.q) (fun s _ h => (q_step s).trans h) r.lack r (Nat.le_refl _) rfl).1
theorem q_set (r : Ro N) (x : Int) : (r.set x).q = r.q := by
  unfold set
  split <;> rfl
theorem q_leave (r : Ro N) : r.leave.q = r.q := by
  unfold leave
  split <;> rfl
theorem q_idle (r : Ro N) : r.idle.q = r.q := by
  unfold idle
  split
  · split <;> rfl
  · rfl
end Ro

end Go.Proofs.Ytjelaoblpchmmaa
