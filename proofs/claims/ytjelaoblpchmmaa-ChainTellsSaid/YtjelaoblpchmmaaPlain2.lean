/-
  Plain laws of chain: how many there are; one out at a time.
-/
import Derived.Test.YtjelaoblpchmmaaOpen
namespace Go.Proofs.Ytjelaoblpchmmaa
set_option linter.unusedVariables false
set_option linter.unusedSimpArgs false
set_option maxRecDepth 100000
open Go.RowKit
variable {N K : Nat}
theorem nodup_le : ∀ {l m : List Int}, l.Nodup → (∀ x ∈ l, x ∈ m) → l.length ≤ m.length
  | [], _, _, _ => by simp
  | a :: t, m, hd, h => by
    obtain ⟨A, B, rfl⟩ := List.append_of_mem (h a (by simp))
    have h2 := List.nodup_cons.1 hd
    have := nodup_le (m := A ++ B) h2.2 (fun x hx => by
      have hx' := h x (List.mem_cons_of_mem _ hx)
      have hne : x ≠ a := fun e => h2.1 (e ▸ hx)
      simp only [List.mem_append, List.mem_cons] at hx' ⊢
      rcases hx' with g | g | g
      · exact .inl g
      · exact absurd g hne
      · exact .inr g)
    simp only [List.length_append, List.length_cons] at this ⊢; omega
namespace Ch
def Fl (c : Ch N K) : Nat → List Int
  | 0 => []
  | i + 1 => Fl c i ++ c.lst (i : Int)
def allF (c : Ch N K) : Nat → Int
  | 0 => 0
  | i + 1 => allF c i + ((c.lst (i : Int)).length : Int)
def Tl (c : Ch N K) : Nat → List Int
  | 0 => []
  | n + 1 => Tl c n ++ if c.inn (n : Int) then [(n : Int)] else []
def toldF (c : Ch N K) : Nat → Int
  | 0 => 0
  | n + 1 => toldF c n + if c.inn (n : Int) then 1 else 0
theorem mem_Fl {c : Ch N K} {x : Int} : ∀ {i : Nat}, x ∈ c.Fl i ↔ c.inn x = true ∧ c.atV x < (i : Int)
  | 0 => by
    constructor
    · intro h; cases h
    · rintro ⟨h1, h2⟩; have := (mem_in (in_mem h1)).2.2.1; omega
  | i + 1 => by
    rw [Fl, List.mem_append, mem_Fl (i := i)]
    constructor
    · rintro (h | h)
      · exact ⟨h.1, by omega⟩
      · have := mem_in h; exact ⟨this.1, by omega⟩
    · rintro ⟨h1, h2⟩
      by_cases h : c.atV x < (i : Int)
      · exact .inl ⟨h1, h⟩
      · have := in_mem h1; rw [show c.atV x = (i : Int) by omega] at this; exact .inr this
theorem nd_Fl {c : Ch N K} : ∀ {i : Nat}, (c.Fl i).Nodup
  | 0 => List.nodup_nil
  | i + 1 => List.nodup_append.2 ⟨nd_Fl, c.nodup _, fun a ha b hb e => by
      subst e; have := (mem_Fl.1 ha).2; have := (mem_in hb).2.1; omega⟩
theorem len_Fl {c : Ch N K} : ∀ {i : Nat}, ((c.Fl i).length : Int) = c.allF i
  | 0 => rfl
  | i + 1 => by rw [Fl, allF, List.length_append, ← len_Fl (i := i)]; push_cast; rfl
theorem mem_Tl {c : Ch N K} {x : Int} : ∀ {n : Nat}, x ∈ c.Tl n ↔ c.inn x = true ∧ 0 ≤ x ∧ x < (n : Int)
  | 0 => by
    constructor
    · intro h; cases h
    · rintro ⟨_, h1, h2⟩; omega
  | n + 1 => by
    rw [Tl, List.mem_append, mem_Tl (n := n)]
    constructor
    · rintro (h | h)
      · exact ⟨h.1, by omega, by omega⟩
      · split at h
        · rename_i hi; rw [List.mem_singleton] at h; subst h; exact ⟨hi, by omega, by omega⟩
        · cases h
    · rintro ⟨h1, h2, h3⟩
      by_cases h : x < (n : Int)
      · exact .inl ⟨h1, h2, h⟩
      · have e : x = (n : Int) := by omega
        subst e
        rw [if_pos h1]; exact .inr (by simp)
theorem nd_Tl {c : Ch N K} : ∀ {n : Nat}, (c.Tl n).Nodup
  | 0 => List.nodup_nil
  | n + 1 => List.nodup_append.2 ⟨nd_Tl, by split <;> simp, fun a ha b hb e => by
      subst e; have := (mem_Tl.1 ha).2
      split at hb
      · rw [List.mem_singleton] at hb; omega
      · cases hb⟩
theorem len_Tl {c : Ch N K} : ∀ {n : Nat}, ((c.Tl n).length : Int) = c.toldF n
  | 0 => rfl
  | n + 1 => by rw [Tl, toldF, List.length_append, ← len_Tl (n := n)]; split <;> simp
theorem all_told (c : Ch N K) : c.allF K = c.toldF N := by
  rw [← len_Fl, ← len_Tl]
  have h1 : (c.Fl K).length ≤ (c.Tl N).length := nodup_le nd_Fl (fun x hx => by
    have := (mem_Fl.1 hx).1; have h := mem_in (in_mem this); exact mem_Tl.2 ⟨this, h.2.2.2⟩)
  have h2 : (c.Tl N).length ≤ (c.Fl K).length := nodup_le nd_Tl (fun x hx => by
    have := (mem_Tl.1 hx).1; have h := mem_in (in_mem this); exact mem_Fl.2 ⟨this, h.2.2.1.2⟩)
  omega
theorem allF_b (c : Ch N K) : ∀ i : Nat, 0 ≤ c.allF i ∧ c.allF i ≤ N * i
  | 0 => by simp [allF]
  | i + 1 => by
    have h1 := allF_b c i; have h2 := c.lst_le (i : Int)
    have e : (N : Int) * ((i + 1 : Nat) : Int) = N * i + N := by push_cast; rw [Int.mul_add, Int.mul_one]
    rw [e]; simp only [allF]; omega
theorem toldF_b (c : Ch N K) : ∀ n : Nat, 0 ≤ c.toldF n ∧ c.toldF n ≤ n
  | 0 => by simp [toldF]
  | n + 1 => by have h1 := toldF_b c n; simp only [toldF]; split <;> omega
theorem told_t {c : Ch N K} {n : Nat} (h : c.inn (n : Int) = true) : c.toldF (n + 1) = c.toldF n + 1 := by rw [toldF, if_pos h]
theorem told_f {c : Ch N K} {n : Nat} (h : c.inn (n : Int) = false) : c.toldF (n + 1) = c.toldF n := by rw [toldF, if_neg (by rw [h]; decide)]; omega
/-- What was met: all of the lists ahead, and so many of this one. -/
def Met (c : Ch N K) (i j : Nat) (ms : List Int) : Prop := ms.length = N ∧ ∀ n : Nat, n < N → ms.getD n 0 = if (c.inn (n : Int) = true ∧ c.atV (n : Int) < (i : Int)) ∨ (n : Int) ∈ (c.lst (i : Int)).take j then 1 else 0
theorem Met.init {c : Ch N K} : Met c 0 0 (List.replicate N 0) := ⟨List.length_replicate, fun n hn => by
  rw [getD_repI, if_neg]
  rintro (⟨h1, h2⟩ | h)
  · have := (mem_in (in_mem h1)).2.2.1; omega
  · simp at h⟩
theorem take_g {l : List Int} {j : Nat} (hj : j < l.length) : l.take (j + 1) = l.take j ++ [l.getD j 0] := by
  rw [List.take_add_one, List.getElem?_eq_getElem hj, List.getD_eq_getElem?_getD, List.getElem?_eq_getElem hj]; rfl
theorem get_mem {l : List Int} {j : Nat} (hj : j < l.length) : l.getD j 0 ∈ l := by
  rw [List.getD_eq_getElem?_getD, List.getElem?_eq_getElem hj]; exact List.getElem_mem hj
theorem get_new {l : List Int} {j : Nat} (hj : j < l.length) (hd : l.Nodup) : l.getD j 0 ∉ l.take j := by
  intro h
  have hs : (l.take (j + 1)).Nodup := List.Nodup.sublist (List.take_sublist _ _) hd
  rw [take_g hj] at hs
  exact (List.nodup_append.1 hs).2.2 _ h _ (by simp) rfl
theorem Met.get {c : Ch N K} {i j : Nat} {ms : List Int} (h : Met c i j ms) (hj : j < (c.lst (i : Int)).length) : ms.getD ((c.lst (i : Int)).getD j 0).toNat 0 = 0 := by
  have hm := mem_in (get_mem hj)
  rw [h.2 _ (by omega), if_neg]
  rw [show (((c.lst (i : Int)).getD j 0).toNat : Int) = (c.lst (i : Int)).getD j 0 by omega]
  rintro (⟨h1, h2⟩ | h)
  · omega
  · exact get_new hj (c.nodup _) h
theorem Met.set {c : Ch N K} {i j : Nat} {ms : List Int} (h : Met c i j ms) (hj : j < (c.lst (i : Int)).length) : Met c i (j + 1) (ms.set ((c.lst (i : Int)).getD j 0).toNat 1) := by
  have hm := mem_in (get_mem hj)
  refine ⟨by rw [List.length_set]; exact h.1, fun n hn => ?_⟩
  rw [getD_set _ _ _ _ (by rw [h.1]; omega), take_g hj]
  by_cases e : ((c.lst (i : Int)).getD j 0).toNat = n
  · rw [if_pos e, if_pos]
    exact .inr (List.mem_append_right _ (by rw [List.mem_singleton]; have := hm.2.2.2.1; omega))
  · rw [if_neg e, h.2 n hn]
    congr 1
    rw [eq_iff_iff]
    constructor
    · rintro (h | h)
      · exact .inl h
      · exact .inr (List.mem_append_left _ h)
    · rintro (h | h)
      · exact .inl h
      · rcases List.mem_append.1 h with g | g
        · exact .inr g
        · rw [List.mem_singleton] at g; omega
theorem Met.next {c : Ch N K} {i : Nat} {ms : List Int} (h : Met c i (c.lst (i : Int)).length ms) : Met c (i + 1) 0 ms := ⟨h.1, fun n hn => by
  rw [h.2 n hn, List.take_length, List.take_zero]
  congr 1
  rw [eq_iff_iff]
  constructor
  · rintro (h | h)
    · exact .inl ⟨h.1, by omega⟩
    · have := mem_in h; exact .inl ⟨this.1, by omega⟩
  · rintro (h | h)
    · by_cases e : c.atV (n : Int) < (i : Int)
      · exact .inl ⟨h.1, e⟩
      · have := in_mem h.1; rw [show c.atV (n : Int) = (i : Int) by omega] at this; exact .inr this
    · cases h⟩
theorem Met.m {c : Ch N K} {i j : Nat} {ms : List Int} (h : Met c i j ms) (hj : j = (c.lst (i : Int)).length) : Met c (i + 1) 0 ms := (hj ▸ h).next
theorem push_50 (c : Ch N K) {l n : Int} (h : n ∈ c.lst l) : c.pushE (c.atV n) n = 50 ∧ c.push (c.atV n) n = c := by
  have := mem_in h
  exact ⟨pushE_50 (by rw [this.2.1]; exact this.2.2.1) this.2.2.2 this.1, push_no (fun g => by have := g.2.2; simp_all)⟩
/-- One is out at a time. -/
theorem pop_lst {c : Ch N K} {k : Int} {x : Int} {t : List Int} (h : c.lst k = x :: t) : c.some_ k = true ∧ c.fst k = x ∧ (c.pop k).lst k = t := by
  have h1 : c.some_ k = true := some_iff.2 (by rw [h]; simp)
  have h2 : c.fst k = x := by unfold fst; rw [h]; rfl
  refine ⟨h1, h2, ?_⟩
  rw [pop_t h1, lst_drop, h2, h]
  have hd := List.nodup_cons.1 (h ▸ c.nodup k)
  have := woI_no hd.1
  unfold woI at this ⊢
  rw [List.filter_cons_of_neg (by simp), this]
theorem drop_cons {l : List Int} {i : Nat} (hi : i < l.length) : l.drop i = l.getD i 0 :: l.drop (i + 1) := by
  rw [List.drop_eq_getElem_cons hi, List.getD_eq_getElem?_getD, List.getElem?_eq_getElem hi]; rfl
theorem woI_take {l : List Int} {n : Int} {i : Nat} (hi : i < l.length) : woI n (l.take (i + 1)) = if l.getD i 0 != n then woI n (l.take i) ++ [l.getD i 0] else woI n (l.take i) := by
  rw [take_g hi]
  unfold woI
  rw [List.filter_append]
  split
  · rename_i h; rw [List.filter_cons_of_pos (p := fun y => y != n) h]; rfl
  · rename_i h; rw [List.filter_cons_of_neg (p := fun y => y != n) h]; simp
theorem woI_le (l : List Int) (n : Int) (i : Nat) : (woI n (l.take i)).length ≤ l.length := by
  unfold woI
  exact Nat.le_trans (List.length_filter_le _ _) (by rw [List.length_take]; omega)
end Ch
namespace Ch
theorem allF_w (c : Ch 20 4) {i : Nat} (hi : i < 4) : IntKind.wrap .i64 (c.allF i + ((c.lst (i : Int)).length : Int)) = c.allF (i + 1) := by
  have h := allF_b c (i + 1)
  have e : c.allF (i + 1) = c.allF i + ((c.lst (i : Int)).length : Int) := rfl
  rw [e] at h ⊢
  exact wrap_i64 (by omega) (by omega)
theorem told_w (c : Ch 20 4) {n : Nat} (hn : n < 20) (h : c.inn (n : Int) = true) : IntKind.wrap .i64 (c.toldF n + 1) = c.toldF (n + 1) := by
  have := toldF_b c n
  rw [told_t h]; exact wrap_i64 (by omega) (by omega)
theorem all4 {c : Ch 20 4} {i m : Nat} (hi : i = 4) (hm : m = 20) : (c.allF i == c.toldF m) = true := by subst hi; subst hm; exact beq_iff_eq.2 (all_told c)
end Ch
namespace Ch
theorem push_end {c : Ch N K} {k n : Int} (h : c.pok k n) : (c.push k n).lst k = c.lst k ++ [n] := by rw [lst_push h, if_pos rfl]
theorem keep_lst {c : Ch N K} {k n : Int} (h : c.inn n = false ∨ c.atV n ≠ k) : (c.drop n).lst k = c.lst k := by
  rw [lst_drop, woI_no (fun hm => ?_)]
  have := mem_in hm
  rcases h with h | h
  · rw [this.1] at h; cases h
  · exact h this.2.1
theorem wo_all {c : Ch N K} {k : Int} (n : Int) {j : Nat} (h : j = (c.lst k).length) : woI n ((c.lst k).take j) = (c.drop n).lst k := by
  subst h; rw [List.take_length, lst_drop]
theorem gone {c d : Ch N K} {k : Int} {j : Nat} (h : d.lst k = (c.lst k).drop j) (hj : j = (c.lst k).length) : d.some_ k = false ∧ ((d.pop k).lst k).length = 0 := by
  subst hj
  rw [List.drop_length] at h
  have : d.some_ k = false := by unfold some_; rw [h]; rfl
  exact ⟨this, by rw [pop_f this, h]; rfl⟩
end Ch
theorem Inv.more {w0 w : World} {X : List Blk} (h : Inv w0 X w) : Inv w0 (X ++ []) w := by rw [List.append_nil]; exact h

end Go.Proofs.Ytjelaoblpchmmaa
