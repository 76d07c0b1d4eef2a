/-
  Plain laws of count: what was drained.
-/
import Derived.Test.YtohkdjaobdgenaaPlain3
namespace Go.Proofs.Ytohkdjaobdgenaa
set_option linter.unusedVariables false
set_option linter.unusedSimpArgs false
set_option maxRecDepth 100000
open Go.RowKit
def addE (n : Nat) (i : Int) : Int := if 0 ≤ i ∧ i < (n : Int) then 0 else 2
def addX (xs : List Int) (n k : Nat) (i v : Int) : List Int := if 0 ≤ i ∧ i < (n : Int) then xs.set i.toNat ((xs.getD i.toNat 0 + v) % pw k) else xs
theorem addX_len {xs : List Int} {n k : Nat} {i v : Int} (h : xs.length = n) : (addX xs n k i v).length = n := by
  unfold addX; split
  · rw [List.length_set]; exact h
  · exact h
theorem addX_get {xs : List Int} {n k j : Nat} {i v : Int} (h : xs.length = n) (hj : j < n) : (addX xs n k i v).getD j 0 = if i = (j : Int) then (xs.getD j 0 + v) % pw k else xs.getD j 0 := by
  unfold addX
  by_cases hi : 0 ≤ i ∧ i < (n : Int)
  · rw [if_pos hi, getD_set' (by omega)]
    by_cases e : i = (j : Int)
    · rw [if_pos (by omega), if_pos e, show i.toNat = j by omega]
    · rw [if_neg (by omega), if_neg e]
  · rw [if_neg hi, if_neg (by omega)]
set_option maxHeartbeats 4000000 in
theorem add_any {lb cb : Nat} {xs : List Int} {n k : Nat} (hl : xs.length = n) {i am : Int} (hk1 : 1 ≤ k) (hk2 : k ≤ 64) (hne : lb ≠ cb) {w : World} (h0_ : Has [(lb, arr .u64 xs, 24), (cb, #[.slice (some ⟨lb, 0, none⟩) n n, .int .i64 (k : Int)], 58)] w) :
    Calls Try.prog 16 [.pointer (some ⟨cb, 0, none⟩), .int .i64 i, .int .u64 am].toArray w fun e w' => e = .returned (.int .i64 (addE n i)) ∧ Inv w [(lb, arr .u64 (addX xs n k i am), 24), (cb, #[.slice (some ⟨lb, 0, none⟩) n n, .int .i64 (k : Int)], 58)] w' := by
  unfold addE addX
  by_cases hi : 0 ≤ i ∧ i < (n : Int)
  · rw [if_pos hi, if_pos hi]
    obtain ⟨j, rfl⟩ := Int.eq_ofNat_of_zero_le hi.1
    rw [Int.toNat_natCast]
    exact add_in hl (by omega) hk1 hk2 hne h0_
  · rw [if_neg hi, if_neg hi]
    refine (add_out hl (by omega) hne h0_).mono fun e w' h => ⟨h.1, ?_⟩
    have hs := Inv.startS h0_ (by simp [hne])
    exact hs.call0 h.2
/-! Drain -/
structure Dr (xs ys zs : List Int) (n k : Nat) : Prop where
  lx : xs.length = n
  ly : ys.length = n
  lz : zs.length = n
  get : ∀ j, j < n → ys.getD j 0 = (zs.getD j 0 + xs.getD j 0) % pw k
theorem Dr.init {n k : Nat} : Dr (List.replicate n 0) (List.replicate n 0) (List.replicate n 0) n k :=
  ⟨List.length_replicate, List.length_replicate, List.length_replicate, fun j _ => by rw [getD_rep]; rfl⟩
theorem Dr.add {xs ys zs : List Int} {n k : Nat} {i v : Int} (h : Dr xs ys zs n k) : Dr (addX xs n k i v) (addX ys n k i v) zs n k := by
  refine ⟨addX_len h.lx, addX_len h.ly, h.lz, fun j hj => ?_⟩
  rw [addX_get h.lx hj, addX_get h.ly hj]
  by_cases e : i = (j : Int)
  · rw [if_pos e, if_pos e, h.get j hj, Int.emod_add_emod, Int.add_emod_emod, Int.add_assoc]
  · rw [if_neg e, if_neg e]; exact h.get j hj
structure Dl (zs ts xs : List Int) (n k i : Nat) : Prop where
  le : i ≤ n
  len : ts.length = n
  get : ∀ j, j < n → ts.getD j 0 = if j < i then (zs.getD j 0 + xs.getD j 0) % pw k else zs.getD j 0
theorem Dl.init {zs xs : List Int} {n k : Nat} (h : zs.length = n) : Dl zs zs xs n k 0 := ⟨Nat.zero_le _, h, fun j _ => by rw [if_neg (Nat.not_lt_zero j)]⟩
theorem getD_app {xs ys : List Int} {j : Nat} (h : j < xs.length) : (xs ++ ys).getD j 0 = xs.getD j 0 := by
  simp only [List.getD, List.getElem?_append_left h]
theorem Dl.step {zs ts xs us : List Int} {n k i : Nat} (h : Dl zs ts xs n k i) (hx : xs.length = n) (hi : i < n) : Dl zs (ts.set i ((ts.getD i 0 + (xs ++ us).getD i 0) % pw k)) xs n k (i + 1) := by
  refine ⟨hi, by rw [List.length_set]; exact h.len, fun j hj => ?_⟩
  rw [getD_set' (by rw [h.len]; exact hj), getD_app (by omega)]
  by_cases e : i = j
  · subst e
    rw [if_pos rfl, if_pos (by omega), h.get i hi, if_neg (by omega)]
  · rw [if_neg e, h.get j hj]
    by_cases g : j < i
    · rw [if_pos g, if_pos (by omega)]
    · rw [if_neg g, if_neg (by omega)]
theorem Dr.drain {xs ys zs ts : List Int} {n k i : Nat} (hk1 : 1 ≤ k) (hk2 : k ≤ 64) (h : Dr xs ys zs n k) (d : Dl zs ts xs n k i) (hi : ¬ i < n) : Dr (List.replicate n 0) ys ts n k := by
  refine ⟨List.length_replicate, h.ly, d.len, fun j hj => ?_⟩
  rw [getD_rep, d.get j hj, if_pos (by omega), Int.add_zero, Int.emod_emod_of_dvd _ (Int.dvd_refl _)]
  exact h.get j hj
theorem Dr.end_ {xs ys zs ts : List Int} {n k i : Nat} (h : Dr xs ys zs n k) (d : Dl zs ts xs n k i) (hi : ¬ i < n) : (ts == ys) = true := by
  rw [beq_iff_eq]
  apply List.ext_getElem?
  intro j
  by_cases hj : j < n
  · have := (d.get j hj).trans ((if_pos (by omega)).trans (h.get j hj).symm)
    simp only [List.getD, List.getElem?_eq_getElem (show j < ts.length by rw [d.len]; exact hj), List.getElem?_eq_getElem (show j < ys.length by rw [h.ly]; exact hj), Option.getD_some] at this
    rw [List.getElem?_eq_getElem (show j < ts.length by rw [d.len]; exact hj), List.getElem?_eq_getElem (show j < ys.length by rw [h.ly]; exact hj), this]
  · rw [List.getElem?_eq_none (by rw [d.len]; omega), List.getElem?_eq_none (by rw [h.ly]; omega)]

end Go.Proofs.Ytohkdjaobdgenaa
