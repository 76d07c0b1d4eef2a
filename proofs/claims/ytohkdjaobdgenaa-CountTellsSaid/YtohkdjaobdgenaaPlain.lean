/-
  Plain laws of count.
-/
import Derived.Test.YtohkdjaobdgenaaAt
import Derived.Laws.Bits64
import Derived.Laws.BitsLemmas
namespace Go.Proofs.Ytohkdjaobdgenaa
set_option linter.unusedVariables false
set_option linter.unusedSimpArgs false
set_option maxRecDepth 100000
theorem wrap_u64 {x : Int} (h1 : 0 ≤ x) (h2 : x < 18446744073709551616) : IntKind.wrap .u64 x = x := by rw [IntKind.wrap_u64]; omega
theorem wrap_u8 {x : Int} (h1 : 0 ≤ x) (h2 : x ≤ 255) : IntKind.wrap .u8 x = x := by rw [IntKind.wrap_u8]; omega
theorem wf_u64 {n : Int} (h1 : 0 ≤ n) (h2 : n < 18446744073709551616) : (Lit.int .u64 n).wf = true := WalkArith.wf_u64 ⟨h1, by omega⟩
/-- The greatest number of so many bits, and one: 2 to so many. -/
def pw (k : Nat) : Int := 2 ^ k
theorem pw_all : ∀ k : Fin 65, k.val = 0 ∨ (IntKind.wrap .u64 (1 * 2 ^ (min ((k.val - 1 : Nat) : Int).toNat IntKind.u64.bits)) = pw (k.val - 1) ∧ IntKind.wrap .u64 (pw (k.val - 1) * 2 ^ (min (1 : Int).toNat IntKind.u64.bits)) = IntKind.wrap .u64 (pw k.val) ∧
    IntKind.wrap .u64 (IntKind.wrap .u64 (pw k.val) - 1) = pw k.val - 1 ∧ (18446744073709551615 : Int).fdiv (2 ^ (min ((64 - k.val : Nat) : Int).toNat IntKind.u64.bits)) = pw k.val - 1 ∧ 2 ≤ pw k.val ∧ pw k.val ≤ 18446744073709551616 ∧ (18446744073709551616 : Int) % pw k.val = 0) := by decide +kernel
theorem pw_k {k : Nat} (h1 : 1 ≤ k) (h2 : k ≤ 64) : IntKind.wrap .u64 (1 * 2 ^ (min ((k - 1 : Nat) : Int).toNat IntKind.u64.bits)) = pw (k - 1) ∧ IntKind.wrap .u64 (pw (k - 1) * 2 ^ (min (1 : Int).toNat IntKind.u64.bits)) = IntKind.wrap .u64 (pw k) ∧
    IntKind.wrap .u64 (IntKind.wrap .u64 (pw k) - 1) = pw k - 1 ∧ (18446744073709551615 : Int).fdiv (2 ^ (min ((64 - k : Nat) : Int).toNat IntKind.u64.bits)) = pw k - 1 ∧ 2 ≤ pw k ∧ pw k ≤ 18446744073709551616 ∧ (18446744073709551616 : Int) % pw k = 0 := by
  rcases pw_all ⟨k, by omega⟩ with h | h
  · simp only at h; omega
  · exact h
theorem pw2 {k : Nat} (h1 : 1 ≤ k) (h2 : k ≤ 64) : 2 ≤ pw k ∧ pw k ≤ 18446744073709551616 := ⟨(pw_k h1 h2).2.2.2.2.1, (pw_k h1 h2).2.2.2.2.2.1⟩
/-- Going round. -/
theorem and_pw {k : Nat} {m : Int} (h1 : 1 ≤ k) (h2 : k ≤ 64) (h0 : 0 ≤ m) : IntKind.wrap .u64 (BitVec.ofInt IntKind.u64.bits m &&& BitVec.ofInt IntKind.u64.bits (pw k - 1)).toNat = m % pw k := by
  have hp := pw2 h1 h2
  obtain ⟨n, rfl⟩ := Int.eq_ofNat_of_zero_le h0
  have e1 : pw k - 1 = ((2 ^ k - 1 : Nat) : Int) := by
    have : 1 ≤ 2 ^ k := Nat.one_le_two_pow
    rw [Int.natCast_sub this]; unfold pw; push_cast; rfl
  have hb : (BitVec.ofInt IntKind.u64.bits (n : Int) &&& BitVec.ofInt IntKind.u64.bits (pw k - 1)).toNat = n % 2 ^ k := by
    rw [e1, BitVec.ofInt_natCast, BitVec.ofInt_natCast, BitVec.toNat_and, BitVec.toNat_ofNat, BitVec.toNat_ofNat]
    have hk : (2 ^ k - 1) % 2 ^ IntKind.u64.bits = 2 ^ k - 1 := Nat.mod_eq_of_lt (by
      show 2 ^ k - 1 < 2 ^ 64
      have := Nat.pow_le_pow_right (show 0 < 2 by decide) h2
      have : 1 ≤ 2 ^ k := Nat.one_le_two_pow
      omega)
    rw [hk, Nat.and_two_pow_sub_one_eq_mod]
    exact Nat.mod_mod_of_dvd n (Nat.pow_dvd_pow 2 h2)
  rw [hb]
  have hl : n % 2 ^ k < 2 ^ k := Nat.mod_lt _ (Nat.two_pow_pos k)
  have e2 : ((n % 2 ^ k : Nat) : Int) = (n : Int) % pw k := by unfold pw; push_cast; rfl
  rw [e2]
  have := Int.emod_nonneg (n : Int) (show pw k ≠ 0 by omega)
  have := Int.emod_lt_of_pos (n : Int) (show 0 < pw k by omega)
  exact wrap_u64 (by omega) (by omega)
theorem wrap_mod {k : Nat} {m : Int} (h1 : 1 ≤ k) (h2 : k ≤ 64) : IntKind.wrap .u64 m % pw k = m % pw k := by
  rw [IntKind.wrap_u64]
  exact Int.emod_emod_of_dvd _ (Int.dvd_of_emod_eq_zero (pw_k h1 h2).2.2.2.2.2.2)
theorem wrap_nn {m : Int} : 0 ≤ IntKind.wrap .u64 m ∧ IntKind.wrap .u64 m < 18446744073709551616 := by rw [IntKind.wrap_u64]; omega
/-- .. of what may be beyond. -/
theorem and_wr {k : Nat} {m : Int} (h1 : 1 ≤ k) (h2 : k ≤ 64) : IntKind.wrap .u64 (BitVec.ofInt IntKind.u64.bits (IntKind.wrap .u64 m) &&& BitVec.ofInt IntKind.u64.bits (pw k - 1)).toNat = m % pw k := by
  rw [and_pw h1 h2 wrap_nn.1, wrap_mod h1 h2]
theorem md_b {k : Nat} {m : Int} (h1 : 1 ≤ k) (h2 : k ≤ 64) : 0 ≤ m % pw k ∧ m % pw k < pw k := by
  have := pw2 h1 h2
  exact ⟨Int.emod_nonneg _ (by omega), Int.emod_lt_of_pos _ (by omega)⟩
def aheadF (now was bits : Int) : Int × Int := if bits < 1 ∨ bits > 64 then (0, 2) else if now > pw bits.toNat - 1 ∨ was > pw bits.toNat - 1 then (0, 2) else ((now - was) % pw bits.toNat, 0)
theorem same_t {xs ys : List Int} {i : Nat} (h : xs.take i = ys.take i) (hi : xs.length ≤ i) (hn : xs.length = ys.length) : (xs == ys) = true := by
  rw [List.take_of_length_le hi, List.take_of_length_le (by omega)] at h; exact beq_iff_eq.2 h
theorem same_f {xs ys : List Int} {i : Nat} (hi : i < xs.length) (h : xs.getD i 0 ≠ ys.getD i 0) : (xs == ys) = false := beq_eq_false_iff_ne.2 fun e => h (by rw [e])
theorem same_n {xs ys : List Int} (h : (xs.length : Int) ≠ (ys.length : Int)) : (xs == ys) = false := beq_eq_false_iff_ne.2 fun e => h (by rw [e])
theorem same_s {xs ys : List Int} {i : Nat} (h : xs.take i = ys.take i) (e : xs.getD i 0 = ys.getD i 0) (hx : i < xs.length) (hy : i < ys.length) : xs.take (i + 1) = ys.take (i + 1) := by
  rw [List.take_add_one, List.take_add_one, h, List.getElem?_eq_getElem hx, List.getElem?_eq_getElem hy]
  simp only [List.getD, List.getElem?_eq_getElem hx, List.getElem?_eq_getElem hy, Option.getD_some] at e
  rw [e]
theorem Rd.old2 {w0 w : World} {hs : List Blk} {k : IntKind} {p : Option Addr} {xs : List Int} {A T : List Blk} (h : Rd w0 k p xs) (h0 : Has A w0) (hI : Inv w0 (A ++ T) w) (hA : ∀ x ∈ A, w.heap[x.1]? = w0.heap[x.1]?) (hf : ∀ x ∈ T, w0.heap.size ≤ x.1) : Rd w k p xs := by
  intro i hi
  obtain ⟨a, rfl, ha⟩ := h i hi
  refine ⟨a, rfl, ?_⟩
  rw [← ha]
  have hlt : (a.add i).block < w0.heap.size := by
    unfold World.cell? at ha
    rcases Nat.lt_or_ge (a.add i).block w0.heap.size with h | h
    · exact h
    · rw [Array.getElem?_eq_none h] at ha; cases ha
  by_cases hb : ∃ x ∈ A, x.1 = (a.add i).block
  · obtain ⟨x, hx, e⟩ := hb
    exact World.cell?_of_block (by rw [← e]; exact hA x hx)
  · exact World.cell?_of_block (hI.old _ hlt (fun x hx e => by
      rcases List.mem_append.1 hx with h | h
      · exact hb ⟨x, h, e⟩
      · have := hf x h; omega))
/-- What is read stays, as long as the known blocks hold what they held. -/
theorem Rd.kept {w0 w : World} {k : IntKind} {p : Option Addr} {xs : List Int} {A T : List Blk} (h : Rd w0 k p xs) (h0 : Has A w0) (hI : Inv w0 (A ++ T) w) (hf : ∀ x ∈ T, w0.heap.size ≤ x.1) : Rd w k p xs :=
  Rd.old2 (hs := A) h h0 hI (fun x hx => by
    obtain ⟨i, hi, e⟩ := List.mem_iff_getElem.1 hx
    rw [hI.blk x (List.mem_append_left _ hx), h0 i x (by rw [List.getElem?_eq_getElem hi, e])]) hf
def sinceL (xs ws : List Int) (k i : Nat) : List Int := (List.range i).map fun j => (xs.getD j 0 - ws.getD j 0) % pw k
theorem since_len {xs ws : List Int} {k i : Nat} : (sinceL xs ws k i).length = i := by simp [sinceL]
theorem ahead2 {a b c : Int} (h : (aheadF a b c).2 ≠ 0) : (aheadF a b c).2 = 2 := by
  revert h; unfold aheadF; split
  · exact fun _ => rfl
  · split
    · exact fun _ => rfl
    · exact fun h => absurd rfl h
theorem ahead_1 {a b : Int} {k : Nat} (h : (aheadF a b (k : Int)).2 = 0) : (aheadF a b (k : Int)).1 = (a - b) % pw k := by
  revert h; unfold aheadF; rw [Int.toNat_natCast]; split
  · exact fun h => absurd h (by decide)
  · split
    · exact fun h => absurd h (by decide)
    · exact fun _ => rfl
theorem since_app {xs ws : List Int} {k i : Nat} (h : (aheadF (xs.getD i 0) (ws.getD i 0) (k : Int)).2 = 0) : sinceL xs ws k (i + 1) = sinceL xs ws k i ++ [(aheadF (xs.getD i 0) (ws.getD i 0) (k : Int)).1] := by
  rw [ahead_1 h]; simp [sinceL, List.range_succ]
theorem Inv.callST {w0 w w' : World} {A S S' L N T : List Blk} (h : Inv w0 (A ++ S ++ L ++ T) w) (h' : Inv w (S' ++ N) w') (hk : S'.map (·.1) = S.map (·.1)) (hN : ∀ x ∈ N, w.heap.size ≤ x.1) : Inv w0 (A ++ S' ++ L ++ N ++ T) w' := by
  refine (Inv.callS (A := A) (S := S) (S' := S') (L := L ++ T) (N := N) (by simpa [List.append_assoc] using h) h' hk hN).perm ?_
  simp only [List.append_assoc]
  exact ((List.perm_append_comm.append_left L).append_left S').append_left A
theorem pw_lt_all : ∀ k : Fin 64, k.val = 0 ∨ pw k.val ≤ 9223372036854775808 := by decide +kernel
theorem pw_lt {k : Nat} (h1 : 1 ≤ k) (h2 : k < 64) : pw k ≤ 9223372036854775808 := by
  rcases pw_lt_all ⟨k, h2⟩ with h | h
  · simp only at h; omega
  · exact h
theorem ahead_a {k : Nat} {a b : Int} (h1 : 1 ≤ k) (h2 : k ≤ 64) : (b % pw k + (a % pw k - b % pw k) % pw k) % pw k = a % pw k := by
  rw [Int.add_emod_emod, show b % pw k + (a % pw k - b % pw k) = a % pw k by omega, Int.emod_emod_of_dvd _ (Int.dvd_refl _)]
theorem ahead_b {k : Nat} {a b : Int} (h1 : 1 ≤ k) (h2 : k ≤ 64) : ((a % pw k - b % pw k) % pw k + (b % pw k - a % pw k) % pw k) % pw k = 0 := by
  rw [Int.add_emod_emod, Int.emod_add_emod, show a % pw k - b % pw k + (b % pw k - a % pw k) = 0 by omega, Int.zero_emod]
theorem ahead_c {k : Nat} {a b : Int} (h1 : 1 ≤ k) (h2 : k ≤ 64) : (((a % pw k - b % pw k) % pw k == 0) != (a % pw k == b % pw k)) = false := by
  rw [bne_eq_false_iff_eq, Bool.eq_iff_iff, beq_iff_eq, beq_iff_eq]
  have ha := md_b (m := a) h1 h2
  have hb := md_b (m := b) h1 h2
  constructor
  · intro h
    obtain ⟨c, hc⟩ := Int.dvd_of_emod_eq_zero h
    have : c = 0 := by
      rcases Int.lt_trichotomy c 0 with hlt | h0 | hgt
      · have := Int.mul_le_mul_of_nonneg_left (show c ≤ -1 by omega) (show 0 ≤ pw k by omega); omega
      · exact h0
      · have := Int.mul_le_mul_of_nonneg_left (show 1 ≤ c by omega) (show 0 ≤ pw k by omega); omega
    subst this
    omega
  · intro h
    rw [h, Int.sub_self, Int.zero_emod]
end Go.Proofs.Ytohkdjaobdgenaa
