/-
  Plain laws of count: digit by digit.
-/
import Derived.Test.YtohkdjaobdgenaaPlain5
namespace Go.Proofs.Ytohkdjaobdgenaa
set_option linter.unusedVariables false
set_option linter.unusedSimpArgs false
set_option maxRecDepth 100000
open Go.RowKit
theorem pw_s (i : Nat) : pw (i + 1) = 2 * pw i := by unfold pw; rw [Int.pow_succ]; omega
theorem pw_pos (i : Nat) : 0 < pw i := by unfold pw; exact Int.pow_pos (by decide)
theorem pw_nat (i : Nat) : pw i = ((2 ^ i : Nat) : Int) := by unfold pw; push_cast; rfl
theorem pw_le : ∀ k : Fin 65, pw k.val ≤ 18446744073709551616 := by decide +kernel
theorem pw_le' {i : Nat} (h : i ≤ 64) : pw i ≤ 18446744073709551616 := pw_le ⟨i, by omega⟩
theorem dv_s {a : Int} (h : 0 ≤ a) (i : Nat) : (a / pw i).tdiv 2 = a / pw (i + 1) := by
  rw [Int.tdiv_eq_ediv_of_nonneg (Int.ediv_nonneg h (Int.le_of_lt (pw_pos i))), pw_s, Int.mul_comm, Int.ediv_ediv_of_nonneg (Int.le_of_lt (pw_pos i))]
theorem dv_b {a : Int} (h : 0 ≤ a) (h' : a < 18446744073709551616) (i : Nat) : 0 ≤ a / pw i ∧ a / pw i < 18446744073709551616 := by
  have := pw_pos i
  refine ⟨Int.ediv_nonneg h (by omega), Int.lt_of_le_of_lt (Int.ediv_le_self _ h) h'⟩
theorem dv_b' {a : Int} (h : 0 ≤ a) (i : Nat) : 0 ≤ a / pw i := Int.ediv_nonneg h (Int.le_of_lt (pw_pos i))
theorem dv_0 (a : Int) : a / pw 0 = a := by unfold pw; simp
theorem dv_k {a : Int} {k : Nat} (h : 0 ≤ a) : (a / pw k == 0) = !(decide (a > pw k - 1)) := by
  have hp := pw_pos k
  rw [Bool.eq_iff_iff, beq_iff_eq, Bool.not_eq_true', decide_eq_false_iff_not]
  constructor
  · intro e
    have := Int.emod_add_mul_ediv a (pw k)
    rw [e, Int.mul_zero, Int.add_zero] at this
    have := Int.emod_lt_of_pos a hp
    omega
  · intro g
    exact Int.ediv_eq_zero_of_lt h (by omega)
/-- One digit more. -/
theorem md_s {a : Int} (h : 0 ≤ a) (i : Nat) : a % pw (i + 1) = a % pw i + pw i * ((a / pw i).tmod 2) := by
  obtain ⟨n, rfl⟩ := Int.eq_ofNat_of_zero_le h
  have hd : 0 ≤ (n : Int) / pw i := Int.ediv_nonneg (by omega) (Int.le_of_lt (pw_pos i))
  rw [Int.tmod_eq_emod_of_nonneg hd, pw_nat, pw_nat]
  have := Nat.mod_mul (x := n) (a := 2 ^ i) (b := 2)
  rw [← Nat.pow_succ] at this
  exact_mod_cast this
/-- Digit by digit: a sum. -/
structure Su (a b : Int) (i : Nat) (o c : Int) : Prop where
  cc : c = 0 ∨ c = 1
  oo : 0 ≤ o ∧ o < pw i
  ee : o + pw i * c = a % pw i + b % pw i
theorem Su.init {a b : Int} : Su a b 0 0 0 := ⟨.inl rfl, by decide, by simp [pw]⟩
theorem td2 {n : Int} (h : 0 ≤ n) : 0 ≤ n.tmod 2 ∧ n.tmod 2 ≤ 1 ∧ n.tdiv 2 * 2 + n.tmod 2 = n ∧ 0 ≤ n.tdiv 2 := by
  rw [Int.tmod_eq_emod_of_nonneg h, Int.tdiv_eq_ediv_of_nonneg h]; omega
theorem Su.step {a b o c : Int} {i : Nat} (ha : 0 ≤ a) (hb : 0 ≤ b) (h : Su a b i o c) {n : Int} (hn : n = (a / pw i).tmod 2 + (b / pw i).tmod 2 + c) : Su a b (i + 1) (o + n.tmod 2 * pw i) (n.tdiv 2) := by
  have hp := pw_pos i
  have h1 := td2 (dv_b' ha i)
  have h2 := td2 (dv_b' hb i)
  have hc := h.cc
  have hn0 : 0 ≤ n := by omega
  have h3 := td2 hn0
  obtain ⟨o0, o1⟩ := h.oo
  refine ⟨by omega, ⟨?_, ?_⟩, ?_⟩
  · have := Int.mul_nonneg h3.1 (Int.le_of_lt hp); omega
  · rw [pw_s]
    have := Int.mul_le_mul_of_nonneg_right h3.2.1 (Int.le_of_lt hp)
    omega
  · have e := h.ee
    rw [md_s ha, md_s hb, pw_s]
    have e1 : pw i * n = pw i * ((a / pw i).tmod 2) + pw i * ((b / pw i).tmod 2) + pw i * c := by rw [hn, Int.mul_add, Int.mul_add]
    have e2 : pw i * n = pw i * (n.tdiv 2 * 2) + pw i * n.tmod 2 := by rw [← Int.mul_add, h3.2.2.1]
    rw [Int.mul_comm (n.tmod 2)]
    have e3 : 2 * pw i * n.tdiv 2 = pw i * (n.tdiv 2 * 2) := by rw [Int.mul_comm 2, Int.mul_assoc, Int.mul_comm 2]
    rw [e3]
    omega
theorem Su.end_ {a b o c : Int} {k : Nat} (h : Su a b k o c) : o = (a + b) % pw k := by
  have hp := pw_pos k
  have e := h.ee
  rw [← Int.emod_add_emod, ← Int.add_emod_emod, ← e, Int.add_mul_emod_self_left]
  exact (Int.emod_eq_of_lt h.oo.1 h.oo.2).symm
/-- .. a difference. -/
structure Di (a b : Int) (i : Nat) (o c : Int) : Prop where
  cc : c = 0 ∨ c = 1
  oo : 0 ≤ o ∧ o < pw i
  ee : o = a % pw i - b % pw i + pw i * c
theorem Di.init {a b : Int} : Di a b 0 0 0 := ⟨.inl rfl, by decide, by simp [pw]⟩
theorem Di.step {a b o c : Int} {i : Nat} (ha : 0 ≤ a) (hb : 0 ≤ b) (h : Di a b i o c) {n : Int} (hn : n = 2 + (a / pw i).tmod 2 - (b / pw i).tmod 2 - c) : Di a b (i + 1) (o + n.tmod 2 * pw i) (1 - n.tdiv 2) := by
  have hp := pw_pos i
  have h1 := td2 (dv_b' ha i)
  have h2 := td2 (dv_b' hb i)
  have hc := h.cc
  have hn0 : 0 ≤ n := by omega
  have h3 := td2 hn0
  obtain ⟨o0, o1⟩ := h.oo
  refine ⟨by omega, ⟨?_, ?_⟩, ?_⟩
  · have := Int.mul_nonneg h3.1 (Int.le_of_lt hp); omega
  · rw [pw_s]
    have := Int.mul_le_mul_of_nonneg_right h3.2.1 (Int.le_of_lt hp)
    omega
  · have e := h.ee
    rw [md_s ha, md_s hb, pw_s]
    have e1 : pw i * n = pw i * 2 + pw i * ((a / pw i).tmod 2) - pw i * ((b / pw i).tmod 2) - pw i * c := by rw [hn, Int.mul_sub, Int.mul_sub, Int.mul_add]
    have e2 : pw i * n = pw i * (n.tdiv 2 * 2) + pw i * n.tmod 2 := by rw [← Int.mul_add, h3.2.2.1]
    rw [Int.mul_comm (n.tmod 2)]
    have e3 : 2 * pw i * (1 - n.tdiv 2) = pw i * 2 - pw i * (n.tdiv 2 * 2) := by rw [Int.mul_sub, Int.mul_one, Int.mul_comm 2, Int.mul_assoc, Int.mul_comm 2]
    rw [e3]
    omega
theorem Di.end_ {a b o c : Int} {k : Nat} (ha : 0 ≤ a) (hb : 0 ≤ b) (ga : a < pw k) (gb : b < pw k) (h : Di a b k o c) : o = (a - b) % pw k := by
  have e := h.ee
  rw [Int.emod_eq_of_lt ha ga, Int.emod_eq_of_lt hb gb] at e
  rw [show a - b = o - pw k * c by omega, Int.sub_mul_emod_self_left]
  exact (Int.emod_eq_of_lt h.oo.1 h.oo.2).symm
theorem shl_w {i : Nat} {b : Int} (hi : i < 64) (h0 : 0 ≤ b) (h1 : b ≤ 1) : IntKind.wrap .u64 (b * 2 ^ (min ((i : Int)).toNat IntKind.u64.bits)) = b * pw i := by
  have e : min ((i : Int)).toNat IntKind.u64.bits = i := by rw [Int.toNat_natCast]; exact Nat.min_eq_left (by show i ≤ 64; omega)
  rw [e]
  show IntKind.wrap .u64 (b * pw i) = _
  have hp := pw_pos i
  have h2 := pw_le' (i := i) (by omega)
  have h3 : b * pw i ≤ 1 * pw i := Int.mul_le_mul_of_nonneg_right h1 (Int.le_of_lt hp)
  have h4 := Int.mul_nonneg h0 (Int.le_of_lt hp)
  by_cases h5 : pw i = 18446744073709551616
  · exfalso
    have := pw_le' (i := i + 1) (by omega)
    rw [pw_s] at this
    omega
  · exact wrap_u64 h4 (by omega)

end Go.Proofs.Ytohkdjaobdgenaa
