/-
  Plain laws of bands: a round of BandsTurn.
-/
import Derived.Test.YtkfilmdnpocinaaState4
namespace Go.Proofs.Ytkfilmdnpocinaa
set_option linter.unusedVariables false
set_option linter.unusedSimpArgs false
/-- What a round of BandsTurn is told by. -/
structure TuI (h0 h1 h2 : Bool) (w0 w1 w2 : Int) (i : Nat) (s : St) (l0 l1 l2 bf : Int) : Prop where
  le : i ≤ 60
  ok : Ok w0 w1 w2 s
  b : bf = -1 ∨ bf = s.now
  i0 : l0 < (i : Int)
  i1 : l1 < (i : Int)
  i2 : l2 < (i : Int)
  t : TI h0 h1 h2 l0 l1 l2 s
theorem TuI.init {h0 h1 h2 : Bool} {w0 w1 w2 : Int} {s : St} (h : Ok w0 w1 w2 s) : TuI h0 h1 h2 w0 w1 w2 0 s (-1) (-1) (-1) (-1) :=
  ⟨Nat.zero_le _, h, .inl rfl, by decide, by decide, by decide, TI.init⟩
theorem TuI.next {h0 h1 h2 : Bool} {w0 w1 w2 l0 l1 l2 bf a b c d m a' b' c' d' : Int} {i : Nat} {s : St} (hx : TuI h0 h1 h2 w0 w1 w2 i s l0 l1 l2 bf) (hv : WOK w0 w1 w2) (ha : (h0 || h1 || h2) = true) (he : pickS h0 h1 h2 w0 w1 w2 s = ⟨a, b, c, d⟩) (hd : d = 0 ∨ d = 1 ∨ d = 2)
    (m1 : 1 ≤ m) (m2 : m ≤ 65536) (hu : spS m ⟨a, b, c, d⟩ = ⟨a', b', c', d'⟩) (hn : d' = d) (hi : i < 60) : TuI h0 h1 h2 w0 w1 w2 (i + 1) ⟨a', b', c', d'⟩ (upd3 d 0 (i : Int) l0) (upd3 d 1 (i : Int) l1) (upd3 d 2 (i : Int) l2) d := by
  have ho : Ok w0 w1 w2 ⟨a', b', c', d'⟩ := by rw [← hu]; exact spS_ok (by rw [← he]; exact pickS_ok hv hx.ok)
  have hT := TI.next (i := (i : Int)) (m := m) hv hx.ok ha he hx.t hx.i0 hx.i1 hx.i2 m1 m2
  rw [hu] at hT
  have up : ∀ k l : Int, l < (i : Int) → upd3 d k (i : Int) l < ((i + 1 : Nat) : Int) := fun k l h => by unfold upd3; split <;> omega
  exact ⟨hi, ho, .inr hn.symm, up _ _ hx.i0, up _ _ hx.i1, up _ _ hx.i2, hT⟩
theorem TuI.check {h0 h1 h2 : Bool} {w0 w1 w2 l0 l1 l2 bf a b c d : Int} {i : Nat} {s : St} (hx : TuI h0 h1 h2 w0 w1 w2 i s l0 l1 l2 bf) (hv : WOK w0 w1 w2) (ha : (h0 || h1 || h2) = true) (he : pickS h0 h1 h2 w0 w1 w2 s = ⟨a, b, c, d⟩) {x : Int} (h3 : T3 x)
    (hb : bf ≥ 0) (hne : d ≠ bf) (hl : sel3 d l0 l1 l2 ≥ 0) (hh : hasN h0 h1 h2 x = true) (hxd : x ≠ d) (hlt : sel3 x l0 l1 l2 < sel3 d l0 l1 l2) : sel3 x a b c ≤ 0 :=
  turn_check hv hx.ok ha he hx.t h3 (by rcases hx.b with h | h; omega; rw [← h]; exact fun e => hne e.symm) hl hh hxd hlt
end Go.Proofs.Ytkfilmdnpocinaa
