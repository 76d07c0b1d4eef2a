/-
  What the listed variable gives a walk: its block.
-/
import Derived.Test.YtakkookpjhaekaaDoorRows
import Derived.Test.YtakkookpjhaekaaDoorFns
import Derived.ProofKit
import Derived.LaidMore
import Derived.OpenShut
import Derived.Stop.Joined
import Derived.MakeChecks
import Derived.FnData
namespace Go.Proofs.YtakkookpjhaekaaDoor
set_option linter.unusedVariables false
set_option linter.unusedSimpArgs false
set_option maxRecDepth 100000
open Go.RowKit Go.ChangeShapes Go.WideShapes Go.ChangeAt Go.WideElems

def lv : List (String × DataW Unit) := [("sandglass/prio.usual", Rows.laid_sandglass_prio_usual)]
theorem gU : Tryd.prog.globalNamed "sandglass/prio.usual" = some 0 := by kernel_rfl
theorem tU : (Tryd.prog.globals[0]?).map (·.type) = some 22 := by kernel_rfl
theorem c5 : Tryd.prog.cellsOf 5 = 1 := by kernel_rfl
theorem c22 : Tryd.prog.cellsOf 22 = 16 := by kernel_rfl
theorem door_met (os : Os) (args : Array Value) : laidMetH Tryd.prog lv ((World.doorLaid Tryd.prog 400 os).forCall (fun _ _ => 0) ⟨#[], args, []⟩).memory :=
  laidMetH_of_parts3 (fuel := 8) (laidMet_of_run' 8 (by kernel_rfl) (by kernel_rfl)) (by kernel_rfl) (by kernel_rfl)
theorem laid_is : (Rows.laid_sandglass_prio_usual : DataW Unit) = .agg (usualL.map fun k => .lit (.int .u8 k)) := rfl
theorem of_laid {W : World} (h : laidMetH Tryd.prog lv W) : ∃ tt, Has [(0, arr .u8 usualL, tt)] W := by
  rw [MakeChecks.laidMetH_plain _ _ _ (by kernel_rfl)] at h
  obtain ⟨ps, ⟨g, t, cs, f, p, q, hg, ht, hv, hd, hq, rfl⟩, hn, hc⟩ := h
  obtain rfl := Option.some.inj (gU.symm.trans hg)
  obtain rfl := Option.some.inj (tU.symm.trans ht)
  obtain ⟨xs, m1, rfl, hx, hlen, hn3, hel⟩ := DataW.trod_array Tryd.underlying22 hd
  rw [laid_is] at hx
  simp only [Prod.mk.injEq, DataW.agg.injEq] at hx
  have hcs : cs = arr .u8 usualL := by
    apply Array.ext_getElem?
    intro i
    by_cases hi : i < 16
    · have h1 := hel i hi
      have hix : i < xs.length := by omega
      rw [List.getElem?_eq_getElem hix] at h1
      have h2 : (xs.map (·.1))[i]? = (usualL.map fun k => (DataW.lit (.int .u8 k) : DataW Unit))[i]? := by rw [← hx.1]
      obtain ⟨k, e1, e2, _⟩ := DataW.trod_int Tryd.underlying5 h1
      rw [List.getElem?_map, List.getElem?_map, List.getElem?_eq_getElem hix, List.getElem?_eq_getElem (show i < usualL.length from hi), Option.map_some, Option.map_some, e2] at h2
      have hk : k = usualL[i]'(show i < usualL.length from hi) := by simpa using h2
      rw [c5, Nat.mul_one] at e1
      have e3 : cs.toList[i]? = some (.int .u8 k) := by
        have := congrArg (fun l : List Value => l[0]?) e1
        simpa [List.getElem?_take, List.getElem?_drop] using this
      rw [arr_get (show i < usualL.length from hi), ← Array.getElem?_toList, e3, hk]
      simp [List.getD, List.getElem?_eq_getElem (show i < usualL.length from hi)]
    · rw [Array.getElem?_eq_none (by rw [c22] at hlen; simp at hlen; omega), Array.getElem?_eq_none (by rw [arr_size (n := 16) rfl]; omega)]
  subst hcs
  obtain ⟨⟨c, t, hb⟩, _⟩ := hc 0 0 (by
    refine List.mem_append_left _ (List.mem_append_left _ ?_)
    rw [arr_size (n := 16) rfl]
    simp [MemPlace.row])
  refine ⟨t, fun i x hi => ?_⟩
  have hc' : c = arr .u8 usualL := by
    simp only [World.var?, gU, Option.bind_some, hb] at hv
    simpa using hv
  subst hc'
  cases i with
  | zero => simp only [List.getElem?_cons_zero, Option.some.injEq] at hi; subst hi; exact hb
  | succ i => simp at hi

end Go.Proofs.YtakkookpjhaekaaDoor
