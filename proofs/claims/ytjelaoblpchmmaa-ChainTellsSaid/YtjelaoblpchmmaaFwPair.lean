/-
  The calculus of walks: rows of pairs of numbers: how they are read, what is appended to them, how they stay readable from call to call; stores into slices of the call's own.
-/
import Derived.Test.YtjelaoblpchmmaaFwApp
namespace Go.Proofs.Ytjelaoblpchmmaa
set_option linter.unusedVariables false
set_option linter.unusedSimpArgs false
open Go.RowKit

def prs (F : List (Int × Int)) : List (List Value) := F.map fun x => [.int .i64 x.1, .int .i64 x.2]
def fl (F : List (Int × Int)) : List Value := F.flatMap fun x => [.int .i64 x.1, .int .i64 x.2]
theorem fl_len : ∀ (F : List (Int × Int)), (fl F).length = F.length * 2
  | [] => rfl
  | x :: F => by
    have := fl_len F
    unfold fl at this ⊢
    rw [List.flatMap_cons, List.length_append, this]
    simp only [List.length_cons, List.length_nil]
    omega
theorem fl_app (F G : List (Int × Int)) : fl (F ++ G) = fl F ++ fl G := List.flatMap_append
theorem prs_get {F : List (Int × Int)} {j : Nat} (h : j < F.length) : (prs F)[j]? = some [.int .i64 (F.getD j (0, 0)).1, .int .i64 (F.getD j (0, 0)).2] := by
  simp [prs, List.getElem?_eq_getElem h, List.getD]
theorem fl_get : ∀ {F : List (Int × Int)} {i : Nat}, i < F.length → (fl F)[i * 2]? = some (.int .i64 (F.getD i (0, 0)).1) ∧ (fl F)[i * 2 + 1]? = some (.int .i64 (F.getD i (0, 0)).2)
  | [], _, h => absurd h (Nat.not_lt_zero _)
  | x :: F, 0, _ => ⟨rfl, rfl⟩
  | x :: F, i + 1, h => by
    have := fl_get (F := F) (i := i) (by simpa using h)
    have e : fl (x :: F) = .int .i64 x.1 :: .int .i64 x.2 :: fl F := rfl
    rw [e, show (i + 1) * 2 = i * 2 + 1 + 1 by omega]
    exact this
theorem rows_rv {w : World} {p : Option Addr} {F : List (Int × Int)} (h : Rows_ w p 2 (prs F)) : Rv w p (fl F) := fun i v hv => by
  have hi : i < F.length * 2 := by have := (List.getElem?_eq_some_iff.1 hv).1; rwa [fl_len] at this
  have hj : i / 2 < F.length := by omega
  obtain ⟨a, ha, hc⟩ := h _ _ (prs_get hj)
  have hg := fl_get hj
  refine ⟨a, ha, ?_⟩
  rcases Nat.mod_two_eq_zero_or_one i with e | e
  · have e2 : i = i / 2 * 2 := by omega
    have := hc 0 _ rfl
    rw [Nat.add_zero, ← e2] at this
    rw [this]; rw [e2, hg.1] at hv; exact hv
  · have e2 : i = i / 2 * 2 + 1 := by omega
    have := hc 1 _ rfl
    rw [← e2] at this
    rw [this]; rw [e2, hg.2] at hv; exact hv
theorem rv_rows {w : World} {p : Option Addr} {F : List (Int × Int)} (h : Rv w p (fl F)) : Rows_ w p 2 (prs F) := fun i row hr => by
  have hi : i < F.length := by have := (List.getElem?_eq_some_iff.1 hr).1; simpa [prs] using this
  have e := prs_get hi
  rw [hr] at e
  have e' := Option.some.inj e
  subst e'
  have hg := fl_get hi
  obtain ⟨a, ha, h0⟩ := h _ _ hg.1
  obtain ⟨a', ha', h1⟩ := h _ _ hg.2
  obtain rfl : a = a' := Option.some.inj (ha.symm.trans ha')
  refine ⟨a, ha, fun j v hv => ?_⟩
  match j, hv with
  | 0, hv => cases hv; exact h0
  | 1, hv => cases hv; exact h1
  | j + 2, hv => cases hv
theorem Rv.old {w0 w : World} {hs : List Blk} {p : Option Addr} {vs : List Value} (h : Rv w0 p vs) (ho : ∀ j, j < w0.heap.size → w.heap[j]? = w0.heap[j]?) : Rv w p vs := fun i v hv => by
  obtain ⟨a, ha, hc⟩ := h i v hv
  refine ⟨a, ha, ?_⟩
  rw [← hc]
  have hlt : (a.add i).block < w0.heap.size := by
    unfold World.cell? at hc
    rcases Nat.lt_or_ge (a.add i).block w0.heap.size with h | h
    · exact h
    · rw [Array.getElem?_eq_none h] at hc; cases hc
  exact World.cell?_of_block (ho _ hlt)
theorem Inv.olds {w0 w : World} {hs : List Blk} (hI : Inv w0 hs w) (hf : ∀ x ∈ hs, w0.heap.size ≤ x.1) : ∀ j, j < w0.heap.size → w.heap[j]? = w0.heap[j]? := fun j hj => hI.old j hj (fun x hx e => by have := hf x hx; omega)
/-- A slice of pairs of the call's own. -/
def Sp (e : TypeId) (S : List Blk) (p : Option Addr) (cap : Nat) (F : List (Int × Int)) : Prop := Sc e 2 S p cap F.length (fl F)
theorem Sp.lit0 {e : TypeId} {b : Nat} : Sp e [(b, #[], e)] (some ⟨b, 0, none⟩) 0 [] := Sc.lit0
theorem Sp.lit1 {e : TypeId} {b : Nat} {x y : Int} : Sp e [(b, #[.int .i64 x, .int .i64 y], e)] (some ⟨b, 0, none⟩) 1 [(x, y)] := ⟨rfl, .inr ⟨b, _, rfl, rfl, Nat.le_refl _, by simp only [maxLen]; omega, rfl, rfl⟩⟩
theorem Sp.rv {e : TypeId} {S : List Blk} {p : Option Addr} {cap : Nat} {F : List (Int × Int)} (h : Sp e S p cap F) {w : World} (hS : ∀ x ∈ S, w.heap[x.1]? = some (.cells x.2.1 x.2.2 (0, 0))) : Rv w p (fl F) := fun i v hv => by
  rcases h.2 with ⟨_, _, _, h0⟩ | ⟨b, cs, rfl, rfl, h1, h2, h3, h4⟩
  · have := (List.getElem?_eq_some_iff.1 hv).1
    rw [h.1, h0] at this; omega
  · refine ⟨_, rfl, ?_⟩
    have hb := hS _ (List.mem_singleton.2 rfl)
    have hi := (List.getElem?_eq_some_iff.1 hv).1
    rw [h.1] at hi
    rw [add_none, cell_of_row w b _ cs e _ hb, Nat.zero_add, ← hv, ← h4, List.getElem?_take_of_lt hi]
    simp
theorem Sp.le {e : TypeId} {S : List Blk} {p : Option Addr} {cap : Nat} {F : List (Int × Int)} (h : Sp e S p cap F) : F.length ≤ cap := by
  rcases h.2 with ⟨_, _, _, h0⟩ | ⟨b, cs, _, _, h1, _⟩
  · omega
  · exact h1
/-- Pairs that can be read as long as what was there at first, and the blocks SS, stay as they are. -/
def View (w0 : World) (SS : List Blk) (p : Option Addr) (cap : Nat) (F : List (Int × Int)) : Prop := F.length ≤ cap ∧ ∀ w : World, (∀ j, j < w0.heap.size → w.heap[j]? = w0.heap[j]?) → (∀ x ∈ SS, w.heap[x.1]? = some (.cells x.2.1 x.2.2 (0, 0))) → Rv w p (fl F)
theorem View.start {w0 : World} {SS : List Blk} {p : Option Addr} {cap : Nat} {F : List (Int × Int)} (hl : F.length ≤ cap) (h : Rows_ w0 p 2 (prs F)) : View w0 SS p cap F := ⟨hl, fun w ho _ => (rows_rv h).old (hs := []) ho⟩
theorem View.mono {w0 : World} {SS S2 : List Blk} {p : Option Addr} {cap : Nat} {F : List (Int × Int)} (h : View w0 SS p cap F) (hm : ∀ x ∈ SS, x ∈ S2) : View w0 S2 p cap F := ⟨h.1, fun w ho hS => h.2 w ho (fun x hx => hS x (hm x hx))⟩
theorem View.sp {w0 : World} {e : TypeId} {S : List Blk} {p : Option Addr} {cap : Nat} {F : List (Int × Int)} (h : Sp e S p cap F) : View w0 S p cap F := ⟨h.le, fun w _ hS => h.rv hS⟩
theorem View.nil {w0 : World} {SS : List Blk} : View w0 SS none 0 [] := ⟨Nat.le_refl _, fun w _ _ i v h => by cases h⟩
theorem View.low {w0 : World} {SS : List Blk} {p : Option Addr} {cap : Nat} {F : List (Int × Int)} (h : View w0 SS p cap F) : View w0 SS (loP p cap 1 2) (cap - 1) F.tail := ⟨by have := h.1; rw [List.length_tail]; omega, fun w ho hS => by
  have h2 := (h.2 w ho hS).low (cap := cap) (j := 1) (sz := 2) (by have := h.1; rw [fl_len]; omega)
  have e : fl F.tail = (fl F).drop (1 * 2) := by cases F <;> rfl
  rw [e]; exact h2⟩
theorem View.rows {w0 : World} {SS : List Blk} {p : Option Addr} {cap : Nat} {F : List (Int × Int)} (h : View w0 SS p cap F) {w : World} {hs : List Blk} (hI : Inv w0 hs w) (hf : ∀ x ∈ hs, w0.heap.size ≤ x.1) (hm : ∀ x ∈ SS, x ∈ hs) : Rows_ w p 2 (prs F) := rv_rows (h.2 w (hI.olds hf) (fun x hx => hI.blk x (hm x hx)))
/-- What can be read as long as two other rows can. -/
def Tr (a b : Option Addr × Nat × List (Int × Int)) (SS : List Blk) (q : Option Addr) (c : Nat) (G : List (Int × Int)) : Prop := ∀ (w0 : World) (SB : List Blk), View w0 SB a.1 a.2.1 a.2.2 → View w0 SB b.1 b.2.1 b.2.2 → View w0 (SB ++ SS) q c G
section
variable {a b : Option Addr × Nat × List (Int × Int)} {SS S2 : List Blk} {q : Option Addr} {c : Nat} {G : List (Int × Int)}
theorem Tr.fst : Tr a b SS a.1 a.2.1 a.2.2 := fun _ _ h _ => h.mono (fun _ hx => List.mem_append_left _ hx)
theorem Tr.snd : Tr a b SS b.1 b.2.1 b.2.2 := fun _ _ _ h => h.mono (fun _ hx => List.mem_append_left _ hx)
theorem Tr.mono (h : Tr a b SS q c G) (hm : ∀ x ∈ SS, x ∈ S2) : Tr a b S2 q c G := fun w0 SB h1 h2 => (h w0 SB h1 h2).mono (fun x hx => (List.mem_append.1 hx).elim (List.mem_append_left _) (fun hx => List.mem_append_right _ (hm x hx)))
theorem Tr.sp {e : TypeId} (h : Sp e SS q c G) : Tr a b SS q c G := fun w0 SB _ _ => (View.sp h).mono (fun _ hx => List.mem_append_right _ hx)
theorem Tr.low (h : Tr a b SS q c G) : Tr a b SS (loP q c 1 2) (c - 1) G.tail := fun w0 SB h1 h2 => (h w0 SB h1 h2).low
theorem Tr.view {w0 : World} (h : Tr a b SS q c G) (h1 : View w0 [] a.1 a.2.1 a.2.2) (h2 : View w0 [] b.1 b.2.1 b.2.2) : View w0 SS q c G := h w0 [] h1 h2
theorem Tr.comp0 {p0 p1 : Option Addr} {c0 c1 : Nat} {F O : List (Int × Int)} (h0 : Tr a b SS p0 c0 F) (h1 : Tr a b SS p1 c1 O) (h : Tr (p0, c0, F) (p1, c1, O) [] q c G) : Tr a b SS q c G := fun w0 SB g0 g1 => by
  have := h w0 (SB ++ SS) (h0 w0 SB g0 g1) (h1 w0 SB g0 g1)
  rw [List.append_nil] at this; exact this
theorem Tr.comp {p0 p1 : Option Addr} {c0 c1 : Nat} {F O : List (Int × Int)} (h0 : Tr a b SS p0 c0 F) (h1 : Tr a b SS p1 c1 O) (h : Tr (p0, c0, F) (p1, c1, O) S2 q c G) : Tr a b (SS ++ S2) q c G := fun w0 SB g0 g1 => by
  have := h w0 (SB ++ SS) (h0 w0 SB g0 g1) (h1 w0 SB g0 g1)
  rw [List.append_assoc] at this; exact this
end
section
variable {P : Program} {ops : Array Oper} {Q : Exit → Act → World → Prop} {K : Act → World → Prop} {e : Env} {n i d : Nat} {a : Act} {w w' w0 : World} {o : Oper} {v u : Value} {hs : List Blk}
  {dst : Option Tmp} {ty : TypeId} {pos : String} {af : Array Edge} {gu : Option (Nat × Bool)} {x y z : Operand} {t s tt : TypeId} {k : IntKind} {m zc : Int}
theorem fl_one {F : List (Int × Int)} : ∀ u ∈ fl F, u.oneCell' = true := fun u hu => by
  unfold fl at hu
  obtain ⟨x, _, hx⟩ := List.mem_flatMap.1 hu
  simp only [List.mem_cons, List.mem_nil_iff, or_false] at hx
  rcases hx with rfl | rfl <;> rfl
theorem op_appendP {et : TypeId} {bytes c : Nat} {zv : Value} {S A : List Blk} {p q : Option Addr} {cap l m : Nat} {F G : List (Int × Int)} (hl : F.length = l) (hm' : G.length = m)
    (hf : Fits e n a) (hi : ops[i]? = some ⟨some d, .call ⟨.builtin .append, #[x, y], #[t, t]⟩, ty, pos, af, gu⟩) (hg : gd ops e gu = some true) (hn : Nat.blt d n = true)
    (hA : P.underlying t = some (.slice et)) (hE : (P.info? et).map (fun i => (i.zero, i.size, i.bytes)) = some (some zv, 2, bytes)) (hz : zv.cells.size = 2)
    (hx : ev e x = some (.slice p l cap)) (hS : Sp et S p cap F) (hy : ev e y = some (.slice q m c)) (hu : Rv w q (fl G))
    (hI : Inv w0 (A ++ S) w) (hF : ∀ x ∈ S, w0.heap.size ≤ x.1) (hm : l + m ≤ maxLen) (hb : (l + m) * bytes ≤ 140737488355328)
    (kk : ∀ a p' cap' S' w', Sp et S' p' cap' (F ++ G) → (∀ x ∈ S', w0.heap.size ≤ x.1) → Inv w0 (A ++ S') w' → Fits ((d, .slice p' (F ++ G).length cap') :: e) n a → K a w') : wpOp P ops Q i K a w := by
  subst hl; subst hm'
  refine op_appendC (sz := 2) hf hi hg hn hA hE hz (by decide) hx hS hy hu (fl_len G) fl_one hI hF hm hb (fun a p' cap' S' w' h1 h2 h3 h4 => kk a p' cap' S' w' ?_ h2 h3 ?_)
  · rw [← fl_app, ← List.length_append] at h1; exact h1
  · rw [List.length_append]; exact h4
theorem Rv.blk2 {w : World} {b : Nat} {t : TypeId} {fr : Nat × Nat} {x y : Int} (hb : w.heap[b]? = some (.cells #[.int .i64 x, .int .i64 y] t fr)) : Rv w (some ⟨b, 0, none⟩) (fl [(x, y)]) := fun i v hv => by
  refine ⟨_, rfl, ?_⟩
  rw [add_none, cell_of_row w b _ _ t fr hb, Nat.zero_add]
  match i, hv with
  | 0, hv => exact hv
  | 1, hv => exact hv
  | i + 2, hv => cases hv
/-- A store into a slice of the call's own. -/
theorem op_storeSl {et : TypeId} {S A : List Blk} {p : Option Addr} {cap j : Nat} {xs : List Int} {v : Int}
    (hf : Fits e n a) (hi : ops[i]? = some ⟨none, .store t x y, ty, pos, af, gu⟩) (hg : gd ops e gu = some true) (hx : ev e x = some (.pointer (slAt p j))) (hy : ev e y = some (.int k v)) (hz : sizeB P t = some 1)
    (hS : Sl et k S p cap xs) (hj : j < xs.length) (hI : Inv w0 (A ++ S) w) (hF : ∀ x ∈ S, w0.heap.size ≤ x.1)
    (kk : ∀ w' S', Sl et k S' p cap (xs.set j v) → (∀ x ∈ S', w0.heap.size ≤ x.1) → Inv w0 (A ++ S') w' → K a w') : wpOp P ops Q i K a w := by
  rcases hS with ⟨_, _, _, rfl⟩ | ⟨b, cs, rfl, rfl, h1, h2, h3, h4⟩
  · simp at hj
  · have hgt : (A ++ [(b, cs, et)])[A.length]? = some (b, cs, et) := by simp
    have hx' : ev e x = some (.pointer (some ⟨b, j, none⟩)) := by
      rw [hx]; show some (Value.pointer (some ((⟨b, 0, none⟩ : Addr).add j))) = _
      rw [add_none, Nat.zero_add]
    refine op_store A.length hf hi hg hx' hy rfl hz hI hgt (by omega) rfl (fun w' hI' => ?_)
    have e1 : (A ++ [(b, cs, et)]).set A.length (b, cs.setIfInBounds j (.int k v), et) = A ++ [(b, cs.setIfInBounds j (.int k v), et)] := by
      rw [List.set_append_right _ _ (Nat.le_refl _), Nat.sub_self]; rfl
    rw [e1] at hI'
    refine kk w' _ (.inr ⟨b, _, rfl, rfl, by rw [List.length_set]; exact h1, h2, by simpa using h3, ?_⟩) (fun x hx => by
      simp only [List.mem_singleton] at hx; subst hx; exact hF (b, cs, et) (List.mem_singleton.2 rfl)) hI'
    have h5 : (cs.setIfInBounds j (.int k v)).toList = cs.toList.set j (.int k v) := by simp
    rw [h5, List.length_set, List.take_set, h4, List.map_set]
theorem Inv.swapT {A X Y Z : List Blk} (h : Inv w0 (A ++ ((X ++ Y) ++ Z)) w) : Inv w0 (A ++ ((X ++ Z) ++ Y)) w := h.perm (by
  refine List.Perm.append_left A ?_
  rw [List.append_assoc, List.append_assoc]
  exact List.Perm.append_left X List.perm_append_comm)
theorem postCC1 {R : Ending → World → Prop} {fn : Func} {p p2 b b2 sz sz2 t1 : Nat} {t2 tt2 : TypeId} {v1 : Value} {cs cs2 : Array Value} {fr fr2 : Nat × Nat} (hr : fn.results = #[.cell p t, .cell p2 t2, .tmp t1]) (hf : Fits e n a)
    (h : e.get p = some (.pointer (some ⟨b, 0, none⟩))) (ha : aggB P t = some true) (hz : sizeB P t = some sz) (hb : w.heap[b]? = some (.cells cs tt fr)) (hl : cs.size = sz)
    (h2 : e.get p2 = some (.pointer (some ⟨b2, 0, none⟩))) (ha2 : aggB P t2 = some true) (hz2 : sizeB P t2 = some sz2) (hb2 : w.heap[b2]? = some (.cells cs2 tt2 fr2)) (hl2 : cs2.size = sz2)
    (h1 : e.get t1 = some v1) (hR : R (.returned (.tuple #[.agg cs, .agg cs2, v1])) w) : bodyPost P fn R .ret a w :=
  ⟨hf.defers, _, by simp [results, hr, tmps_get hf h, tmps_get hf h2, tmps_get hf h1, asAddr, run_loadW ha hz hb hl, run_loadW ha2 hz2 hb2 hl2], hR⟩
end
end Go.Proofs.Ytjelaoblpchmmaa
