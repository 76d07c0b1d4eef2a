/-
  The reference of rounds, fifth part: Head and New.
-/
import Derived.Test.YtjelaoblpchmmaaRef17d
namespace Go.Proofs.Ytjelaoblpchmmaa
set_option linter.unusedVariables false
set_option linter.unusedSimpArgs false
set_option maxRecDepth 100000
open Go.RowKit
set_option maxHeartbeats 8000000 in
theorem rhead_walk {N : Nat} {r : Ro N} {q : Int} (hrq : r.q = q)  {p0 p1 : Option Addr} {c0 c1 : Nat} (hl0 : (r.pl 0).length ≤ c0) (hl1 : (r.pl 1).length ≤ c1) {w : World} (hr0 : Rows_ w p0 2 (prs (r.pl 0))) (hr1 : Rows_ w p1 2 (prs (r.pl 1))) : Calls Try.prog 45 [.agg #[.int .i64 (N : Int), .int .i64 q, .slice p0 ((r.pl 0).length) c0, .slice p1 ((r.pl 1).length) c1]].toArray w fun e w' => ∃ S q0 d0 q1 d1, e = .returned (.tuple #[.agg #[.int .i64 (N : Int), .int .i64 q, .slice q0 (r.head.pl 0).length d0, .slice q1 (r.head.pl 1).length d1], .int .i64 r.head.f, .int .i64 r.headC, .bool r.head.ok]) ∧ Inv w S w' ∧ (∀ x ∈ S, w.heap.size ≤ x.1) ∧ Tr (p0, c0, r.pl 0) (p1, c1, r.pl 1) S q0 d0 (r.head.pl 0) ∧ Tr (p0, c0, r.pl 0) (p1, c1, r.pl 1) S q1 d1 (r.head.pl 1) := by
  have hI1 := Inv.start w
  refine enter (n := 39) Try.func45 rfl rfl rfl ?_
  intro ac1 hf1
  refine code_seq ?_
  refine seq_start (l := [0, 1, 2, 3, 4]) rfl ?_
  refine seq_one (op_box hf1 rfl rfl rfl rfl hI1 fun ac2 b1 wd1 hb1 hI2 hf2 => ?_)
  have hI3 : Inv w [(b1, #[.int .i64 (N : Int), .int .i64 q, .slice p0 ((r.pl 0).length) c0, .slice p1 ((r.pl 1).length) c1], 85)] wd1 := hI2
  refine seq_one (op_alloc hf2 rfl rfl rfl ze_85 hI3 fun ac3 b2 wd2 hb2 hI4 hf3 => ?_)
  have hI5 : Inv w [(b1, #[.int .i64 (N : Int), .int .i64 q, .slice p0 ((r.pl 0).length) c0, .slice p1 ((r.pl 1).length) c1], 85), (b2, #[.int .i64 0, .int .i64 0, .slice none 0 0, .slice none 0 0], 85)] wd2 := hI4
  refine seq_one (op_val (v := .int .i64 0) hf3 rfl rfl rfl rfl rfl rfl (r_assign rfl) fun ac4 hf4 => ?_)
  refine seq_one (op_val (v := .int .i64 0) hf4 rfl rfl rfl rfl rfl rfl (r_assign rfl) fun ac5 hf5 => ?_)
  refine seq_one (op_val (v := .bool false) hf5 rfl rfl rfl rfl rfl rfl (r_assign rfl) fun ac6 hf6 => ?_)
  refine seq_end ?_
  clear ac1 hI1 hf1 hI2 ac2 wd1 hI3 hf2 hI4 ac3 hf3 ac4 hf4 ac5 hf5
  refine then_normal ?_
  refine code_seq ?_
  refine code_seq ?_
  refine seq_start (l := [0, 1]) rfl ?_
  refine seq_one (op_val (v := .agg #[.int .i64 (N : Int), .int .i64 q, .slice p0 ((r.pl 0).length) c0, .slice p1 ((r.pl 1).length) c1]) hf6 rfl rfl rfl rfl rfl rfl (r_loadW ag_85 sz_85 rfl (hI5.at 0 rfl) rfl) fun ac7 hf7 => ?_)
  refine seq_one (op_pure hf7 rfl rfl rfl rfl ca_62 (empty_pur (F := (r.pl 0)) (O := (r.pl 1)) (Ro.pl_le r 0) (Ro.pl_le r 1)) hI5 fun ac8 wd3 hI6 hf8 => ?_)
  refine seq_end ?_
  clear ac6 hf6 ac7 wd2 hI5 hf7
  refine then_normal ?_
  refine code_if hf8 rfl (fun c10_1 => ?_) (fun c10_1 => ?_)
  · have hf9 := hf8.know 10 (u := .bool true) rfl (congrArg Value.bool c10_1)
    refine code_seq ?_
    refine seq_start (l := [0, 1, 2, 3, 4]) rfl ?_
    refine seq_one (op_val (v := .agg #[.int .i64 (N : Int), .int .i64 q, .slice p0 ((r.pl 0).length) c0, .slice p1 ((r.pl 1).length) c1]) hf9 rfl rfl rfl rfl rfl rfl (r_loadW ag_85 sz_85 rfl (hI6.at 0 rfl) rfl) fun ac9 hf10 => ?_)
    refine seq_one (op_storeW (cells := #[.int .i64 (N : Int), .int .i64 q, .slice p0 ((r.pl 0).length) c0, .slice p1 ((r.pl 1).length) c1]) 1 hf10 rfl rfl rfl rfl rfl sz_85 rfl rfl hI6 rfl rfl fun wd4 hI7 => ?_)
    have hI8 : Inv w [(b1, #[.int .i64 (N : Int), .int .i64 q, .slice p0 ((r.pl 0).length) c0, .slice p1 ((r.pl 1).length) c1], 85), (b2, #[.int .i64 (N : Int), .int .i64 q, .slice p0 ((r.pl 0).length) c0, .slice p1 ((r.pl 1).length) c1], 85)] wd4 := hI7
    refine seq_one (op_val (v := .int .i64 0) hf10 rfl rfl rfl rfl rfl rfl (r_assign rfl) fun ac10 hf11 => ?_)
    refine seq_one (op_val (v := .int .i64 0) hf11 rfl rfl rfl rfl rfl rfl (r_assign rfl) fun ac11 hf12 => ?_)
    refine seq_one (op_val (v := .bool false) hf12 rfl rfl rfl rfl rfl rfl (r_assign rfl) fun ac12 hf13 => ?_)
    refine seq_end ?_
    clear hf8 ac8 hf9 wd3 hI6 hI7 ac9 hf10 ac10 hf11 ac11 hf12
    refine then_normal ?_
    refine wp_ret ?_
    refine then_ret ?_
    obtain ⟨e0, e1, e2, e3, e4⟩ := Ro.head_pl0 (r := r) c10_1
    exact postC3 rfl hf13 rfl ag_85 sz_85 (hI8.at 1 rfl) rfl rfl rfl rfl ⟨[], p0, c0, p1, c1, (by rw [e0, e1, e2, e3, e4]), (hI8.done (fresh_keys (ks := [b1, b2]) rfl (fk_cons hb1 (fk_cons hb2 fk_nil)))), (fun _ h => by cases h), by rw [e0]; exact (Tr.fst (a := (p0, c0, (r.pl 0))) (b := (p1, c1, (r.pl 1))) (SS := [])), by rw [e1]; exact (Tr.snd (a := (p0, c0, (r.pl 0))) (b := (p1, c1, (r.pl 1))) (SS := []))⟩
  · have hf14 := hf8.know 10 (u := .bool false) rfl (congrArg Value.bool c10_1)
    refine wp_skip ?_
    refine then_normal ?_
    refine wp_block ?_
    have hI9 : Inv w ([(b1, #[.int .i64 (N : Int), .int .i64 q, .slice p0 ((r.pl 0).length) c0, .slice p1 ((r.pl 1).length) c1], 85), (b2, #[.int .i64 0, .int .i64 0, .slice none 0 0, .slice none 0 0], 85)] ++ []) _ := hI6.more
    refine code_loop (α := (Ro N) × (Option Addr) × Nat × (Option Addr) × Nat × (List Blk)) (fun (x : (Ro N) × (Option Addr) × Nat × (Option Addr) × Nat × (List Blk)) => match x with | (s, g0, gc0, g1, gc1, SS) => [(0, .agg #[.int .i64 (N : Int), .int .i64 q, .slice p0 ((r.pl 0).length) c0, .slice p1 ((r.pl 1).length) c1]), (1, .pointer (some ⟨b1, 0, none⟩)), (2, .pointer (some ⟨b2, 0, none⟩)), (9, .agg #[.int .i64 (N : Int), .int .i64 q, .slice p0 ((r.pl 0).length) c0, .slice p1 ((r.pl 1).length) c1]), (10, .bool false)]) (fun (x : (Ro N) × (Option Addr) × Nat × (Option Addr) × Nat × (List Blk)) => match x with | (s, g0, gc0, g1, gc1, SS) => fun wL => Inv w ([(b1, #[.int .i64 (N : Int), .int .i64 q, .slice g0 ((s.pl 0).length) gc0, .slice g1 ((s.pl 1).length) gc1], 85), (b2, #[.int .i64 0, .int .i64 0, .slice none 0 0, .slice none 0 0], 85)] ++ SS) wL ∧ (s.head = r.head ∧ s.q = q ∧ emB (s.pl 0) (s.pl 1) = false ∧ Tr (p0, c0, r.pl 0) (p1, c1, r.pl 1) SS g0 gc0 (s.pl 0) ∧ Tr (p0, c0, r.pl 0) (p1, c1, r.pl 1) SS g1 gc1 (s.pl 1) ∧ ∀ x ∈ SS, w.heap.size ≤ x.1)) (fun (x : (Ro N) × (Option Addr) × Nat × (Option Addr) × Nat × (List Blk)) => match x with | (s, g0, gc0, g1, gc1, SS) => s.lack) (r, p0, c0, p1, c1, []) (hf14.cons 0 rfl (hf14.cons 1 rfl (hf14.cons 2 rfl (hf14.cons 9 rfl (hf14.cons 10 rfl hf14.nil))))) ⟨hI9, ⟨rfl, hrq, c10_1, Tr.fst, Tr.snd, fun _ h => by cases h⟩⟩ ?_
    intro ⟨s, g0, gc0, g1, gc1, SS⟩ ac13 wd5 hf15 hL1
    obtain ⟨hI10, hx1⟩ := hL1
    dsimp only at hf15 hI10 hx1
    clear hf8 hI6 ac8 wd3 hf14 hI9
    refine wp_block ?_
    refine code_seq ?_
    refine seq_start (l := [0, 1, 2, 3, 4, 5, 6, 7, 8, 9, 10]) rfl ?_
    refine seq_one (op_val (v := .agg #[.int .i64 (N : Int), .int .i64 q, .slice g0 ((s.pl 0).length) gc0, .slice g1 ((s.pl 1).length) gc1]) hf15 rfl rfl rfl rfl rfl rfl (r_loadW ag_85 sz_85 rfl (hI10.at 0 rfl) rfl) fun ac14 hf16 => ?_)
    refine seq_one (op_call (R := fun v w' => ∃ q0 d0 q1 d1, v = .tuple #[.agg #[.int .i64 (N : Int), .int .i64 q, .slice q0 (s.pl 0).tail.length d0, .slice q1 (tO (s.pl 0) (s.pl 1)).length d1], .agg #[.int .i64 (hdP (s.pl 0) (s.pl 1)).1, .int .i64 (hdP (s.pl 0) (s.pl 1)).2], .bool (nF (s.pl 0))] ∧ Tr (g0, gc0, (s.pl 0)) (g1, gc1, (s.pl 1)) [] q0 d0 (s.pl 0).tail ∧ Tr (g0, gc0, (s.pl 0)) (g1, gc1, (s.pl 1)) [] q1 d1 (tO (s.pl 0) (s.pl 1)) ∧ Inv _ [] w') hf16 rfl rfl rfl rfl ca_63 ((out_any (F := (s.pl 0)) (O := (s.pl 1)) hx1.2.2.1 ((Tr.view hx1.2.2.2.1 (View.start (SS := []) hl0 hr0) (View.start (SS := []) hl1 hr1))).1 ((Tr.view hx1.2.2.2.2.1 (View.start (SS := []) hl0 hr0) (View.start (SS := []) hl1 hr1))).1 (Ro.pl_le s 0) (Ro.pl_le s 1) (View.rows (Tr.view hx1.2.2.2.1 (View.start (SS := []) hl0 hr0) (View.start (SS := []) hl1 hr1)) hI10 (fk_app (fresh_keys (ks := [b1, b2]) rfl (fk_cons hb1 (fk_cons hb2 fk_nil))) hx1.2.2.2.2.2) (fun x hx => List.mem_append_right _ hx)) (View.rows (Tr.view hx1.2.2.2.2.1 (View.start (SS := []) hl0 hr0) (View.start (SS := []) hl1 hr1)) hI10 (fk_app (fresh_keys (ks := [b1, b2]) rfl (fk_cons hb1 (fk_cons hb2 fk_nil))) hx1.2.2.2.2.2) (fun x hx => List.mem_append_right _ hx))).mono fun _ _ ⟨q0, d0, q1, d1, he, h1, h2, h3⟩ => ⟨_, he, q0, d0, q1, d1, rfl, h1, h2, h3⟩) fun ac15 v wd6 hR hf17 => ?_)
    obtain ⟨m3, k3, m3', k3', rfl, hta3, htb3, hw3⟩ := hR
    have hI11 := hI10.call0 hw3
    have htc3 := Tr.comp0 hx1.2.2.2.1 hx1.2.2.2.2.1 hta3
    have htd3 := Tr.comp0 hx1.2.2.2.1 hx1.2.2.2.2.1 htb3
    refine seq_one (op_val (v := .tuple #[.agg #[.int .i64 (N : Int), .int .i64 q, .slice m3 ((s.pl 0).tail.length) k3, .slice m3' ((tO (s.pl 0) (s.pl 1)).length) k3'], .agg #[.int .i64 ((hdP (s.pl 0) (s.pl 1)).1), .int .i64 ((hdP (s.pl 0) (s.pl 1)).2)], .bool (nF (s.pl 0))]) hf17 rfl rfl rfl rfl rfl rfl (r_move rfl) fun ac16 hf18 => ?_)
    refine seq_one (op_val (v := .agg #[.int .i64 (N : Int), .int .i64 q, .slice m3 ((s.pl 0).tail.length) k3, .slice m3' ((tO (s.pl 0) (s.pl 1)).length) k3']) hf18 rfl rfl rfl rfl rfl rfl (r_extract rfl rfl) fun ac17 hf19 => ?_)
    refine seq_one (op_val (v := .agg #[.int .i64 ((hdP (s.pl 0) (s.pl 1)).1), .int .i64 ((hdP (s.pl 0) (s.pl 1)).2)]) hf19 rfl rfl rfl rfl rfl rfl (r_extract rfl rfl) fun ac18 hf20 => ?_)
    refine seq_one (op_val (v := .bool (nF (s.pl 0))) hf20 rfl rfl rfl rfl rfl rfl (r_extract rfl rfl) fun ac19 hf21 => ?_)
    refine seq_one (op_alloc hf21 rfl rfl rfl ze_85 hI11 fun ac20 b4 wd7 hb4 hI12 hf22 => ?_)
    have hI13 : Inv w ([(b1, #[.int .i64 (N : Int), .int .i64 q, .slice g0 ((s.pl 0).length) gc0, .slice g1 ((s.pl 1).length) gc1], 85), (b2, #[.int .i64 0, .int .i64 0, .slice none 0 0, .slice none 0 0], 85), (b4, #[.int .i64 0, .int .i64 0, .slice none 0 0, .slice none 0 0], 85)] ++ SS) wd7 := Inv.tail (A := [(b1, #[.int .i64 (N : Int), .int .i64 q, .slice g0 ((s.pl 0).length) gc0, .slice g1 ((s.pl 1).length) gc1], 85), (b2, #[.int .i64 0, .int .i64 0, .slice none 0 0, .slice none 0 0], 85)]) (T := SS) (N := [(b4, #[.int .i64 0, .int .i64 0, .slice none 0 0, .slice none 0 0], 85)]) hI12
    refine seq_one (op_alloc hf22 rfl rfl rfl ze_108 hI13 fun ac21 b5 wd8 hb5 hI14 hf23 => ?_)
    have hI15 : Inv w ([(b1, #[.int .i64 (N : Int), .int .i64 q, .slice g0 ((s.pl 0).length) gc0, .slice g1 ((s.pl 1).length) gc1], 85), (b2, #[.int .i64 0, .int .i64 0, .slice none 0 0, .slice none 0 0], 85), (b4, #[.int .i64 0, .int .i64 0, .slice none 0 0, .slice none 0 0], 85), (b5, #[.int .i64 0, .int .i64 0], 108)] ++ SS) wd8 := Inv.tail (A := [(b1, #[.int .i64 (N : Int), .int .i64 q, .slice g0 ((s.pl 0).length) gc0, .slice g1 ((s.pl 1).length) gc1], 85), (b2, #[.int .i64 0, .int .i64 0, .slice none 0 0, .slice none 0 0], 85), (b4, #[.int .i64 0, .int .i64 0, .slice none 0 0, .slice none 0 0], 85)]) (T := SS) (N := [(b5, #[.int .i64 0, .int .i64 0], 108)]) hI14
    refine seq_one (op_storeW (cells := #[.int .i64 (N : Int), .int .i64 q, .slice m3 ((s.pl 0).tail.length) k3, .slice m3' ((tO (s.pl 0) (s.pl 1)).length) k3']) 2 hf23 rfl rfl rfl rfl rfl sz_85 rfl rfl hI15 rfl rfl fun wd9 hI16 => ?_)
    have hI17 : Inv w ([(b1, #[.int .i64 (N : Int), .int .i64 q, .slice g0 ((s.pl 0).length) gc0, .slice g1 ((s.pl 1).length) gc1], 85), (b2, #[.int .i64 0, .int .i64 0, .slice none 0 0, .slice none 0 0], 85), (b4, #[.int .i64 (N : Int), .int .i64 q, .slice m3 ((s.pl 0).tail.length) k3, .slice m3' ((tO (s.pl 0) (s.pl 1)).length) k3'], 85), (b5, #[.int .i64 0, .int .i64 0], 108)] ++ SS) wd9 := hI16
    refine seq_one (op_storeW (cells := #[.int .i64 ((hdP (s.pl 0) (s.pl 1)).1), .int .i64 ((hdP (s.pl 0) (s.pl 1)).2)]) 3 hf23 rfl rfl rfl rfl rfl sz_108 rfl rfl hI17 rfl rfl fun wd10 hI18 => ?_)
    have hI19 : Inv w ([(b1, #[.int .i64 (N : Int), .int .i64 q, .slice g0 ((s.pl 0).length) gc0, .slice g1 ((s.pl 1).length) gc1], 85), (b2, #[.int .i64 0, .int .i64 0, .slice none 0 0, .slice none 0 0], 85), (b4, #[.int .i64 (N : Int), .int .i64 q, .slice m3 ((s.pl 0).tail.length) k3, .slice m3' ((tO (s.pl 0) (s.pl 1)).length) k3'], 85), (b5, #[.int .i64 ((hdP (s.pl 0) (s.pl 1)).1), .int .i64 ((hdP (s.pl 0) (s.pl 1)).2)], 108)] ++ SS) wd10 := hI18
    refine seq_one (op_val (v := .bool (nF (s.pl 0))) hf23 rfl rfl rfl rfl rfl rfl (r_assign rfl) fun ac22 hf24 => ?_)
    refine seq_end ?_
    clear ac13 hf15 ac14 wd5 hf16 hI10 hw3 ac15 hf17 ac16 hf18 ac17 hf19 ac18 hf20 ac19 wd6 hI11 hf21 hI12 ac20 wd7 hI13 hf22 hI14 wd8 hI15 hI16 wd9 hI17 hI18 ac21 hf23
    refine then_normal ?_
    refine code_seq ?_
    refine code_seq ?_
    refine seq_start (l := [0, 1, 2]) rfl ?_
    refine seq_one (op_val (v := .pointer (some ⟨b5, 1, none⟩)) hf24 rfl rfl rfl rfl rfl rfl (r_fieldAddr fi_108_1 rfl rfl) fun ac23 hf25 => ?_)
    refine seq_one (op_val (v := .int .i64 ((hdP (s.pl 0) (s.pl 1)).2)) hf25 rfl rfl rfl rfl rfl rfl (r_load ag_3 rfl (hI19.at 3 rfl) rfl) fun ac24 hf26 => ?_)
    refine seq_one (op_val (v := .bool (decide (((hdP (s.pl 0) (s.pl 1)).2) > 0))) hf26 rfl rfl rfl rfl rfl rfl (r_gtr rfl rfl) fun ac25 hf27 => ?_)
    refine seq_end ?_
    clear ac22 hf24 ac23 hf25 ac24 hf26
    refine then_normal ?_
    refine code_if hf27 rfl (fun c20_2 => ?_) (fun c20_2 => ?_)
    · have hf28 := hf27.know 20 (u := .bool true) rfl (congrArg Value.bool c20_2)
      refine code_seq ?_
      refine any_start (fun w => Has [(b1, #[.int .i64 (N : Int), .int .i64 q, .slice g0 ((s.pl 0).length) gc0, .slice g1 ((s.pl 1).length) gc1], 85), (b5, #[.int .i64 ((hdP (s.pl 0) (s.pl 1)).1), .int .i64 ((hdP (s.pl 0) (s.pl 1)).2)], 108)] w) follows (Has.drew (Has.cons (hI19.at 0 rfl) (Has.cons (hI19.at 3 rfl) Has.nil))) ?_
      have hS1 : Has [(b1, #[.int .i64 (N : Int), .int .i64 q, .slice g0 ((s.pl 0).length) gc0, .slice g1 ((s.pl 1).length) gc1], 85), (b5, #[.int .i64 ((hdP (s.pl 0) (s.pl 1)).1), .int .i64 ((hdP (s.pl 0) (s.pl 1)).2)], 108)] _ := Has.drew (Has.cons (hI19.at 0 rfl) (Has.cons (hI19.at 3 rfl) Has.nil))
      have hI20 := hI19.drew
      refine any_val (i := 0) (v := .agg #[.int .i64 (N : Int), .int .i64 q, .slice g0 ((s.pl 0).length) gc0, .slice g1 ((s.pl 1).length) gc1]) hf28 rfl rfl rfl rfl rfl rfl (fun _ _ _ h => h) (by kernel_rfl) (by kernel_rfl) (by kernel_rfl) (fun wd10 hS1 => (r_loadW ag_85 sz_85 rfl (hS1.at 0 rfl) rfl)) hS1 fun ac26 hf29 => ?_
      refine any_val (i := 1) (v := .pointer (some ⟨b5, 0, none⟩)) hf29 rfl rfl rfl rfl rfl rfl (fun _ _ _ h => h) (by kernel_rfl) (by kernel_rfl) (by kernel_rfl) (fun wd10 hS1 => (r_fieldAddr fi_108_0 rfl rfl)) hS1 fun ac27 hf30 => ?_
      refine any_val (i := 2) (v := .int .i64 ((hdP (s.pl 0) (s.pl 1)).1)) hf30 rfl rfl rfl rfl rfl rfl (fun _ _ _ h => h) (by kernel_rfl) (by kernel_rfl) (by kernel_rfl) (fun wd10 hS1 => (r_load ag_3 rfl (hS1.at 1 rfl) rfl)) hS1 fun ac28 hf31 => ?_
      refine any_val (i := 3) (v := .pointer (some ⟨b5, 1, none⟩)) hf31 rfl rfl rfl rfl rfl rfl (fun _ _ _ h => h) (by kernel_rfl) (by kernel_rfl) (by kernel_rfl) (fun wd10 hS1 => (r_fieldAddr fi_108_1 rfl rfl)) hS1 fun ac29 hf32 => ?_
      refine any_val (i := 4) (v := .int .i64 ((hdP (s.pl 0) (s.pl 1)).2)) hf32 rfl rfl rfl rfl rfl rfl (fun _ _ _ h => h) (by kernel_rfl) (by kernel_rfl) (by kernel_rfl) (fun wd10 hS1 => (r_load ag_3 rfl (hS1.at 1 rfl) rfl)) hS1 fun ac30 hf33 => ?_
      refine any_one (i := 5) (by kernel_rfl) ?_
      refine (op_storeW (cells := #[.int .i64 (N : Int), .int .i64 q, .slice g0 ((s.pl 0).length) gc0, .slice g1 ((s.pl 1).length) gc1]) 1 hf33 rfl rfl rfl rfl rfl sz_85 rfl rfl hI20 rfl rfl fun wd11 hI21 => ⟨?_, ?_⟩)
      · exact (Has.cons (hI21.at 0 rfl) (Has.cons (hI21.at 3 rfl) Has.nil))
      have hI22 : Inv w ([(b1, #[.int .i64 (N : Int), .int .i64 q, .slice g0 ((s.pl 0).length) gc0, .slice g1 ((s.pl 1).length) gc1], 85), (b2, #[.int .i64 (N : Int), .int .i64 q, .slice g0 ((s.pl 0).length) gc0, .slice g1 ((s.pl 1).length) gc1], 85), (b4, #[.int .i64 (N : Int), .int .i64 q, .slice m3 ((s.pl 0).tail.length) k3, .slice m3' ((tO (s.pl 0) (s.pl 1)).length) k3'], 85), (b5, #[.int .i64 ((hdP (s.pl 0) (s.pl 1)).1), .int .i64 ((hdP (s.pl 0) (s.pl 1)).2)], 108)] ++ SS) wd11 := hI21
      have hS2 : Has [(b1, #[.int .i64 (N : Int), .int .i64 q, .slice g0 ((s.pl 0).length) gc0, .slice g1 ((s.pl 1).length) gc1], 85), (b5, #[.int .i64 ((hdP (s.pl 0) (s.pl 1)).1), .int .i64 ((hdP (s.pl 0) (s.pl 1)).2)], 108)] _ := (Has.cons (hI22.at 0 rfl) (Has.cons (hI22.at 3 rfl) Has.nil))
      refine any_val (i := 6) (v := .int .i64 ((hdP (s.pl 0) (s.pl 1)).1)) hf33 rfl rfl rfl rfl rfl rfl (fun _ _ _ h => h) (by kernel_rfl) (by kernel_rfl) (by kernel_rfl) (fun wd11 hS2 => (r_assign rfl)) hS2 fun ac31 hf34 => ?_
      refine any_val (i := 7) (v := .int .i64 ((hdP (s.pl 0) (s.pl 1)).2)) hf34 rfl rfl rfl rfl rfl rfl (fun _ _ _ h => h) (by kernel_rfl) (by kernel_rfl) (by kernel_rfl) (fun wd11 hS2 => (r_assign rfl)) hS2 fun ac32 hf35 => ?_
      refine any_val (i := 8) (v := .bool true) hf35 rfl rfl rfl rfl rfl rfl (fun _ _ _ h => h) (by kernel_rfl) (by kernel_rfl) (by kernel_rfl) (fun wd11 hS2 => (r_assign rfl)) hS2 fun ac33 hf36 => ?_
      refine any_end (by kernel_rfl) ?_
      clear hf27 hI19 ac25 hf28 ac26 hf29 ac27 hf30 ac28 hf31 ac29 hf32 wd10 hI20 hI21 hS1 ac30 hf33 ac31 hf34 ac32 hf35 hS2
      refine then_normal ?_
      refine wp_ret ?_
      refine then_ret ?_
      refine block_ret ?_
      refine then_ret ?_
      refine block_ret ?_
      obtain ⟨e0, e1, e2, e3, e4⟩ := Ro.head_pl (r := r) (s := s) hx1.2.2.1 (of_decide_eq_true c20_2) hx1.1
      exact postC3 rfl hf36 rfl ag_85 sz_85 (hI22.at 1 rfl) rfl rfl rfl rfl ⟨SS, g0, gc0, g1, gc1, (by rw [e0, e1, e2, e3, e4]), (Inv.keep (A := []) (N := [(b1, #[.int .i64 (N : Int), .int .i64 q, .slice g0 ((s.pl 0).length) gc0, .slice g1 ((s.pl 1).length) gc1], 85), (b2, #[.int .i64 (N : Int), .int .i64 q, .slice g0 ((s.pl 0).length) gc0, .slice g1 ((s.pl 1).length) gc1], 85), (b4, #[.int .i64 (N : Int), .int .i64 q, .slice m3 ((s.pl 0).tail.length) k3, .slice m3' ((tO (s.pl 0) (s.pl 1)).length) k3'], 85), (b5, #[.int .i64 ((hdP (s.pl 0) (s.pl 1)).1), .int .i64 ((hdP (s.pl 0) (s.pl 1)).2)], 108)]) (T := SS) hI22 (fresh_keys (ks := [b1, b2, b4, b5]) rfl (fk_cons hb1 (fk_cons hb2 (fk_cons hb4 (fk_cons hb5 fk_nil)))))), hx1.2.2.2.2.2, by rw [e0]; exact hx1.2.2.2.1, by rw [e1]; exact hx1.2.2.2.2.1⟩
    · have hf37 := hf27.know 20 (u := .bool false) rfl (congrArg Value.bool c20_2)
      refine wp_skip ?_
      refine then_normal ?_
      refine code_seq ?_
      refine seq_start (l := [0, 1, 2, 3, 4, 5, 6, 7, 8, 9, 10, 11, 12]) rfl ?_
      refine seq_one (op_val (v := .pointer (some ⟨b4, 3, none⟩)) hf37 rfl rfl rfl rfl rfl rfl (r_fieldAddr fi_85_3 rfl rfl) fun ac34 hf38 => ?_)
      refine seq_one (op_val (v := .slice m3' ((tO (s.pl 0) (s.pl 1)).length) k3') hf38 rfl rfl rfl rfl rfl rfl (r_load ag_83 rfl (hI19.at 2 rfl) rfl) fun ac35 hf39 => ?_)
      refine seq_one (op_val (v := .pointer (some ⟨b5, 0, none⟩)) hf39 rfl rfl rfl rfl rfl rfl (r_fieldAddr fi_108_0 rfl rfl) fun ac36 hf40 => ?_)
      refine seq_one (op_val (v := .int .i64 ((hdP (s.pl 0) (s.pl 1)).1)) hf40 rfl rfl rfl rfl rfl rfl (r_load ag_3 rfl (hI19.at 3 rfl) rfl) fun ac37 hf41 => ?_)
      refine seq_one (op_val (v := .pointer (some ⟨b5, 1, none⟩)) hf41 rfl rfl rfl rfl rfl rfl (r_fieldAddr fi_108_1 rfl rfl) fun ac38 hf42 => ?_)
      refine seq_one (op_val (v := .int .i64 ((hdP (s.pl 0) (s.pl 1)).2)) hf42 rfl rfl rfl rfl rfl rfl (r_load ag_3 rfl (hI19.at 3 rfl) rfl) fun ac39 hf43 => ?_)
      refine seq_one (op_val (v := .pointer (some ⟨b1, 1, none⟩)) hf43 rfl rfl rfl rfl rfl rfl (r_fieldAddr fi_85_1 rfl rfl) fun ac40 hf44 => ?_)
      refine seq_one (op_val (v := .int .i64 q) hf44 rfl rfl rfl rfl rfl rfl (r_load ag_3 rfl (hI19.at 0 rfl) rfl) fun ac41 hf45 => ?_)
      have hst := Ro.step_pl (r := s) hx1.2.2.1 (of_decide_eq_false c20_2)
      have hsb := Ro.due_b hst.1
      refine seq_one (op_val (v := .int .i64 ((hdP (s.pl 0) (s.pl 1)).2 + q)) hf45 rfl rfl rfl rfl rfl rfl (r_add (c := ((hdP (s.pl 0) (s.pl 1)).2 + q)) rfl rfl (wrap_i64 (by have h2 := hst.2.1; have h3 := hx1.2.1; omega) (by have h2 := hst.2.1; have h3 := hx1.2.1; omega))) fun ac42 hf46 => ?_)
      refine seq_one (op_val (v := .agg #[.int .i64 ((hdP (s.pl 0) (s.pl 1)).1), .int .i64 ((hdP (s.pl 0) (s.pl 1)).2 + q)]) hf46 rfl rfl rfl rfl rfl rfl (r_build (v := .agg #[.int .i64 ((hdP (s.pl 0) (s.pl 1)).1), .int .i64 ((hdP (s.pl 0) (s.pl 1)).2 + q)]) rfl (fun _ => by kernel_rfl)) fun ac43 hf47 => ?_)
      refine seq_one (op_call (R := fun v w' => ∃ S p cap, v = .slice p ((tO (s.pl 0) (s.pl 1)) ++ [((hdP (s.pl 0) (s.pl 1)).1, ((hdP (s.pl 0) (s.pl 1)).2 + q))]).length cap ∧ Sp 108 S p cap ((tO (s.pl 0) (s.pl 1)) ++ [((hdP (s.pl 0) (s.pl 1)).1, ((hdP (s.pl 0) (s.pl 1)).2 + q))]) ∧ Inv _ S w' ∧ ∀ x ∈ S, Array.size (World.heap _) ≤ x.1) hf47 rfl rfl rfl rfl ca_61 ((with_walk (F := (tO (s.pl 0) (s.pl 1))) (x := (hdP (s.pl 0) (s.pl 1)).1) (y := ((hdP (s.pl 0) (s.pl 1)).2 + q)) ((Tr.view htd3 (View.start (SS := []) hl0 hr0) (View.start (SS := []) hl1 hr1))).1 (Ro.tl_le s).2 (View.rows (Tr.view htd3 (View.start (SS := []) hl0 hr0) (View.start (SS := []) hl1 hr1)) hI19 (fk_app (fresh_keys (ks := [b1, b2, b4, b5]) rfl (fk_cons hb1 (fk_cons hb2 (fk_cons hb4 (fk_cons hb5 fk_nil))))) hx1.2.2.2.2.2) (fun x hx => List.mem_append_right _ hx))).mono fun _ _ ⟨S, p, cap, he, h1, h3, h4⟩ => ⟨_, he, S, p, cap, rfl, h1, h3, h4⟩) fun ac44 v wd12 hR hf48 => ?_)
      obtain ⟨Sq6, q6, capq6, rfl, hsq6, hwq6, hzq6⟩ := hR
      have hyq6 := fk_le hI19.size hzq6
      have hI23 : Inv w ([(b1, #[.int .i64 (N : Int), .int .i64 q, .slice g0 ((s.pl 0).length) gc0, .slice g1 ((s.pl 1).length) gc1], 85), (b2, #[.int .i64 0, .int .i64 0, .slice none 0 0, .slice none 0 0], 85), (b4, #[.int .i64 (N : Int), .int .i64 q, .slice m3 ((s.pl 0).tail.length) k3, .slice m3' ((tO (s.pl 0) (s.pl 1)).length) k3'], 85), (b5, #[.int .i64 ((hdP (s.pl 0) (s.pl 1)).1), .int .i64 ((hdP (s.pl 0) (s.pl 1)).2)], 108)] ++ (SS ++ Sq6)) _ := hI19.callN hwq6 hzq6
      refine seq_one (op_val (v := .pointer (some ⟨b4, 3, none⟩)) hf48 rfl rfl rfl rfl rfl rfl (r_fieldAddr fi_85_3 rfl rfl) fun ac45 hf49 => ?_)
      refine seq_one (op_store (cs' := #[.int .i64 (N : Int), .int .i64 q, .slice m3 ((s.pl 0).tail.length) k3, .slice q6 (((tO (s.pl 0) (s.pl 1)) ++ [((hdP (s.pl 0) (s.pl 1)).1, ((hdP (s.pl 0) (s.pl 1)).2 + q))]).length) capq6]) 2 hf49 rfl rfl rfl rfl rfl sz_83 hI23 rfl (ltb rfl) (by kernel_rfl) fun wd13 hI24 => ?_)
      have hI25 : Inv w ([(b1, #[.int .i64 (N : Int), .int .i64 q, .slice g0 ((s.pl 0).length) gc0, .slice g1 ((s.pl 1).length) gc1], 85), (b2, #[.int .i64 0, .int .i64 0, .slice none 0 0, .slice none 0 0], 85), (b4, #[.int .i64 (N : Int), .int .i64 q, .slice m3 ((s.pl 0).tail.length) k3, .slice q6 (((tO (s.pl 0) (s.pl 1)) ++ [((hdP (s.pl 0) (s.pl 1)).1, ((hdP (s.pl 0) (s.pl 1)).2 + q))]).length) capq6], 85), (b5, #[.int .i64 ((hdP (s.pl 0) (s.pl 1)).1), .int .i64 ((hdP (s.pl 0) (s.pl 1)).2)], 108)] ++ (SS ++ Sq6)) wd13 := hI24
      refine seq_end ?_
      clear hf27 ac25 hf37 ac34 hf38 ac35 hf39 ac36 hf40 ac37 hf41 ac38 hf42 ac39 hf43 ac40 hf44 ac41 hf45 ac42 hf46 ac43 wd10 hf47 hI19 hwq6 hzq6 ac44 hf48 wd12 hI23 hI24
      refine then_normal ?_
      refine seq_start (l := [0, 1]) rfl ?_
      refine seq_one (op_val (v := .agg #[.int .i64 (N : Int), .int .i64 q, .slice m3 ((s.pl 0).tail.length) k3, .slice q6 (((tO (s.pl 0) (s.pl 1)) ++ [((hdP (s.pl 0) (s.pl 1)).1, ((hdP (s.pl 0) (s.pl 1)).2 + q))]).length) capq6]) hf49 rfl rfl rfl rfl rfl rfl (r_loadW ag_85 sz_85 rfl (hI25.at 2 rfl) rfl) fun ac46 hf50 => ?_)
      refine seq_one (op_storeW (cells := #[.int .i64 (N : Int), .int .i64 q, .slice m3 ((s.pl 0).tail.length) k3, .slice q6 (((tO (s.pl 0) (s.pl 1)) ++ [((hdP (s.pl 0) (s.pl 1)).1, ((hdP (s.pl 0) (s.pl 1)).2 + q))]).length) capq6]) 0 hf50 rfl rfl rfl rfl rfl sz_85 rfl rfl hI25 rfl rfl fun wd14 hI26 => ?_)
      have hI27 : Inv w ([(b1, #[.int .i64 (N : Int), .int .i64 q, .slice m3 ((s.pl 0).tail.length) k3, .slice q6 (((tO (s.pl 0) (s.pl 1)) ++ [((hdP (s.pl 0) (s.pl 1)).1, ((hdP (s.pl 0) (s.pl 1)).2 + q))]).length) capq6], 85), (b2, #[.int .i64 0, .int .i64 0, .slice none 0 0, .slice none 0 0], 85), (b4, #[.int .i64 (N : Int), .int .i64 q, .slice m3 ((s.pl 0).tail.length) k3, .slice q6 (((tO (s.pl 0) (s.pl 1)) ++ [((hdP (s.pl 0) (s.pl 1)).1, ((hdP (s.pl 0) (s.pl 1)).2 + q))]).length) capq6], 85), (b5, #[.int .i64 ((hdP (s.pl 0) (s.pl 1)).1), .int .i64 ((hdP (s.pl 0) (s.pl 1)).2)], 108)] ++ (SS ++ Sq6)) wd14 := hI26
      refine seq_end ?_
      clear ac45 hf49 wd13 hI25 hI26
      refine block_normal ?_
      refine then_normal ?_
      obtain ⟨hdu, hd2, e0, e1, he⟩ := hst
      rw [hx1.2.1] at e1
      rw [← e0, ← e1] at hI27
      exact ⟨(s.step, m3, k3, q6, capq6, (SS ++ Sq6)), (hf50.cons 0 rfl (hf50.cons 1 rfl (hf50.cons 2 rfl (hf50.cons 9 rfl (hf50.cons 10 rfl hf50.nil))))), ⟨(Inv.keep (A := [(b1, #[.int .i64 (N : Int), .int .i64 q, .slice m3 ((s.step.pl 0).length) k3, .slice q6 ((s.step.pl 1).length) capq6], 85), (b2, #[.int .i64 0, .int .i64 0, .slice none 0 0, .slice none 0 0], 85)]) (N := [(b4, #[.int .i64 (N : Int), .int .i64 q, .slice m3 ((s.step.pl 0).length) k3, .slice q6 ((s.step.pl 1).length) capq6], 85), (b5, #[.int .i64 ((hdP (s.pl 0) (s.pl 1)).1), .int .i64 ((hdP (s.pl 0) (s.pl 1)).2)], 108)]) (T := (SS ++ Sq6)) hI27 (fresh_keys (ks := [b4, b5]) rfl (fk_cons hb4 (fk_cons hb5 fk_nil)))), ⟨(Ro.head_due hdu).trans hx1.1, (Ro.q_step s).trans hx1.2.1, he, by rw [e0]; exact (Tr.mono htc3 (fun x hx => (List.mem_append_left _ hx))), by rw [e1]; exact (Tr.mono (Tr.sp hsq6) (fun x hx => (List.mem_append_right _ hx))), (fk_app hx1.2.2.2.2.2 hyq6)⟩⟩, (Ro.lack_step hdu)⟩
def okN (n q : Int) : Bool := decide (1 ≤ n ∧ n ≤ 4096 ∧ 64 ≤ q ∧ q ≤ 1048576)
set_option maxHeartbeats 8000000 in
theorem rnew_walk {n q : Int} (w : World) : Calls Try.prog 43 [.int .i64 n, .int .i64 q].toArray w fun e w' => e = .returned (.tuple #[.agg #[.int .i64 n, .int .i64 q, .slice none 0 0, .slice none 0 0], .bool (okN n q)]) ∧ Inv w [] w' := by
  have hI1 := Inv.start w
  refine enter (n := 25) Try.func43 rfl rfl rfl ?_
  intro ac1 hf1
  refine code_seq ?_
  refine seq_start (l := [0, 1]) rfl ?_
  refine seq_one (op_alloc hf1 rfl rfl rfl ze_85 hI1 fun ac2 b1 wd1 hb1 hI2 hf2 => ?_)
  have hI3 : Inv w [(b1, #[.int .i64 0, .int .i64 0, .slice none 0 0, .slice none 0 0], 85)] wd1 := hI2
  refine seq_one (op_val (v := .bool false) hf2 rfl rfl rfl rfl rfl rfl (r_assign rfl) fun ac3 hf3 => ?_)
  refine seq_end ?_
  clear ac1 hI1 hf1 hI2 ac2 hf2
  refine then_normal ?_
  refine code_seq ?_
  refine seq_start (l := [0, 1, 2, 3, 4, 5, 6, 7, 8, 9, 10, 11, 12, 13, 14]) rfl ?_
  refine seq_one (op_val (v := .int .i64 n) hf3 rfl rfl rfl rfl rfl rfl (r_move rfl) fun ac4 hf4 => ?_)
  refine seq_one (op_val (v := .bool (decide (n ≥ 1))) hf4 rfl rfl rfl rfl rfl rfl (r_geq rfl rfl) fun ac5 hf5 => ?_)
  refine seq_one (op_val (v := .bool (decide (n ≥ 1))) hf5 rfl rfl rfl rfl rfl rfl (r_move rfl) fun ac6 hf6 => ?_)
  rcases Bool.eq_false_or_eq_true (decide (n ≥ 1) : Bool) with g9_1 | g9_1
  · have hf7 := hf6.know 9 (u := .bool true) rfl (congrArg Value.bool g9_1)
    refine seq_one (op_val (v := .int .i64 n) hf7 rfl rfl rfl rfl rfl rfl (r_move rfl) fun ac7 hf8 => ?_)
    refine seq_one (op_val (v := .bool (decide (n ≤ 4096))) hf8 rfl rfl rfl rfl rfl rfl (r_leq rfl rfl) fun ac8 hf9 => ?_)
    refine seq_one (op_val (v := .bool (decide (n ≤ 4096))) hf9 rfl rfl rfl rfl rfl rfl (r_pickT rfl rfl) fun ac9 hf10 => ?_)
    refine seq_one (op_val (v := .bool (decide (n ≤ 4096))) hf10 rfl rfl rfl rfl rfl rfl (r_move rfl) fun ac10 hf11 => ?_)
    rcases Bool.eq_false_or_eq_true (decide (n ≤ 4096) : Bool) with g13_2 | g13_2
    · have hf12 := hf11.know 13 (u := .bool true) rfl (congrArg Value.bool g13_2)
      refine seq_one (op_val (v := .int .i64 q) hf12 rfl rfl rfl rfl rfl rfl (r_move rfl) fun ac11 hf13 => ?_)
      refine seq_one (op_val (v := .bool (decide (q ≥ 64))) hf13 rfl rfl rfl rfl rfl rfl (r_geq rfl rfl) fun ac12 hf14 => ?_)
      refine seq_one (op_val (v := .bool (decide (q ≥ 64))) hf14 rfl rfl rfl rfl rfl rfl (r_pickT rfl rfl) fun ac13 hf15 => ?_)
      refine seq_one (op_val (v := .bool (decide (q ≥ 64))) hf15 rfl rfl rfl rfl rfl rfl (r_move rfl) fun ac14 hf16 => ?_)
      rcases Bool.eq_false_or_eq_true (decide (q ≥ 64) : Bool) with g17_3 | g17_3
      · have hf17 := hf16.know 17 (u := .bool true) rfl (congrArg Value.bool g17_3)
        refine seq_one (op_val (v := .int .i64 q) hf17 rfl rfl rfl rfl rfl rfl (r_move rfl) fun ac15 hf18 => ?_)
        refine seq_one (op_val (v := .bool (decide (q ≤ 1048576))) hf18 rfl rfl rfl rfl rfl rfl (r_leq rfl rfl) fun ac16 hf19 => ?_)
        refine seq_one (op_val (v := .bool (decide (q ≤ 1048576))) hf19 rfl rfl rfl rfl rfl rfl (r_pickT rfl rfl) fun ac17 hf20 => ?_)
        refine seq_one (op_val (v := .bool (decide (q ≤ 1048576))) hf20 rfl rfl rfl rfl rfl rfl (r_assign rfl) fun ac18 hf21 => ?_)
        refine seq_end ?_
        clear ac3 hf3 ac4 hf4 ac5 hf5 hf6 ac6 hf7 ac7 hf8 ac8 hf9 ac9 hf10 hf11 ac10 hf12 ac11 hf13 ac12 hf14 ac13 hf15 hf16 ac14 hf17 ac15 hf18 ac16 hf19 ac17 hf20
        refine then_normal ?_
        refine code_seq ?_
        refine seq_start (l := [0, 1, 2, 3, 4, 5]) rfl ?_
        refine seq_one (op_val (v := .int .i64 n) hf21 rfl rfl rfl rfl rfl rfl (r_move rfl) fun ac19 hf22 => ?_)
        refine seq_one (op_val (v := .int .i64 q) hf22 rfl rfl rfl rfl rfl rfl (r_move rfl) fun ac20 hf23 => ?_)
        refine seq_one (op_val (v := .agg #[.int .i64 n, .int .i64 q, .slice none 0 0, .slice none 0 0]) hf23 rfl rfl rfl rfl rfl rfl (r_build (v := .agg #[.int .i64 n, .int .i64 q, .slice none 0 0, .slice none 0 0]) rfl (fun _ => by kernel_rfl)) fun ac21 hf24 => ?_)
        refine seq_one (op_val (v := .bool (decide (q ≤ 1048576))) hf24 rfl rfl rfl rfl rfl rfl (r_move rfl) fun ac22 hf25 => ?_)
        refine seq_one (op_storeW (cells := #[.int .i64 n, .int .i64 q, .slice none 0 0, .slice none 0 0]) 0 hf25 rfl rfl rfl rfl rfl sz_85 rfl rfl hI3 rfl rfl fun wd2 hI4 => ?_)
        have hI5 : Inv w [(b1, #[.int .i64 n, .int .i64 q, .slice none 0 0, .slice none 0 0], 85)] wd2 := hI4
        refine seq_one (op_val (v := .bool (decide (q ≤ 1048576))) hf25 rfl rfl rfl rfl rfl rfl (r_assign rfl) fun ac23 hf26 => ?_)
        refine seq_end ?_
        clear ac18 hf21 ac19 hf22 ac20 hf23 ac21 hf24 wd1 hI3 hI4 ac22 hf25
        refine then_normal ?_
        refine wp_ret ?_
        refine postC1 rfl hf26 rfl ag_85 sz_85 (hI5.at 0 rfl) rfl rfl ⟨?_, hI5.done (fresh_keys (ks := [b1]) rfl (fk_cons hb1 fk_nil))⟩
        rw [show okN n q = decide (q ≤ 1048576) from decide_eq_decide.2 (by simp only [decide_eq_true_eq, decide_eq_false_iff_not] at g9_1 g13_2 g17_3; omega)]
      · have hf27 := hf16.know 17 (u := .bool false) rfl (congrArg Value.bool g17_3)
        refine seq_one (op_skip hf27 rfl rfl rfl rfl fun ac24 hf28 => ?_)
        refine seq_one (op_skip hf28 rfl rfl rfl rfl fun ac25 hf29 => ?_)
        refine seq_one (op_val (v := .bool false) hf29 rfl rfl rfl rfl rfl rfl (r_pickF rfl rfl) fun ac26 hf30 => ?_)
        refine seq_one (op_val (v := .bool false) hf30 rfl rfl rfl rfl rfl rfl (r_assign rfl) fun ac27 hf31 => ?_)
        refine seq_end ?_
        clear ac3 hf3 ac4 hf4 ac5 hf5 hf6 ac6 hf7 ac7 hf8 ac8 hf9 ac9 hf10 hf11 ac10 hf12 ac11 hf13 ac12 hf14 ac13 hf15 hf16 ac14 hf27 ac24 hf28 ac25 hf29 ac26 hf30
        refine then_normal ?_
        refine code_seq ?_
        refine seq_start (l := [0, 1, 2, 3, 4, 5]) rfl ?_
        refine seq_one (op_val (v := .int .i64 n) hf31 rfl rfl rfl rfl rfl rfl (r_move rfl) fun ac28 hf32 => ?_)
        refine seq_one (op_val (v := .int .i64 q) hf32 rfl rfl rfl rfl rfl rfl (r_move rfl) fun ac29 hf33 => ?_)
        refine seq_one (op_val (v := .agg #[.int .i64 n, .int .i64 q, .slice none 0 0, .slice none 0 0]) hf33 rfl rfl rfl rfl rfl rfl (r_build (v := .agg #[.int .i64 n, .int .i64 q, .slice none 0 0, .slice none 0 0]) rfl (fun _ => by kernel_rfl)) fun ac30 hf34 => ?_)
        refine seq_one (op_val (v := .bool false) hf34 rfl rfl rfl rfl rfl rfl (r_move rfl) fun ac31 hf35 => ?_)
        refine seq_one (op_storeW (cells := #[.int .i64 n, .int .i64 q, .slice none 0 0, .slice none 0 0]) 0 hf35 rfl rfl rfl rfl rfl sz_85 rfl rfl hI3 rfl rfl fun wd3 hI6 => ?_)
        have hI7 : Inv w [(b1, #[.int .i64 n, .int .i64 q, .slice none 0 0, .slice none 0 0], 85)] wd3 := hI6
        refine seq_one (op_val (v := .bool false) hf35 rfl rfl rfl rfl rfl rfl (r_assign rfl) fun ac32 hf36 => ?_)
        refine seq_end ?_
        clear ac27 hf31 ac28 hf32 ac29 hf33 ac30 hf34 wd1 hI3 hI6 ac31 hf35
        refine then_normal ?_
        refine wp_ret ?_
        refine postC1 rfl hf36 rfl ag_85 sz_85 (hI7.at 0 rfl) rfl rfl ⟨?_, hI7.done (fresh_keys (ks := [b1]) rfl (fk_cons hb1 fk_nil))⟩
        rw [show okN n q = false from decide_eq_false (by simp only [decide_eq_true_eq, decide_eq_false_iff_not] at g9_1 g13_2 g17_3; omega)]
    · have hf37 := hf11.know 13 (u := .bool false) rfl (congrArg Value.bool g13_2)
      refine seq_one (op_skip hf37 rfl rfl rfl rfl fun ac33 hf38 => ?_)
      refine seq_one (op_skip hf38 rfl rfl rfl rfl fun ac34 hf39 => ?_)
      refine seq_one (op_val (v := .bool false) hf39 rfl rfl rfl rfl rfl rfl (r_pickF rfl rfl) fun ac35 hf40 => ?_)
      refine seq_one (op_val (v := .bool false) hf40 rfl rfl rfl rfl rfl rfl (r_move rfl) fun ac36 hf41 => ?_)
      refine seq_one (op_skip hf41 rfl rfl rfl rfl fun ac37 hf42 => ?_)
      refine seq_one (op_skip hf42 rfl rfl rfl rfl fun ac38 hf43 => ?_)
      refine seq_one (op_val (v := .bool false) hf43 rfl rfl rfl rfl rfl rfl (r_pickF rfl rfl) fun ac39 hf44 => ?_)
      refine seq_one (op_val (v := .bool false) hf44 rfl rfl rfl rfl rfl rfl (r_assign rfl) fun ac40 hf45 => ?_)
      refine seq_end ?_
      clear ac3 hf3 ac4 hf4 ac5 hf5 hf6 ac6 hf7 ac7 hf8 ac8 hf9 ac9 hf10 hf11 ac10 hf37 ac33 hf38 ac34 hf39 ac35 hf40 ac36 hf41 ac37 hf42 ac38 hf43 ac39 hf44
      refine then_normal ?_
      refine code_seq ?_
      refine seq_start (l := [0, 1, 2, 3, 4, 5]) rfl ?_
      refine seq_one (op_val (v := .int .i64 n) hf45 rfl rfl rfl rfl rfl rfl (r_move rfl) fun ac41 hf46 => ?_)
      refine seq_one (op_val (v := .int .i64 q) hf46 rfl rfl rfl rfl rfl rfl (r_move rfl) fun ac42 hf47 => ?_)
      refine seq_one (op_val (v := .agg #[.int .i64 n, .int .i64 q, .slice none 0 0, .slice none 0 0]) hf47 rfl rfl rfl rfl rfl rfl (r_build (v := .agg #[.int .i64 n, .int .i64 q, .slice none 0 0, .slice none 0 0]) rfl (fun _ => by kernel_rfl)) fun ac43 hf48 => ?_)
      refine seq_one (op_val (v := .bool false) hf48 rfl rfl rfl rfl rfl rfl (r_move rfl) fun ac44 hf49 => ?_)
      refine seq_one (op_storeW (cells := #[.int .i64 n, .int .i64 q, .slice none 0 0, .slice none 0 0]) 0 hf49 rfl rfl rfl rfl rfl sz_85 rfl rfl hI3 rfl rfl fun wd4 hI8 => ?_)
      have hI9 : Inv w [(b1, #[.int .i64 n, .int .i64 q, .slice none 0 0, .slice none 0 0], 85)] wd4 := hI8
      refine seq_one (op_val (v := .bool false) hf49 rfl rfl rfl rfl rfl rfl (r_assign rfl) fun ac45 hf50 => ?_)
      refine seq_end ?_
      clear ac40 hf45 ac41 hf46 ac42 hf47 ac43 hf48 wd1 hI3 hI8 ac44 hf49
      refine then_normal ?_
      refine wp_ret ?_
      refine postC1 rfl hf50 rfl ag_85 sz_85 (hI9.at 0 rfl) rfl rfl ⟨?_, hI9.done (fresh_keys (ks := [b1]) rfl (fk_cons hb1 fk_nil))⟩
      rw [show okN n q = false from decide_eq_false (by simp only [decide_eq_true_eq, decide_eq_false_iff_not] at g9_1 g13_2; omega)]
  · have hf51 := hf6.know 9 (u := .bool false) rfl (congrArg Value.bool g9_1)
    refine seq_one (op_skip hf51 rfl rfl rfl rfl fun ac46 hf52 => ?_)
    refine seq_one (op_skip hf52 rfl rfl rfl rfl fun ac47 hf53 => ?_)
    refine seq_one (op_val (v := .bool false) hf53 rfl rfl rfl rfl rfl rfl (r_pickF rfl rfl) fun ac48 hf54 => ?_)
    refine seq_one (op_val (v := .bool false) hf54 rfl rfl rfl rfl rfl rfl (r_move rfl) fun ac49 hf55 => ?_)
    refine seq_one (op_skip hf55 rfl rfl rfl rfl fun ac50 hf56 => ?_)
    refine seq_one (op_skip hf56 rfl rfl rfl rfl fun ac51 hf57 => ?_)
    refine seq_one (op_val (v := .bool false) hf57 rfl rfl rfl rfl rfl rfl (r_pickF rfl rfl) fun ac52 hf58 => ?_)
    refine seq_one (op_val (v := .bool false) hf58 rfl rfl rfl rfl rfl rfl (r_move rfl) fun ac53 hf59 => ?_)
    refine seq_one (op_skip hf59 rfl rfl rfl rfl fun ac54 hf60 => ?_)
    refine seq_one (op_skip hf60 rfl rfl rfl rfl fun ac55 hf61 => ?_)
    refine seq_one (op_val (v := .bool false) hf61 rfl rfl rfl rfl rfl rfl (r_pickF rfl rfl) fun ac56 hf62 => ?_)
    refine seq_one (op_val (v := .bool false) hf62 rfl rfl rfl rfl rfl rfl (r_assign rfl) fun ac57 hf63 => ?_)
    refine seq_end ?_
    clear ac3 hf3 ac4 hf4 ac5 hf5 hf6 ac6 hf51 ac46 hf52 ac47 hf53 ac48 hf54 ac49 hf55 ac50 hf56 ac51 hf57 ac52 hf58 ac53 hf59 ac54 hf60 ac55 hf61 ac56 hf62
    refine then_normal ?_
    refine code_seq ?_
    refine seq_start (l := [0, 1, 2, 3, 4, 5]) rfl ?_
    refine seq_one (op_val (v := .int .i64 n) hf63 rfl rfl rfl rfl rfl rfl (r_move rfl) fun ac58 hf64 => ?_)
    refine seq_one (op_val (v := .int .i64 q) hf64 rfl rfl rfl rfl rfl rfl (r_move rfl) fun ac59 hf65 => ?_)
    refine seq_one (op_val (v := .agg #[.int .i64 n, .int .i64 q, .slice none 0 0, .slice none 0 0]) hf65 rfl rfl rfl rfl rfl rfl (r_build (v := .agg #[.int .i64 n, .int .i64 q, .slice none 0 0, .slice none 0 0]) rfl (fun _ => by kernel_rfl)) fun ac60 hf66 => ?_)
    refine seq_one (op_val (v := .bool false) hf66 rfl rfl rfl rfl rfl rfl (r_move rfl) fun ac61 hf67 => ?_)
    refine seq_one (op_storeW (cells := #[.int .i64 n, .int .i64 q, .slice none 0 0, .slice none 0 0]) 0 hf67 rfl rfl rfl rfl rfl sz_85 rfl rfl hI3 rfl rfl fun wd5 hI10 => ?_)
    have hI11 : Inv w [(b1, #[.int .i64 n, .int .i64 q, .slice none 0 0, .slice none 0 0], 85)] wd5 := hI10
    refine seq_one (op_val (v := .bool false) hf67 rfl rfl rfl rfl rfl rfl (r_assign rfl) fun ac62 hf68 => ?_)
    refine seq_end ?_
    clear ac57 hf63 ac58 hf64 ac59 hf65 ac60 hf66 wd1 hI3 hI10 ac61 hf67
    refine then_normal ?_
    refine wp_ret ?_
    refine postC1 rfl hf68 rfl ag_85 sz_85 (hI11.at 0 rfl) rfl rfl ⟨?_, hI11.done (fresh_keys (ks := [b1]) rfl (fk_cons hb1 fk_nil))⟩
    rw [show okN n q = false from decide_eq_false (by simp only [decide_eq_true_eq, decide_eq_false_iff_not] at g9_1; omega)]
end Go.Proofs.Ytjelaoblpchmmaa
