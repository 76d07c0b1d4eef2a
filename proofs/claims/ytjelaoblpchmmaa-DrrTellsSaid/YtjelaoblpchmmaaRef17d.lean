/-
  The reference of rounds, fourth part: Leave and Idle.
-/
import Derived.Test.YtjelaoblpchmmaaRef17c
namespace Go.Proofs.Ytjelaoblpchmmaa
set_option linter.unusedVariables false
set_option linter.unusedSimpArgs false
set_option maxRecDepth 100000
open Go.RowKit
set_option maxHeartbeats 8000000 in
theorem rleave_walk {N : Nat} {r : Ro N} {q : Int} (hrq : r.q = q)  {p0 p1 : Option Addr} {c0 c1 : Nat} (hl0 : (r.pl 0).length ≤ c0) (hl1 : (r.pl 1).length ≤ c1) {w : World} (hr0 : Rows_ w p0 2 (prs (r.pl 0))) (hr1 : Rows_ w p1 2 (prs (r.pl 1))) : Calls Try.prog 47 [.agg #[.int .i64 (N : Int), .int .i64 q, .slice p0 ((r.pl 0).length) c0, .slice p1 ((r.pl 1).length) c1]].toArray w fun e w' => ∃ S q0 d0 q1 d1, e = .returned (.tuple #[.agg #[.int .i64 (N : Int), .int .i64 q, .slice q0 (r.leave.pl 0).length d0, .slice q1 (r.leave.pl 1).length d1], .int .i64 r.f, .int .i64 r.leaveC, .bool r.ok]) ∧ Inv w S w' ∧ (∀ x ∈ S, w.heap.size ≤ x.1) ∧ Tr (p0, c0, r.pl 0) (p1, c1, r.pl 1) S q0 d0 (r.leave.pl 0) ∧ Tr (p0, c0, r.pl 0) (p1, c1, r.pl 1) S q1 d1 (r.leave.pl 1) := by
  have hI1 := Inv.start w
  refine enter (n := 23) Try.func47 rfl rfl rfl ?_
  intro ac1 hf1
  refine code_seq ?_
  refine seq_start (l := [0, 1, 2, 3, 4]) rfl ?_
  refine seq_one (op_box hf1 rfl rfl rfl rfl hI1 fun ac2 b1 wd1 hb1 hI2 hf2 => ?_)
  have hI3 : Inv w [(b1, #[.int .i64 (N : Int), .int .i64 q, .slice p0 ((r.pl 0).length) c0, .slice p1 ((r.pl 1).length) c1], 85)] wd1 := hI2
  refine seq_one (op_alloc hf2 rfl rfl rfl ze_85 hI3 fun ac3 b2 wd2 hb2 hI4 hf3 => ?_)
  have hI5 : Inv w [(b1, #[.int .i64 (N : Int), .int .i64 q, .slice p0 ((r.pl 0).length) c0, .slice p1 ((r.pl 1).length) c1], 85), (b2, #[.int .i64 0, .int .i64 0, .slice none 0 0, .slice none 0 0], 85)] wd2 := hI4
  refine seq_one (op_val (v := .int .i64 0) hf3 rfl rfl rfl rfl rfl rfl (r_assign rfl) fun ac4 hf4 => ?_)
  refine seq_one (op_val (v := .int .i64 0) hf4 rfl rfl rfl rfl rfl rfl (r_assign rfl) fun ac5 hf5 => ?_)
  refine seq_one (op_val (v := .bool false) hf5 rfl rfl rfl rfl rfl rfl (r_assign rfl) fun ac6 hf6 => ?_)
  refine seq_end ?_
  clear ac1 hI1 hf1 hI2 ac2 wd1 hI3 hf2 hI4 ac3 hf3 ac4 hf4 ac5 hf5
  refine then_normal ?_
  refine code_seq ?_
  refine code_seq ?_
  refine seq_start (l := [0, 1]) rfl ?_
  refine seq_one (op_val (v := .agg #[.int .i64 (N : Int), .int .i64 q, .slice p0 ((r.pl 0).length) c0, .slice p1 ((r.pl 1).length) c1]) hf6 rfl rfl rfl rfl rfl rfl (r_loadW ag_85 sz_85 rfl (hI5.at 0 rfl) rfl) fun ac7 hf7 => ?_)
  refine seq_one (op_pure hf7 rfl rfl rfl rfl ca_62 (empty_pur (F := (r.pl 0)) (O := (r.pl 1)) (Ro.pl_le r 0) (Ro.pl_le r 1)) hI5 fun ac8 wd3 hI6 hf8 => ?_)
  refine seq_end ?_
  clear ac6 hf6 ac7 wd2 hI5 hf7
  refine then_normal ?_
  refine code_if hf8 rfl (fun c10_1 => ?_) (fun c10_1 => ?_)
  · have hf9 := hf8.know 10 (u := .bool true) rfl (congrArg Value.bool c10_1)
    refine code_seq ?_
    refine seq_start (l := [0, 1, 2, 3, 4]) rfl ?_
    refine seq_one (op_val (v := .agg #[.int .i64 (N : Int), .int .i64 q, .slice p0 ((r.pl 0).length) c0, .slice p1 ((r.pl 1).length) c1]) hf9 rfl rfl rfl rfl rfl rfl (r_loadW ag_85 sz_85 rfl (hI6.at 0 rfl) rfl) fun ac9 hf10 => ?_)
    refine seq_one (op_storeW (cells := #[.int .i64 (N : Int), .int .i64 q, .slice p0 ((r.pl 0).length) c0, .slice p1 ((r.pl 1).length) c1]) 1 hf10 rfl rfl rfl rfl rfl sz_85 rfl rfl hI6 rfl rfl fun wd4 hI7 => ?_)
    have hI8 : Inv w [(b1, #[.int .i64 (N : Int), .int .i64 q, .slice p0 ((r.pl 0).length) c0, .slice p1 ((r.pl 1).length) c1], 85), (b2, #[.int .i64 (N : Int), .int .i64 q, .slice p0 ((r.pl 0).length) c0, .slice p1 ((r.pl 1).length) c1], 85)] wd4 := hI7
    refine seq_one (op_val (v := .int .i64 0) hf10 rfl rfl rfl rfl rfl rfl (r_assign rfl) fun ac10 hf11 => ?_)
    refine seq_one (op_val (v := .int .i64 0) hf11 rfl rfl rfl rfl rfl rfl (r_assign rfl) fun ac11 hf12 => ?_)
    refine seq_one (op_val (v := .bool false) hf12 rfl rfl rfl rfl rfl rfl (r_assign rfl) fun ac12 hf13 => ?_)
    refine seq_end ?_
    clear hf8 ac8 hf9 wd3 hI6 hI7 ac9 hf10 ac10 hf11 ac11 hf12
    refine then_normal ?_
    refine wp_ret ?_
    refine then_ret ?_
    obtain ⟨e0, e1, e2, e3, e4⟩ := Ro.leave_pl0 (r := r) c10_1
    exact postC3 rfl hf13 rfl ag_85 sz_85 (hI8.at 1 rfl) rfl rfl rfl rfl ⟨[], p0, c0, p1, c1, (by rw [e0, e1, e2, e3, e4]), (hI8.done (fresh_keys (ks := [b1, b2]) rfl (fk_cons hb1 (fk_cons hb2 fk_nil)))), (fun _ h => by cases h), by rw [e0]; exact (Tr.fst (a := (p0, c0, (r.pl 0))) (b := (p1, c1, (r.pl 1))) (SS := [])), by rw [e1]; exact (Tr.snd (a := (p0, c0, (r.pl 0))) (b := (p1, c1, (r.pl 1))) (SS := []))⟩
  · have hf14 := hf8.know 10 (u := .bool false) rfl (congrArg Value.bool c10_1)
    refine wp_skip ?_
    refine then_normal ?_
    refine code_seq ?_
    refine seq_start (l := [0, 1, 2, 3, 4, 5, 6, 7, 8, 9, 10]) rfl ?_
    refine seq_one (op_val (v := .agg #[.int .i64 (N : Int), .int .i64 q, .slice p0 ((r.pl 0).length) c0, .slice p1 ((r.pl 1).length) c1]) hf14 rfl rfl rfl rfl rfl rfl (r_loadW ag_85 sz_85 rfl (hI6.at 0 rfl) rfl) fun ac13 hf15 => ?_)
    refine seq_one (op_call (R := fun v w' => ∃ q0 d0 q1 d1, v = .tuple #[.agg #[.int .i64 (N : Int), .int .i64 q, .slice q0 (r.pl 0).tail.length d0, .slice q1 (tO (r.pl 0) (r.pl 1)).length d1], .agg #[.int .i64 (hdP (r.pl 0) (r.pl 1)).1, .int .i64 (hdP (r.pl 0) (r.pl 1)).2], .bool (nF (r.pl 0))] ∧ Tr (p0, c0, (r.pl 0)) (p1, c1, (r.pl 1)) [] q0 d0 (r.pl 0).tail ∧ Tr (p0, c0, (r.pl 0)) (p1, c1, (r.pl 1)) [] q1 d1 (tO (r.pl 0) (r.pl 1)) ∧ Inv _ [] w') hf15 rfl rfl rfl rfl ca_63 ((out_any (F := (r.pl 0)) (O := (r.pl 1)) c10_1 ((Tr.view (Tr.fst (a := (p0, c0, (r.pl 0))) (b := (p1, c1, (r.pl 1))) (SS := [])) (View.start (SS := []) hl0 hr0) (View.start (SS := []) hl1 hr1))).1 ((Tr.view (Tr.snd (a := (p0, c0, (r.pl 0))) (b := (p1, c1, (r.pl 1))) (SS := [])) (View.start (SS := []) hl0 hr0) (View.start (SS := []) hl1 hr1))).1 (Ro.pl_le r 0) (Ro.pl_le r 1) (View.rows (Tr.view (Tr.fst (a := (p0, c0, (r.pl 0))) (b := (p1, c1, (r.pl 1))) (SS := [])) (View.start (SS := []) hl0 hr0) (View.start (SS := []) hl1 hr1)) hI6 (fresh_keys (ks := [b1, b2]) rfl (fk_cons hb1 (fk_cons hb2 fk_nil))) (fun _ h => by cases h)) (View.rows (Tr.view (Tr.snd (a := (p0, c0, (r.pl 0))) (b := (p1, c1, (r.pl 1))) (SS := [])) (View.start (SS := []) hl0 hr0) (View.start (SS := []) hl1 hr1)) hI6 (fresh_keys (ks := [b1, b2]) rfl (fk_cons hb1 (fk_cons hb2 fk_nil))) (fun _ h => by cases h))).mono fun _ _ ⟨q0, d0, q1, d1, he, h1, h2, h3⟩ => ⟨_, he, q0, d0, q1, d1, rfl, h1, h2, h3⟩) fun ac14 v wd5 hR hf16 => ?_)
    obtain ⟨m3, k3, m3', k3', rfl, hta3, htb3, hw3⟩ := hR
    have hI9 := hI6.call0 hw3
    have htc3 := Tr.comp0 (Tr.fst (a := (p0, c0, (r.pl 0))) (b := (p1, c1, (r.pl 1))) (SS := [])) (Tr.snd (a := (p0, c0, (r.pl 0))) (b := (p1, c1, (r.pl 1))) (SS := [])) hta3
    have htd3 := Tr.comp0 (Tr.fst (a := (p0, c0, (r.pl 0))) (b := (p1, c1, (r.pl 1))) (SS := [])) (Tr.snd (a := (p0, c0, (r.pl 0))) (b := (p1, c1, (r.pl 1))) (SS := [])) htb3
    refine seq_one (op_val (v := .tuple #[.agg #[.int .i64 (N : Int), .int .i64 q, .slice m3 ((r.pl 0).tail.length) k3, .slice m3' ((tO (r.pl 0) (r.pl 1)).length) k3'], .agg #[.int .i64 ((hdP (r.pl 0) (r.pl 1)).1), .int .i64 ((hdP (r.pl 0) (r.pl 1)).2)], .bool (nF (r.pl 0))]) hf16 rfl rfl rfl rfl rfl rfl (r_move rfl) fun ac15 hf17 => ?_)
    refine seq_one (op_val (v := .agg #[.int .i64 (N : Int), .int .i64 q, .slice m3 ((r.pl 0).tail.length) k3, .slice m3' ((tO (r.pl 0) (r.pl 1)).length) k3']) hf17 rfl rfl rfl rfl rfl rfl (r_extract rfl rfl) fun ac16 hf18 => ?_)
    refine seq_one (op_val (v := .agg #[.int .i64 ((hdP (r.pl 0) (r.pl 1)).1), .int .i64 ((hdP (r.pl 0) (r.pl 1)).2)]) hf18 rfl rfl rfl rfl rfl rfl (r_extract rfl rfl) fun ac17 hf19 => ?_)
    refine seq_one (op_val (v := .bool (nF (r.pl 0))) hf19 rfl rfl rfl rfl rfl rfl (r_extract rfl rfl) fun ac18 hf20 => ?_)
    refine seq_one (op_alloc hf20 rfl rfl rfl ze_85 hI9 fun ac19 b4 wd6 hb4 hI10 hf21 => ?_)
    have hI11 : Inv w [(b1, #[.int .i64 (N : Int), .int .i64 q, .slice p0 ((r.pl 0).length) c0, .slice p1 ((r.pl 1).length) c1], 85), (b2, #[.int .i64 0, .int .i64 0, .slice none 0 0, .slice none 0 0], 85), (b4, #[.int .i64 0, .int .i64 0, .slice none 0 0, .slice none 0 0], 85)] wd6 := hI10
    refine seq_one (op_alloc hf21 rfl rfl rfl ze_108 hI11 fun ac20 b5 wd7 hb5 hI12 hf22 => ?_)
    have hI13 : Inv w [(b1, #[.int .i64 (N : Int), .int .i64 q, .slice p0 ((r.pl 0).length) c0, .slice p1 ((r.pl 1).length) c1], 85), (b2, #[.int .i64 0, .int .i64 0, .slice none 0 0, .slice none 0 0], 85), (b4, #[.int .i64 0, .int .i64 0, .slice none 0 0, .slice none 0 0], 85), (b5, #[.int .i64 0, .int .i64 0], 108)] wd7 := hI12
    refine seq_one (op_storeW (cells := #[.int .i64 (N : Int), .int .i64 q, .slice m3 ((r.pl 0).tail.length) k3, .slice m3' ((tO (r.pl 0) (r.pl 1)).length) k3']) 2 hf22 rfl rfl rfl rfl rfl sz_85 rfl rfl hI13 rfl rfl fun wd8 hI14 => ?_)
    have hI15 : Inv w [(b1, #[.int .i64 (N : Int), .int .i64 q, .slice p0 ((r.pl 0).length) c0, .slice p1 ((r.pl 1).length) c1], 85), (b2, #[.int .i64 0, .int .i64 0, .slice none 0 0, .slice none 0 0], 85), (b4, #[.int .i64 (N : Int), .int .i64 q, .slice m3 ((r.pl 0).tail.length) k3, .slice m3' ((tO (r.pl 0) (r.pl 1)).length) k3'], 85), (b5, #[.int .i64 0, .int .i64 0], 108)] wd8 := hI14
    refine seq_one (op_storeW (cells := #[.int .i64 ((hdP (r.pl 0) (r.pl 1)).1), .int .i64 ((hdP (r.pl 0) (r.pl 1)).2)]) 3 hf22 rfl rfl rfl rfl rfl sz_108 rfl rfl hI15 rfl rfl fun wd9 hI16 => ?_)
    have hI17 : Inv w [(b1, #[.int .i64 (N : Int), .int .i64 q, .slice p0 ((r.pl 0).length) c0, .slice p1 ((r.pl 1).length) c1], 85), (b2, #[.int .i64 0, .int .i64 0, .slice none 0 0, .slice none 0 0], 85), (b4, #[.int .i64 (N : Int), .int .i64 q, .slice m3 ((r.pl 0).tail.length) k3, .slice m3' ((tO (r.pl 0) (r.pl 1)).length) k3'], 85), (b5, #[.int .i64 ((hdP (r.pl 0) (r.pl 1)).1), .int .i64 ((hdP (r.pl 0) (r.pl 1)).2)], 108)] wd9 := hI16
    refine seq_one (op_val (v := .bool (nF (r.pl 0))) hf22 rfl rfl rfl rfl rfl rfl (r_assign rfl) fun ac21 hf23 => ?_)
    refine seq_end ?_
    clear hf8 ac8 hf14 ac13 wd3 hf15 hI6 hw3 ac14 hf16 ac15 hf17 ac16 hf18 ac17 hf19 ac18 wd5 hI9 hf20 hI10 ac19 wd6 hI11 hf21 hI12 wd7 hI13 hI14 wd8 hI15 hI16 ac20 hf22
    refine then_normal ?_
    refine code_seq ?_
    refine any_start (fun w => Has [(b4, #[.int .i64 (N : Int), .int .i64 q, .slice m3 ((r.pl 0).tail.length) k3, .slice m3' ((tO (r.pl 0) (r.pl 1)).length) k3'], 85), (b5, #[.int .i64 ((hdP (r.pl 0) (r.pl 1)).1), .int .i64 ((hdP (r.pl 0) (r.pl 1)).2)], 108)] w) follows (Has.drew (Has.cons (hI17.at 2 rfl) (Has.cons (hI17.at 3 rfl) Has.nil))) ?_
    have hS1 : Has [(b4, #[.int .i64 (N : Int), .int .i64 q, .slice m3 ((r.pl 0).tail.length) k3, .slice m3' ((tO (r.pl 0) (r.pl 1)).length) k3'], 85), (b5, #[.int .i64 ((hdP (r.pl 0) (r.pl 1)).1), .int .i64 ((hdP (r.pl 0) (r.pl 1)).2)], 108)] _ := Has.drew (Has.cons (hI17.at 2 rfl) (Has.cons (hI17.at 3 rfl) Has.nil))
    have hI18 := hI17.drew
    refine any_val (i := 0) (v := .agg #[.int .i64 (N : Int), .int .i64 q, .slice m3 ((r.pl 0).tail.length) k3, .slice m3' ((tO (r.pl 0) (r.pl 1)).length) k3']) hf23 rfl rfl rfl rfl rfl rfl (fun _ _ _ h => h) (by kernel_rfl) (by kernel_rfl) (by kernel_rfl) (fun wd9 hS1 => (r_loadW ag_85 sz_85 rfl (hS1.at 0 rfl) rfl)) hS1 fun ac22 hf24 => ?_
    refine any_val (i := 1) (v := .pointer (some ⟨b5, 0, none⟩)) hf24 rfl rfl rfl rfl rfl rfl (fun _ _ _ h => h) (by kernel_rfl) (by kernel_rfl) (by kernel_rfl) (fun wd9 hS1 => (r_fieldAddr fi_108_0 rfl rfl)) hS1 fun ac23 hf25 => ?_
    refine any_val (i := 2) (v := .int .i64 ((hdP (r.pl 0) (r.pl 1)).1)) hf25 rfl rfl rfl rfl rfl rfl (fun _ _ _ h => h) (by kernel_rfl) (by kernel_rfl) (by kernel_rfl) (fun wd9 hS1 => (r_load ag_3 rfl (hS1.at 1 rfl) rfl)) hS1 fun ac24 hf26 => ?_
    refine any_val (i := 3) (v := .pointer (some ⟨b5, 1, none⟩)) hf26 rfl rfl rfl rfl rfl rfl (fun _ _ _ h => h) (by kernel_rfl) (by kernel_rfl) (by kernel_rfl) (fun wd9 hS1 => (r_fieldAddr fi_108_1 rfl rfl)) hS1 fun ac25 hf27 => ?_
    refine any_val (i := 4) (v := .int .i64 ((hdP (r.pl 0) (r.pl 1)).2)) hf27 rfl rfl rfl rfl rfl rfl (fun _ _ _ h => h) (by kernel_rfl) (by kernel_rfl) (by kernel_rfl) (fun wd9 hS1 => (r_load ag_3 rfl (hS1.at 1 rfl) rfl)) hS1 fun ac26 hf28 => ?_
    refine any_one (i := 5) (by kernel_rfl) ?_
    refine (op_storeW (cells := #[.int .i64 (N : Int), .int .i64 q, .slice m3 ((r.pl 0).tail.length) k3, .slice m3' ((tO (r.pl 0) (r.pl 1)).length) k3']) 1 hf28 rfl rfl rfl rfl rfl sz_85 rfl rfl hI18 rfl rfl fun wd10 hI19 => ⟨?_, ?_⟩)
    · exact (Has.cons (hI19.at 2 rfl) (Has.cons (hI19.at 3 rfl) Has.nil))
    have hI20 : Inv w [(b1, #[.int .i64 (N : Int), .int .i64 q, .slice p0 ((r.pl 0).length) c0, .slice p1 ((r.pl 1).length) c1], 85), (b2, #[.int .i64 (N : Int), .int .i64 q, .slice m3 ((r.pl 0).tail.length) k3, .slice m3' ((tO (r.pl 0) (r.pl 1)).length) k3'], 85), (b4, #[.int .i64 (N : Int), .int .i64 q, .slice m3 ((r.pl 0).tail.length) k3, .slice m3' ((tO (r.pl 0) (r.pl 1)).length) k3'], 85), (b5, #[.int .i64 ((hdP (r.pl 0) (r.pl 1)).1), .int .i64 ((hdP (r.pl 0) (r.pl 1)).2)], 108)] wd10 := hI19
    have hS2 : Has [(b4, #[.int .i64 (N : Int), .int .i64 q, .slice m3 ((r.pl 0).tail.length) k3, .slice m3' ((tO (r.pl 0) (r.pl 1)).length) k3'], 85), (b5, #[.int .i64 ((hdP (r.pl 0) (r.pl 1)).1), .int .i64 ((hdP (r.pl 0) (r.pl 1)).2)], 108)] _ := (Has.cons (hI20.at 2 rfl) (Has.cons (hI20.at 3 rfl) Has.nil))
    refine any_val (i := 6) (v := .int .i64 ((hdP (r.pl 0) (r.pl 1)).1)) hf28 rfl rfl rfl rfl rfl rfl (fun _ _ _ h => h) (by kernel_rfl) (by kernel_rfl) (by kernel_rfl) (fun wd10 hS2 => (r_assign rfl)) hS2 fun ac27 hf29 => ?_
    refine any_val (i := 7) (v := .int .i64 ((hdP (r.pl 0) (r.pl 1)).2)) hf29 rfl rfl rfl rfl rfl rfl (fun _ _ _ h => h) (by kernel_rfl) (by kernel_rfl) (by kernel_rfl) (fun wd10 hS2 => (r_assign rfl)) hS2 fun ac28 hf30 => ?_
    refine any_val (i := 8) (v := .bool true) hf30 rfl rfl rfl rfl rfl rfl (fun _ _ _ h => h) (by kernel_rfl) (by kernel_rfl) (by kernel_rfl) (fun wd10 hS2 => (r_assign rfl)) hS2 fun ac29 hf31 => ?_
    refine any_end (by kernel_rfl) ?_
    clear hI17 ac21 hf23 ac22 hf24 ac23 hf25 ac24 hf26 ac25 hf27 wd9 hI18 hI19 hS1 ac26 hf28 ac27 hf29 ac28 hf30 hS2
    refine then_normal ?_
    refine wp_ret ?_
    obtain ⟨e0, e1, e2, e3, e4⟩ := Ro.leave_pl (r := r) c10_1
    exact postC3 rfl hf31 rfl ag_85 sz_85 (hI20.at 1 rfl) rfl rfl rfl rfl ⟨[], m3, k3, m3', k3', (by rw [e0, e1, e2, e3, e4]), (hI20.done (fresh_keys (ks := [b1, b2, b4, b5]) rfl (fk_cons hb1 (fk_cons hb2 (fk_cons hb4 (fk_cons hb5 fk_nil)))))), (fun _ h => by cases h), by rw [e0]; exact htc3, by rw [e1]; exact htd3⟩
set_option maxHeartbeats 8000000 in
theorem ridle_walk {N : Nat} {r : Ro N} {q : Int} (hrq : r.q = q)  {p0 p1 : Option Addr} {c0 c1 : Nat} (hl0 : (r.pl 0).length ≤ c0) (hl1 : (r.pl 1).length ≤ c1) {w : World} (hr0 : Rows_ w p0 2 (prs (r.pl 0))) (hr1 : Rows_ w p1 2 (prs (r.pl 1))) : Calls Try.prog 48 [.agg #[.int .i64 (N : Int), .int .i64 q, .slice p0 ((r.pl 0).length) c0, .slice p1 ((r.pl 1).length) c1]].toArray w fun e w' => ∃ S q0 d0 q1 d1, e = .returned (.tuple #[.agg #[.int .i64 (N : Int), .int .i64 q, .slice q0 (r.idle.pl 0).length d0, .slice q1 (r.idle.pl 1).length d1], .int .i64 r.f, .bool r.idleL, .bool r.ok]) ∧ Inv w S w' ∧ (∀ x ∈ S, w.heap.size ≤ x.1) ∧ Tr (p0, c0, r.pl 0) (p1, c1, r.pl 1) S q0 d0 (r.idle.pl 0) ∧ Tr (p0, c0, r.pl 0) (p1, c1, r.pl 1) S q1 d1 (r.idle.pl 1) := by
  have hI1 := Inv.start w
  refine enter (n := 29) Try.func48 rfl rfl rfl ?_
  intro ac1 hf1
  refine code_seq ?_
  refine seq_start (l := [0, 1, 2, 3, 4]) rfl ?_
  refine seq_one (op_box hf1 rfl rfl rfl rfl hI1 fun ac2 b1 wd1 hb1 hI2 hf2 => ?_)
  have hI3 : Inv w [(b1, #[.int .i64 (N : Int), .int .i64 q, .slice p0 ((r.pl 0).length) c0, .slice p1 ((r.pl 1).length) c1], 85)] wd1 := hI2
  refine seq_one (op_alloc hf2 rfl rfl rfl ze_85 hI3 fun ac3 b2 wd2 hb2 hI4 hf3 => ?_)
  have hI5 : Inv w [(b1, #[.int .i64 (N : Int), .int .i64 q, .slice p0 ((r.pl 0).length) c0, .slice p1 ((r.pl 1).length) c1], 85), (b2, #[.int .i64 0, .int .i64 0, .slice none 0 0, .slice none 0 0], 85)] wd2 := hI4
  refine seq_one (op_val (v := .int .i64 0) hf3 rfl rfl rfl rfl rfl rfl (r_assign rfl) fun ac4 hf4 => ?_)
  refine seq_one (op_val (v := .bool false) hf4 rfl rfl rfl rfl rfl rfl (r_assign rfl) fun ac5 hf5 => ?_)
  refine seq_one (op_val (v := .bool false) hf5 rfl rfl rfl rfl rfl rfl (r_assign rfl) fun ac6 hf6 => ?_)
  refine seq_end ?_
  clear ac1 hI1 hf1 hI2 ac2 wd1 hI3 hf2 hI4 ac3 hf3 ac4 hf4 ac5 hf5
  refine then_normal ?_
  refine code_seq ?_
  refine code_seq ?_
  refine seq_start (l := [0, 1]) rfl ?_
  refine seq_one (op_val (v := .agg #[.int .i64 (N : Int), .int .i64 q, .slice p0 ((r.pl 0).length) c0, .slice p1 ((r.pl 1).length) c1]) hf6 rfl rfl rfl rfl rfl rfl (r_loadW ag_85 sz_85 rfl (hI5.at 0 rfl) rfl) fun ac7 hf7 => ?_)
  refine seq_one (op_pure hf7 rfl rfl rfl rfl ca_62 (empty_pur (F := (r.pl 0)) (O := (r.pl 1)) (Ro.pl_le r 0) (Ro.pl_le r 1)) hI5 fun ac8 wd3 hI6 hf8 => ?_)
  refine seq_end ?_
  clear ac6 hf6 ac7 wd2 hI5 hf7
  refine then_normal ?_
  refine code_if hf8 rfl (fun c10_1 => ?_) (fun c10_1 => ?_)
  · have hf9 := hf8.know 10 (u := .bool true) rfl (congrArg Value.bool c10_1)
    refine code_seq ?_
    refine seq_start (l := [0, 1, 2, 3, 4]) rfl ?_
    refine seq_one (op_val (v := .agg #[.int .i64 (N : Int), .int .i64 q, .slice p0 ((r.pl 0).length) c0, .slice p1 ((r.pl 1).length) c1]) hf9 rfl rfl rfl rfl rfl rfl (r_loadW ag_85 sz_85 rfl (hI6.at 0 rfl) rfl) fun ac9 hf10 => ?_)
    refine seq_one (op_storeW (cells := #[.int .i64 (N : Int), .int .i64 q, .slice p0 ((r.pl 0).length) c0, .slice p1 ((r.pl 1).length) c1]) 1 hf10 rfl rfl rfl rfl rfl sz_85 rfl rfl hI6 rfl rfl fun wd4 hI7 => ?_)
    have hI8 : Inv w [(b1, #[.int .i64 (N : Int), .int .i64 q, .slice p0 ((r.pl 0).length) c0, .slice p1 ((r.pl 1).length) c1], 85), (b2, #[.int .i64 (N : Int), .int .i64 q, .slice p0 ((r.pl 0).length) c0, .slice p1 ((r.pl 1).length) c1], 85)] wd4 := hI7
    refine seq_one (op_val (v := .int .i64 0) hf10 rfl rfl rfl rfl rfl rfl (r_assign rfl) fun ac10 hf11 => ?_)
    refine seq_one (op_val (v := .bool false) hf11 rfl rfl rfl rfl rfl rfl (r_assign rfl) fun ac11 hf12 => ?_)
    refine seq_one (op_val (v := .bool false) hf12 rfl rfl rfl rfl rfl rfl (r_assign rfl) fun ac12 hf13 => ?_)
    refine seq_end ?_
    clear hf8 ac8 hf9 wd3 hI6 hI7 ac9 hf10 ac10 hf11 ac11 hf12
    refine then_normal ?_
    refine wp_ret ?_
    refine then_ret ?_
    obtain ⟨e0, e1, e2, e3, e4⟩ := Ro.idle_pl0 (r := r) c10_1
    exact postC3 rfl hf13 rfl ag_85 sz_85 (hI8.at 1 rfl) rfl rfl rfl rfl ⟨[], p0, c0, p1, c1, (by rw [e0, e1, e2, e3, e4]), (hI8.done (fresh_keys (ks := [b1, b2]) rfl (fk_cons hb1 (fk_cons hb2 fk_nil)))), (fun _ h => by cases h), by rw [e0]; exact (Tr.fst (a := (p0, c0, (r.pl 0))) (b := (p1, c1, (r.pl 1))) (SS := [])), by rw [e1]; exact (Tr.snd (a := (p0, c0, (r.pl 0))) (b := (p1, c1, (r.pl 1))) (SS := []))⟩
  · have hf14 := hf8.know 10 (u := .bool false) rfl (congrArg Value.bool c10_1)
    refine wp_skip ?_
    refine then_normal ?_
    refine code_seq ?_
    refine seq_start (l := [0, 1, 2, 3, 4, 5, 6, 7, 8, 9, 10]) rfl ?_
    refine seq_one (op_val (v := .agg #[.int .i64 (N : Int), .int .i64 q, .slice p0 ((r.pl 0).length) c0, .slice p1 ((r.pl 1).length) c1]) hf14 rfl rfl rfl rfl rfl rfl (r_loadW ag_85 sz_85 rfl (hI6.at 0 rfl) rfl) fun ac13 hf15 => ?_)
    refine seq_one (op_call (R := fun v w' => ∃ q0 d0 q1 d1, v = .tuple #[.agg #[.int .i64 (N : Int), .int .i64 q, .slice q0 (r.pl 0).tail.length d0, .slice q1 (tO (r.pl 0) (r.pl 1)).length d1], .agg #[.int .i64 (hdP (r.pl 0) (r.pl 1)).1, .int .i64 (hdP (r.pl 0) (r.pl 1)).2], .bool (nF (r.pl 0))] ∧ Tr (p0, c0, (r.pl 0)) (p1, c1, (r.pl 1)) [] q0 d0 (r.pl 0).tail ∧ Tr (p0, c0, (r.pl 0)) (p1, c1, (r.pl 1)) [] q1 d1 (tO (r.pl 0) (r.pl 1)) ∧ Inv _ [] w') hf15 rfl rfl rfl rfl ca_63 ((out_any (F := (r.pl 0)) (O := (r.pl 1)) c10_1 ((Tr.view (Tr.fst (a := (p0, c0, (r.pl 0))) (b := (p1, c1, (r.pl 1))) (SS := [])) (View.start (SS := []) hl0 hr0) (View.start (SS := []) hl1 hr1))).1 ((Tr.view (Tr.snd (a := (p0, c0, (r.pl 0))) (b := (p1, c1, (r.pl 1))) (SS := [])) (View.start (SS := []) hl0 hr0) (View.start (SS := []) hl1 hr1))).1 (Ro.pl_le r 0) (Ro.pl_le r 1) (View.rows (Tr.view (Tr.fst (a := (p0, c0, (r.pl 0))) (b := (p1, c1, (r.pl 1))) (SS := [])) (View.start (SS := []) hl0 hr0) (View.start (SS := []) hl1 hr1)) hI6 (fresh_keys (ks := [b1, b2]) rfl (fk_cons hb1 (fk_cons hb2 fk_nil))) (fun _ h => by cases h)) (View.rows (Tr.view (Tr.snd (a := (p0, c0, (r.pl 0))) (b := (p1, c1, (r.pl 1))) (SS := [])) (View.start (SS := []) hl0 hr0) (View.start (SS := []) hl1 hr1)) hI6 (fresh_keys (ks := [b1, b2]) rfl (fk_cons hb1 (fk_cons hb2 fk_nil))) (fun _ h => by cases h))).mono fun _ _ ⟨q0, d0, q1, d1, he, h1, h2, h3⟩ => ⟨_, he, q0, d0, q1, d1, rfl, h1, h2, h3⟩) fun ac14 v wd5 hR hf16 => ?_)
    obtain ⟨m3, k3, m3', k3', rfl, hta3, htb3, hw3⟩ := hR
    have hI9 := hI6.call0 hw3
    have htc3 := Tr.comp0 (Tr.fst (a := (p0, c0, (r.pl 0))) (b := (p1, c1, (r.pl 1))) (SS := [])) (Tr.snd (a := (p0, c0, (r.pl 0))) (b := (p1, c1, (r.pl 1))) (SS := [])) hta3
    have htd3 := Tr.comp0 (Tr.fst (a := (p0, c0, (r.pl 0))) (b := (p1, c1, (r.pl 1))) (SS := [])) (Tr.snd (a := (p0, c0, (r.pl 0))) (b := (p1, c1, (r.pl 1))) (SS := [])) htb3
    refine seq_one (op_val (v := .tuple #[.agg #[.int .i64 (N : Int), .int .i64 q, .slice m3 ((r.pl 0).tail.length) k3, .slice m3' ((tO (r.pl 0) (r.pl 1)).length) k3'], .agg #[.int .i64 ((hdP (r.pl 0) (r.pl 1)).1), .int .i64 ((hdP (r.pl 0) (r.pl 1)).2)], .bool (nF (r.pl 0))]) hf16 rfl rfl rfl rfl rfl rfl (r_move rfl) fun ac15 hf17 => ?_)
    refine seq_one (op_val (v := .agg #[.int .i64 (N : Int), .int .i64 q, .slice m3 ((r.pl 0).tail.length) k3, .slice m3' ((tO (r.pl 0) (r.pl 1)).length) k3']) hf17 rfl rfl rfl rfl rfl rfl (r_extract rfl rfl) fun ac16 hf18 => ?_)
    refine seq_one (op_val (v := .agg #[.int .i64 ((hdP (r.pl 0) (r.pl 1)).1), .int .i64 ((hdP (r.pl 0) (r.pl 1)).2)]) hf18 rfl rfl rfl rfl rfl rfl (r_extract rfl rfl) fun ac17 hf19 => ?_)
    refine seq_one (op_val (v := .bool (nF (r.pl 0))) hf19 rfl rfl rfl rfl rfl rfl (r_extract rfl rfl) fun ac18 hf20 => ?_)
    refine seq_one (op_alloc hf20 rfl rfl rfl ze_85 hI9 fun ac19 b4 wd6 hb4 hI10 hf21 => ?_)
    have hI11 : Inv w [(b1, #[.int .i64 (N : Int), .int .i64 q, .slice p0 ((r.pl 0).length) c0, .slice p1 ((r.pl 1).length) c1], 85), (b2, #[.int .i64 0, .int .i64 0, .slice none 0 0, .slice none 0 0], 85), (b4, #[.int .i64 0, .int .i64 0, .slice none 0 0, .slice none 0 0], 85)] wd6 := hI10
    refine seq_one (op_alloc hf21 rfl rfl rfl ze_108 hI11 fun ac20 b5 wd7 hb5 hI12 hf22 => ?_)
    have hI13 : Inv w [(b1, #[.int .i64 (N : Int), .int .i64 q, .slice p0 ((r.pl 0).length) c0, .slice p1 ((r.pl 1).length) c1], 85), (b2, #[.int .i64 0, .int .i64 0, .slice none 0 0, .slice none 0 0], 85), (b4, #[.int .i64 0, .int .i64 0, .slice none 0 0, .slice none 0 0], 85), (b5, #[.int .i64 0, .int .i64 0], 108)] wd7 := hI12
    refine seq_one (op_storeW (cells := #[.int .i64 (N : Int), .int .i64 q, .slice m3 ((r.pl 0).tail.length) k3, .slice m3' ((tO (r.pl 0) (r.pl 1)).length) k3']) 2 hf22 rfl rfl rfl rfl rfl sz_85 rfl rfl hI13 rfl rfl fun wd8 hI14 => ?_)
    have hI15 : Inv w [(b1, #[.int .i64 (N : Int), .int .i64 q, .slice p0 ((r.pl 0).length) c0, .slice p1 ((r.pl 1).length) c1], 85), (b2, #[.int .i64 0, .int .i64 0, .slice none 0 0, .slice none 0 0], 85), (b4, #[.int .i64 (N : Int), .int .i64 q, .slice m3 ((r.pl 0).tail.length) k3, .slice m3' ((tO (r.pl 0) (r.pl 1)).length) k3'], 85), (b5, #[.int .i64 0, .int .i64 0], 108)] wd8 := hI14
    refine seq_one (op_storeW (cells := #[.int .i64 ((hdP (r.pl 0) (r.pl 1)).1), .int .i64 ((hdP (r.pl 0) (r.pl 1)).2)]) 3 hf22 rfl rfl rfl rfl rfl sz_108 rfl rfl hI15 rfl rfl fun wd9 hI16 => ?_)
    have hI17 : Inv w [(b1, #[.int .i64 (N : Int), .int .i64 q, .slice p0 ((r.pl 0).length) c0, .slice p1 ((r.pl 1).length) c1], 85), (b2, #[.int .i64 0, .int .i64 0, .slice none 0 0, .slice none 0 0], 85), (b4, #[.int .i64 (N : Int), .int .i64 q, .slice m3 ((r.pl 0).tail.length) k3, .slice m3' ((tO (r.pl 0) (r.pl 1)).length) k3'], 85), (b5, #[.int .i64 ((hdP (r.pl 0) (r.pl 1)).1), .int .i64 ((hdP (r.pl 0) (r.pl 1)).2)], 108)] wd9 := hI16
    refine seq_one (op_val (v := .bool (nF (r.pl 0))) hf22 rfl rfl rfl rfl rfl rfl (r_assign rfl) fun ac21 hf23 => ?_)
    refine seq_end ?_
    clear hf8 ac8 hf14 ac13 wd3 hf15 hI6 hw3 ac14 hf16 ac15 hf17 ac16 hf18 ac17 hf19 ac18 wd5 hI9 hf20 hI10 ac19 wd6 hI11 hf21 hI12 wd7 hI13 hI14 wd8 hI15 hI16 ac20 hf22
    refine then_normal ?_
    refine code_seq ?_
    refine code_seq ?_
    refine seq_start (l := [0]) rfl ?_
    refine seq_one (op_val (v := .bool (nF (r.pl 0))) hf23 rfl rfl rfl rfl rfl rfl (r_move rfl) fun ac22 hf24 => ?_)
    refine seq_end ?_
    clear ac21 hf23
    refine then_normal ?_
    refine code_if hf24 rfl (fun c18_2 => ?_) (fun c18_2 => ?_)
    · have hf25 := hf24.know 18 (u := .bool true) rfl (congrArg Value.bool c18_2)
      refine seq_start (l := [0, 1, 2, 3, 4, 5]) rfl ?_
      refine seq_one (op_val (v := .pointer (some ⟨b4, 3, none⟩)) hf25 rfl rfl rfl rfl rfl rfl (r_fieldAddr fi_85_3 rfl rfl) fun ac23 hf26 => ?_)
      refine seq_one (op_val (v := .slice m3' ((tO (r.pl 0) (r.pl 1)).length) k3') hf26 rfl rfl rfl rfl rfl rfl (r_load ag_83 rfl (hI17.at 2 rfl) rfl) fun ac24 hf27 => ?_)
      refine seq_one (op_val (v := .agg #[.int .i64 ((hdP (r.pl 0) (r.pl 1)).1), .int .i64 ((hdP (r.pl 0) (r.pl 1)).2)]) hf27 rfl rfl rfl rfl rfl rfl (r_loadW ag_108 sz_108 rfl (hI17.at 3 rfl) rfl) fun ac25 hf28 => ?_)
      refine seq_one (op_call (R := fun v w' => ∃ S p cap, v = .slice p ((tO (r.pl 0) (r.pl 1)) ++ [((hdP (r.pl 0) (r.pl 1)).1, (hdP (r.pl 0) (r.pl 1)).2)]).length cap ∧ Sp 108 S p cap ((tO (r.pl 0) (r.pl 1)) ++ [((hdP (r.pl 0) (r.pl 1)).1, (hdP (r.pl 0) (r.pl 1)).2)]) ∧ Inv _ S w' ∧ ∀ x ∈ S, Array.size (World.heap _) ≤ x.1) hf28 rfl rfl rfl rfl ca_61 ((with_walk (F := (tO (r.pl 0) (r.pl 1))) (x := (hdP (r.pl 0) (r.pl 1)).1) (y := (hdP (r.pl 0) (r.pl 1)).2) ((Tr.view htd3 (View.start (SS := []) hl0 hr0) (View.start (SS := []) hl1 hr1))).1 (Ro.tl_le r).2 (View.rows (Tr.view htd3 (View.start (SS := []) hl0 hr0) (View.start (SS := []) hl1 hr1)) hI17 (fresh_keys (ks := [b1, b2, b4, b5]) rfl (fk_cons hb1 (fk_cons hb2 (fk_cons hb4 (fk_cons hb5 fk_nil))))) (fun _ h => by cases h))).mono fun _ _ ⟨S, p, cap, he, h1, h3, h4⟩ => ⟨_, he, S, p, cap, rfl, h1, h3, h4⟩) fun ac26 v wd10 hR hf29 => ?_)
      obtain ⟨Sq6, q6, capq6, rfl, hsq6, hwq6, hzq6⟩ := hR
      have hyq6 := fk_le hI17.size hzq6
      have hI18 : Inv w ([(b1, #[.int .i64 (N : Int), .int .i64 q, .slice p0 ((r.pl 0).length) c0, .slice p1 ((r.pl 1).length) c1], 85), (b2, #[.int .i64 0, .int .i64 0, .slice none 0 0, .slice none 0 0], 85), (b4, #[.int .i64 (N : Int), .int .i64 q, .slice m3 ((r.pl 0).tail.length) k3, .slice m3' ((tO (r.pl 0) (r.pl 1)).length) k3'], 85), (b5, #[.int .i64 ((hdP (r.pl 0) (r.pl 1)).1), .int .i64 ((hdP (r.pl 0) (r.pl 1)).2)], 108)] ++ Sq6) _ := hI17.callN hwq6 hzq6
      refine seq_one (op_val (v := .pointer (some ⟨b4, 3, none⟩)) hf29 rfl rfl rfl rfl rfl rfl (r_fieldAddr fi_85_3 rfl rfl) fun ac27 hf30 => ?_)
      refine seq_one (op_store (cs' := #[.int .i64 (N : Int), .int .i64 q, .slice m3 ((r.pl 0).tail.length) k3, .slice q6 (((tO (r.pl 0) (r.pl 1)) ++ [((hdP (r.pl 0) (r.pl 1)).1, (hdP (r.pl 0) (r.pl 1)).2)]).length) capq6]) 2 hf30 rfl rfl rfl rfl rfl sz_83 hI18 rfl (ltb rfl) (by kernel_rfl) fun wd11 hI19 => ?_)
      have hI20 : Inv w ([(b1, #[.int .i64 (N : Int), .int .i64 q, .slice p0 ((r.pl 0).length) c0, .slice p1 ((r.pl 1).length) c1], 85), (b2, #[.int .i64 0, .int .i64 0, .slice none 0 0, .slice none 0 0], 85), (b4, #[.int .i64 (N : Int), .int .i64 q, .slice m3 ((r.pl 0).tail.length) k3, .slice q6 (((tO (r.pl 0) (r.pl 1)) ++ [((hdP (r.pl 0) (r.pl 1)).1, (hdP (r.pl 0) (r.pl 1)).2)]).length) capq6], 85), (b5, #[.int .i64 ((hdP (r.pl 0) (r.pl 1)).1), .int .i64 ((hdP (r.pl 0) (r.pl 1)).2)], 108)] ++ Sq6) wd11 := hI19
      refine seq_end ?_
      clear hf24 ac22 hf25 ac23 hf26 ac24 hf27 ac25 wd9 hf28 hI17 hwq6 hzq6 ac26 hf29 wd10 hI18 hI19
      refine then_normal ?_
      refine code_seq ?_
      refine any_start (fun w => Has [(b4, #[.int .i64 (N : Int), .int .i64 q, .slice m3 ((r.pl 0).tail.length) k3, .slice q6 (((tO (r.pl 0) (r.pl 1)) ++ [((hdP (r.pl 0) (r.pl 1)).1, (hdP (r.pl 0) (r.pl 1)).2)]).length) capq6], 85), (b5, #[.int .i64 ((hdP (r.pl 0) (r.pl 1)).1), .int .i64 ((hdP (r.pl 0) (r.pl 1)).2)], 108)] w) follows (Has.drew (Has.cons (hI20.at 2 rfl) (Has.cons (hI20.at 3 rfl) Has.nil))) ?_
      have hS1 : Has [(b4, #[.int .i64 (N : Int), .int .i64 q, .slice m3 ((r.pl 0).tail.length) k3, .slice q6 (((tO (r.pl 0) (r.pl 1)) ++ [((hdP (r.pl 0) (r.pl 1)).1, (hdP (r.pl 0) (r.pl 1)).2)]).length) capq6], 85), (b5, #[.int .i64 ((hdP (r.pl 0) (r.pl 1)).1), .int .i64 ((hdP (r.pl 0) (r.pl 1)).2)], 108)] _ := Has.drew (Has.cons (hI20.at 2 rfl) (Has.cons (hI20.at 3 rfl) Has.nil))
      have hI21 := hI20.drew
      refine any_val (i := 0) (v := .agg #[.int .i64 (N : Int), .int .i64 q, .slice m3 ((r.pl 0).tail.length) k3, .slice q6 (((tO (r.pl 0) (r.pl 1)) ++ [((hdP (r.pl 0) (r.pl 1)).1, (hdP (r.pl 0) (r.pl 1)).2)]).length) capq6]) hf30 rfl rfl rfl rfl rfl rfl (fun _ _ _ h => h) (by kernel_rfl) (by kernel_rfl) (by kernel_rfl) (fun wd11 hS1 => (r_loadW ag_85 sz_85 rfl (hS1.at 0 rfl) rfl)) hS1 fun ac28 hf31 => ?_
      refine any_val (i := 1) (v := .pointer (some ⟨b5, 0, none⟩)) hf31 rfl rfl rfl rfl rfl rfl (fun _ _ _ h => h) (by kernel_rfl) (by kernel_rfl) (by kernel_rfl) (fun wd11 hS1 => (r_fieldAddr fi_108_0 rfl rfl)) hS1 fun ac29 hf32 => ?_
      refine any_val (i := 2) (v := .int .i64 ((hdP (r.pl 0) (r.pl 1)).1)) hf32 rfl rfl rfl rfl rfl rfl (fun _ _ _ h => h) (by kernel_rfl) (by kernel_rfl) (by kernel_rfl) (fun wd11 hS1 => (r_load ag_3 rfl (hS1.at 1 rfl) rfl)) hS1 fun ac30 hf33 => ?_
      refine any_val (i := 3) (v := .bool (nF (r.pl 0))) hf33 rfl rfl rfl rfl rfl rfl (fun _ _ _ h => h) (by kernel_rfl) (by kernel_rfl) (by kernel_rfl) (fun wd11 hS1 => (r_move rfl)) hS1 fun ac31 hf34 => ?_
      refine any_val (i := 4) (v := .bool (!(nF (r.pl 0)))) hf34 rfl rfl rfl rfl rfl rfl (fun _ _ _ h => h) (by kernel_rfl) (by kernel_rfl) (by kernel_rfl) (fun wd11 hS1 => (r_not rfl)) hS1 fun ac32 hf35 => ?_
      refine any_one (i := 5) (by kernel_rfl) ?_
      refine (op_storeW (cells := #[.int .i64 (N : Int), .int .i64 q, .slice m3 ((r.pl 0).tail.length) k3, .slice q6 (((tO (r.pl 0) (r.pl 1)) ++ [((hdP (r.pl 0) (r.pl 1)).1, (hdP (r.pl 0) (r.pl 1)).2)]).length) capq6]) 1 hf35 rfl rfl rfl rfl rfl sz_85 rfl rfl hI21 rfl rfl fun wd12 hI22 => ⟨?_, ?_⟩)
      · exact (Has.cons (hI22.at 2 rfl) (Has.cons (hI22.at 3 rfl) Has.nil))
      have hI23 : Inv w ([(b1, #[.int .i64 (N : Int), .int .i64 q, .slice p0 ((r.pl 0).length) c0, .slice p1 ((r.pl 1).length) c1], 85), (b2, #[.int .i64 (N : Int), .int .i64 q, .slice m3 ((r.pl 0).tail.length) k3, .slice q6 (((tO (r.pl 0) (r.pl 1)) ++ [((hdP (r.pl 0) (r.pl 1)).1, (hdP (r.pl 0) (r.pl 1)).2)]).length) capq6], 85), (b4, #[.int .i64 (N : Int), .int .i64 q, .slice m3 ((r.pl 0).tail.length) k3, .slice q6 (((tO (r.pl 0) (r.pl 1)) ++ [((hdP (r.pl 0) (r.pl 1)).1, (hdP (r.pl 0) (r.pl 1)).2)]).length) capq6], 85), (b5, #[.int .i64 ((hdP (r.pl 0) (r.pl 1)).1), .int .i64 ((hdP (r.pl 0) (r.pl 1)).2)], 108)] ++ Sq6) wd12 := hI22
      have hS2 : Has [(b4, #[.int .i64 (N : Int), .int .i64 q, .slice m3 ((r.pl 0).tail.length) k3, .slice q6 (((tO (r.pl 0) (r.pl 1)) ++ [((hdP (r.pl 0) (r.pl 1)).1, (hdP (r.pl 0) (r.pl 1)).2)]).length) capq6], 85), (b5, #[.int .i64 ((hdP (r.pl 0) (r.pl 1)).1), .int .i64 ((hdP (r.pl 0) (r.pl 1)).2)], 108)] _ := (Has.cons (hI23.at 2 rfl) (Has.cons (hI23.at 3 rfl) Has.nil))
      refine any_val (i := 6) (v := .int .i64 ((hdP (r.pl 0) (r.pl 1)).1)) hf35 rfl rfl rfl rfl rfl rfl (fun _ _ _ h => h) (by kernel_rfl) (by kernel_rfl) (by kernel_rfl) (fun wd12 hS2 => (r_assign rfl)) hS2 fun ac33 hf36 => ?_
      refine any_val (i := 7) (v := .bool (!(nF (r.pl 0)))) hf36 rfl rfl rfl rfl rfl rfl (fun _ _ _ h => h) (by kernel_rfl) (by kernel_rfl) (by kernel_rfl) (fun wd12 hS2 => (r_assign rfl)) hS2 fun ac34 hf37 => ?_
      refine any_val (i := 8) (v := .bool true) hf37 rfl rfl rfl rfl rfl rfl (fun _ _ _ h => h) (by kernel_rfl) (by kernel_rfl) (by kernel_rfl) (fun wd12 hS2 => (r_assign rfl)) hS2 fun ac35 hf38 => ?_
      refine any_end (by kernel_rfl) ?_
      clear hI20 ac27 hf30 ac28 hf31 ac29 hf32 ac30 hf33 ac31 hf34 wd11 hI21 hI22 hS1 ac32 hf35 ac33 hf36 ac34 hf37 hS2
      refine then_normal ?_
      refine wp_ret ?_
      obtain ⟨e0, e1, e2, e3, e4⟩ := Ro.idle_pl1 (r := r) c10_1 c18_2
      exact postC3 rfl hf38 rfl ag_85 sz_85 (hI23.at 1 rfl) rfl rfl rfl rfl ⟨Sq6, m3, k3, q6, capq6, (by rw [e0, e1, e2, e3, e4, c18_2]; rfl), (Inv.keep (A := []) (N := [(b1, #[.int .i64 (N : Int), .int .i64 q, .slice p0 ((r.pl 0).length) c0, .slice p1 ((r.pl 1).length) c1], 85), (b2, #[.int .i64 (N : Int), .int .i64 q, .slice m3 ((r.pl 0).tail.length) k3, .slice q6 (((tO (r.pl 0) (r.pl 1)) ++ [((hdP (r.pl 0) (r.pl 1)).1, (hdP (r.pl 0) (r.pl 1)).2)]).length) capq6], 85), (b4, #[.int .i64 (N : Int), .int .i64 q, .slice m3 ((r.pl 0).tail.length) k3, .slice q6 (((tO (r.pl 0) (r.pl 1)) ++ [((hdP (r.pl 0) (r.pl 1)).1, (hdP (r.pl 0) (r.pl 1)).2)]).length) capq6], 85), (b5, #[.int .i64 ((hdP (r.pl 0) (r.pl 1)).1), .int .i64 ((hdP (r.pl 0) (r.pl 1)).2)], 108)]) (T := Sq6) hI23 (fresh_keys (ks := [b1, b2, b4, b5]) rfl (fk_cons hb1 (fk_cons hb2 (fk_cons hb4 (fk_cons hb5 fk_nil)))))), hyq6, by rw [e0]; exact (Tr.mono htc3 (fun _ h => by cases h)), by rw [e1]; exact (Tr.sp hsq6)⟩
    · have hf39 := hf24.know 18 (u := .bool false) rfl (congrArg Value.bool c18_2)
      refine wp_skip ?_
      refine then_normal ?_
      refine code_seq ?_
      refine any_start (fun w => Has [(b4, #[.int .i64 (N : Int), .int .i64 q, .slice m3 ((r.pl 0).tail.length) k3, .slice m3' ((tO (r.pl 0) (r.pl 1)).length) k3'], 85), (b5, #[.int .i64 ((hdP (r.pl 0) (r.pl 1)).1), .int .i64 ((hdP (r.pl 0) (r.pl 1)).2)], 108)] w) follows (Has.drew (Has.cons (hI17.at 2 rfl) (Has.cons (hI17.at 3 rfl) Has.nil))) ?_
      have hS3 : Has [(b4, #[.int .i64 (N : Int), .int .i64 q, .slice m3 ((r.pl 0).tail.length) k3, .slice m3' ((tO (r.pl 0) (r.pl 1)).length) k3'], 85), (b5, #[.int .i64 ((hdP (r.pl 0) (r.pl 1)).1), .int .i64 ((hdP (r.pl 0) (r.pl 1)).2)], 108)] _ := Has.drew (Has.cons (hI17.at 2 rfl) (Has.cons (hI17.at 3 rfl) Has.nil))
      have hI24 := hI17.drew
      refine any_val (i := 0) (v := .agg #[.int .i64 (N : Int), .int .i64 q, .slice m3 ((r.pl 0).tail.length) k3, .slice m3' ((tO (r.pl 0) (r.pl 1)).length) k3']) hf39 rfl rfl rfl rfl rfl rfl (fun _ _ _ h => h) (by kernel_rfl) (by kernel_rfl) (by kernel_rfl) (fun wd9 hS3 => (r_loadW ag_85 sz_85 rfl (hS3.at 0 rfl) rfl)) hS3 fun ac36 hf40 => ?_
      refine any_val (i := 1) (v := .pointer (some ⟨b5, 0, none⟩)) hf40 rfl rfl rfl rfl rfl rfl (fun _ _ _ h => h) (by kernel_rfl) (by kernel_rfl) (by kernel_rfl) (fun wd9 hS3 => (r_fieldAddr fi_108_0 rfl rfl)) hS3 fun ac37 hf41 => ?_
      refine any_val (i := 2) (v := .int .i64 ((hdP (r.pl 0) (r.pl 1)).1)) hf41 rfl rfl rfl rfl rfl rfl (fun _ _ _ h => h) (by kernel_rfl) (by kernel_rfl) (by kernel_rfl) (fun wd9 hS3 => (r_load ag_3 rfl (hS3.at 1 rfl) rfl)) hS3 fun ac38 hf42 => ?_
      refine any_val (i := 3) (v := .bool (nF (r.pl 0))) hf42 rfl rfl rfl rfl rfl rfl (fun _ _ _ h => h) (by kernel_rfl) (by kernel_rfl) (by kernel_rfl) (fun wd9 hS3 => (r_move rfl)) hS3 fun ac39 hf43 => ?_
      refine any_val (i := 4) (v := .bool (!(nF (r.pl 0)))) hf43 rfl rfl rfl rfl rfl rfl (fun _ _ _ h => h) (by kernel_rfl) (by kernel_rfl) (by kernel_rfl) (fun wd9 hS3 => (r_not rfl)) hS3 fun ac40 hf44 => ?_
      refine any_one (i := 5) (by kernel_rfl) ?_
      refine (op_storeW (cells := #[.int .i64 (N : Int), .int .i64 q, .slice m3 ((r.pl 0).tail.length) k3, .slice m3' ((tO (r.pl 0) (r.pl 1)).length) k3']) 1 hf44 rfl rfl rfl rfl rfl sz_85 rfl rfl hI24 rfl rfl fun wd13 hI25 => ⟨?_, ?_⟩)
      · exact (Has.cons (hI25.at 2 rfl) (Has.cons (hI25.at 3 rfl) Has.nil))
      have hI26 : Inv w [(b1, #[.int .i64 (N : Int), .int .i64 q, .slice p0 ((r.pl 0).length) c0, .slice p1 ((r.pl 1).length) c1], 85), (b2, #[.int .i64 (N : Int), .int .i64 q, .slice m3 ((r.pl 0).tail.length) k3, .slice m3' ((tO (r.pl 0) (r.pl 1)).length) k3'], 85), (b4, #[.int .i64 (N : Int), .int .i64 q, .slice m3 ((r.pl 0).tail.length) k3, .slice m3' ((tO (r.pl 0) (r.pl 1)).length) k3'], 85), (b5, #[.int .i64 ((hdP (r.pl 0) (r.pl 1)).1), .int .i64 ((hdP (r.pl 0) (r.pl 1)).2)], 108)] wd13 := hI25
      have hS4 : Has [(b4, #[.int .i64 (N : Int), .int .i64 q, .slice m3 ((r.pl 0).tail.length) k3, .slice m3' ((tO (r.pl 0) (r.pl 1)).length) k3'], 85), (b5, #[.int .i64 ((hdP (r.pl 0) (r.pl 1)).1), .int .i64 ((hdP (r.pl 0) (r.pl 1)).2)], 108)] _ := (Has.cons (hI26.at 2 rfl) (Has.cons (hI26.at 3 rfl) Has.nil))
      refine any_val (i := 6) (v := .int .i64 ((hdP (r.pl 0) (r.pl 1)).1)) hf44 rfl rfl rfl rfl rfl rfl (fun _ _ _ h => h) (by kernel_rfl) (by kernel_rfl) (by kernel_rfl) (fun wd13 hS4 => (r_assign rfl)) hS4 fun ac41 hf45 => ?_
      refine any_val (i := 7) (v := .bool (!(nF (r.pl 0)))) hf45 rfl rfl rfl rfl rfl rfl (fun _ _ _ h => h) (by kernel_rfl) (by kernel_rfl) (by kernel_rfl) (fun wd13 hS4 => (r_assign rfl)) hS4 fun ac42 hf46 => ?_
      refine any_val (i := 8) (v := .bool true) hf46 rfl rfl rfl rfl rfl rfl (fun _ _ _ h => h) (by kernel_rfl) (by kernel_rfl) (by kernel_rfl) (fun wd13 hS4 => (r_assign rfl)) hS4 fun ac43 hf47 => ?_
      refine any_end (by kernel_rfl) ?_
      clear hf24 hI17 ac22 hf39 ac36 hf40 ac37 hf41 ac38 hf42 ac39 hf43 wd9 hI24 hI25 hS3 ac40 hf44 ac41 hf45 ac42 hf46 hS4
      refine then_normal ?_
      refine wp_ret ?_
      obtain ⟨e0, e1, e2, e3, e4⟩ := Ro.idle_pl2 (r := r) c10_1 c18_2
      exact postC3 rfl hf47 rfl ag_85 sz_85 (hI26.at 1 rfl) rfl rfl rfl rfl ⟨[], m3, k3, m3', k3', (by rw [e0, e1, e2, e3, e4, c18_2]; rfl), (hI26.done (fresh_keys (ks := [b1, b2, b4, b5]) rfl (fk_cons hb1 (fk_cons hb2 (fk_cons hb4 (fk_cons hb5 fk_nil)))))), (fun _ h => by cases h), by rw [e0]; exact htc3, by rw [e1]; exact htd3⟩
end Go.Proofs.Ytjelaoblpchmmaa
