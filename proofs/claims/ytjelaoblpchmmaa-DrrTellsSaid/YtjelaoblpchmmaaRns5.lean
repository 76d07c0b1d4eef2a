/-
  The chapter's examples of rounds, and a round that was played.
-/
import Derived.Test.YtjelaoblpchmmaaRns4
namespace Go.Proofs.Ytjelaoblpchmmaa
set_option linter.unusedVariables false
set_option linter.unusedSimpArgs false
set_option maxRecDepth 100000
open Go.RowKit
set_option maxHeartbeats 8000000 in
theorem awake17_pur : Pur Try.prog 23 [] (.bool true) := by
  intro w
  have hI1 := Inv.start w
  refine enter (n := 133) Try.func23 rfl rfl rfl ?_
  intro ac1 hf1
  refine code_seq ?_
  refine seq_start (l := [0]) rfl ?_
  refine seq_one (op_val (v := .bool false) hf1 rfl rfl rfl rfl rfl rfl (r_assign rfl) fun ac2 hf2 => ?_)
  refine seq_end ?_
  clear ac1 hf1
  refine then_normal ?_
  refine code_seq ?_
  refine seq_start (l := [0, 1, 2, 3, 4, 5]) rfl ?_
  refine seq_one (op_call (R := fun v w' => ∃ lb ob mb cb rc rb, Array.size (World.heap w) ≤ lb ∧ Array.size (World.heap w) ≤ ob ∧ Array.size (World.heap w) ≤ mb ∧ Array.size (World.heap w) ≤ cb ∧ Array.size (World.heap w) ≤ rc ∧ Array.size (World.heap w) ≤ rb ∧ v = .tuple #[.pointer (some ⟨rb, 0, none⟩), .int .i64 0] ∧ Inv w [(lb, arr .i64 ((Ro.new 4 100 (by decide) (by decide) (by decide)).c).lk, 103), (ob, arr .i64 ((Ro.new 4 100 (by decide) (by decide) (by decide)).c).of, 3), (mb, arr .i64 ((Ro.new 4 100 (by decide) (by decide) (by decide)).c).mn, 3), (cb, #[.slice (some ⟨lb, 0, none⟩) (4 + 2) (4 + 2), .slice (some ⟨ob, 0, none⟩) 4 4, .slice (some ⟨mb, 0, none⟩) 2 2], 79), (rc, arr .i64 (Ro.new 4 100 (by decide) (by decide) (by decide)).cr, 3), (rb, #[.pointer (some ⟨cb, 0, none⟩), .slice (some ⟨rc, 0, none⟩) 4 4, .int .i64 ((Ro.new 4 100 (by decide) (by decide) (by decide)).q)], 45)] w') hf2 rfl rfl rfl rfl ca_26 ((newr_walk (N := 4) (q := 100) (by decide) (by decide) (by decide) _).mono fun e w' ⟨lb, ob, mb, cb, rc, rb, h1, h2, h3, h4, h5, h6, h7, h8⟩ => ⟨_, h7, lb, ob, mb, cb, rc, rb, h1, h2, h3, h4, h5, h6, rfl, h8⟩) fun ac3 v wd1 hR hf3 => ?_)
  obtain ⟨b1, b2, b3, b4, b5, b6, hqb1, hqb2, hqb3, hqb4, hqb5, hqb6, rfl, hw6⟩ := hR
  have hb1 := Nat.le_trans hI1.size hqb1
  have hb2 := Nat.le_trans hI1.size hqb2
  have hb3 := Nat.le_trans hI1.size hqb3
  have hb4 := Nat.le_trans hI1.size hqb4
  have hb5 := Nat.le_trans hI1.size hqb5
  have hb6 := Nat.le_trans hI1.size hqb6
  have hI2 : Inv w [(b1, arr .i64 ((Ro.new 4 100 (by decide) (by decide) (by decide)).c).lk, 103), (b2, arr .i64 ((Ro.new 4 100 (by decide) (by decide) (by decide)).c).of, 3), (b3, arr .i64 ((Ro.new 4 100 (by decide) (by decide) (by decide)).c).mn, 3), (b4, #[.slice (some ⟨b1, 0, none⟩) (4 + 2) (4 + 2), .slice (some ⟨b2, 0, none⟩) 4 4, .slice (some ⟨b3, 0, none⟩) 2 2], 79), (b5, arr .i64 (Ro.new 4 100 (by decide) (by decide) (by decide)).cr, 3), (b6, #[.pointer (some ⟨b4, 0, none⟩), .slice (some ⟨b5, 0, none⟩) 4 4, .int .i64 ((Ro.new 4 100 (by decide) (by decide) (by decide)).q)], 45)] _ := hI1.callN hw6 (fk6 hqb1 hqb2 hqb3 hqb4 hqb5 hqb6)
  obtain ⟨r7, er7⟩ : ∃ r : Ro 4, r = (Ro.new 4 100 (by decide) (by decide) (by decide)) := ⟨_, rfl⟩
  rw [← er7] at hI2
  refine seq_one (op_val (v := .tuple #[.pointer (some ⟨b6, 0, none⟩), .int .i64 0]) hf3 rfl rfl rfl rfl rfl rfl (r_move rfl) fun ac4 hf4 => ?_)
  refine seq_one (op_val (v := .pointer (some ⟨b6, 0, none⟩)) hf4 rfl rfl rfl rfl rfl rfl (r_extract rfl rfl) fun ac5 hf5 => ?_)
  refine seq_one (op_val (v := .int .i64 0) hf5 rfl rfl rfl rfl rfl rfl (r_extract rfl rfl) fun ac6 hf6 => ?_)
  refine seq_one (op_val (v := .pointer (some ⟨b6, 0, none⟩)) hf6 rfl rfl rfl rfl rfl rfl (r_assign rfl) fun ac7 hf7 => ?_)
  refine seq_one (op_val (v := .int .i64 0) hf7 rfl rfl rfl rfl rfl rfl (r_assign rfl) fun ac8 hf8 => ?_)
  refine seq_end ?_
  clear ac2 hf2 hI1 hw6 hqb1 hqb2 hqb3 hqb4 hqb5 hqb6 ac3 hf3 ac4 hf4 ac5 hf5 ac6 hf6 ac7 hf7
  refine then_normal ?_
  refine code_seq ?_
  refine seq_start (l := [0, 1, 2, 3, 4, 5]) rfl ?_
  refine seq_one (op_val (v := .pointer (some ⟨b6, 0, none⟩)) hf8 rfl rfl rfl rfl rfl rfl (r_move rfl) fun ac9 hf9 => ?_)
  refine seq_one (op_call (R := fun v w' => v = .int .i64 (r7.enterE 0 2 50) ∧ Inv _ [(b1, arr .i64 ((r7.enter 0 2 50).c).lk, 103), (b2, arr .i64 ((r7.enter 0 2 50).c).of, 3), (b3, arr .i64 ((r7.enter 0 2 50).c).mn, 3), (b4, #[.slice (some ⟨b1, 0, none⟩) (4 + 2) (4 + 2), .slice (some ⟨b2, 0, none⟩) 4 4, .slice (some ⟨b3, 0, none⟩) 2 2], 79), (b5, arr .i64 (r7.enter 0 2 50).cr, 3), (b6, #[.pointer (some ⟨b4, 0, none⟩), .slice (some ⟨b5, 0, none⟩) 4 4, .int .i64 ((r7.enter 0 2 50).q)], 45)] w') hf9 rfl rfl rfl rfl ca_24 ((join_any (hI2.nd6 0 rfl rfl rfl rfl rfl rfl) r7 (Has.cons (hI2.at 0 rfl) (Has.cons (hI2.at 1 rfl) (Has.cons (hI2.at 2 rfl) (Has.cons (hI2.at 3 rfl) (Has.cons (hI2.at 4 rfl) (Has.cons (hI2.at 5 rfl) Has.nil)))))) 2 50).mono fun _ _ h => ⟨_, h.1, rfl, h.2⟩) fun ac10 v wd2 hR8 hf10 => ?_)
  obtain ⟨rfl, hR8⟩ := hR8
  have hI3 : Inv w [(b1, arr .i64 ((r7.enter 0 2 50).c).lk, 103), (b2, arr .i64 ((r7.enter 0 2 50).c).of, 3), (b3, arr .i64 ((r7.enter 0 2 50).c).mn, 3), (b4, #[.slice (some ⟨b1, 0, none⟩) (4 + 2) (4 + 2), .slice (some ⟨b2, 0, none⟩) 4 4, .slice (some ⟨b3, 0, none⟩) 2 2], 79), (b5, arr .i64 (r7.enter 0 2 50).cr, 3), (b6, #[.pointer (some ⟨b4, 0, none⟩), .slice (some ⟨b5, 0, none⟩) 4 4, .int .i64 ((r7.enter 0 2 50).q)], 45)] _ := Inv.callS (A := []) (S := [(b1, arr .i64 r7.c.lk, 103), (b2, arr .i64 r7.c.of, 3), (b3, arr .i64 r7.c.mn, 3), (b4, #[.slice (some ⟨b1, 0, none⟩) (4 + 2) (4 + 2), .slice (some ⟨b2, 0, none⟩) 4 4, .slice (some ⟨b3, 0, none⟩) 2 2], 79), (b5, arr .i64 r7.cr, 3), (b6, #[.pointer (some ⟨b4, 0, none⟩), .slice (some ⟨b5, 0, none⟩) 4 4, .int .i64 r7.q], 45)]) (S' := [(b1, arr .i64 ((r7.enter 0 2 50).c).lk, 103), (b2, arr .i64 ((r7.enter 0 2 50).c).of, 3), (b3, arr .i64 ((r7.enter 0 2 50).c).mn, 3), (b4, #[.slice (some ⟨b1, 0, none⟩) (4 + 2) (4 + 2), .slice (some ⟨b2, 0, none⟩) 4 4, .slice (some ⟨b3, 0, none⟩) 2 2], 79), (b5, arr .i64 (r7.enter 0 2 50).cr, 3), (b6, #[.pointer (some ⟨b4, 0, none⟩), .slice (some ⟨b5, 0, none⟩) 4 4, .int .i64 ((r7.enter 0 2 50).q)], 45)]) (L := []) (N := []) hI2 hR8 rfl (fun _ h => by cases h)
  have ev9 : r7.enterE 0 2 50 = 0 := by clear hf10 hI3; subst er7; decide +kernel
  obtain ⟨r10, er10⟩ : ∃ r : Ro 4, r = (r7.enter 0 2 50) := ⟨_, rfl⟩
  rw [← er10] at hI3
  refine seq_one (op_val (v := .pointer (some ⟨b6, 0, none⟩)) hf10 rfl rfl rfl rfl rfl rfl (r_move rfl) fun ac11 hf11 => ?_)
  refine seq_one (op_call (R := fun v w' => v = .int .i64 (r10.enterE 1 1 (-30)) ∧ Inv _ [(b1, arr .i64 ((r10.enter 1 1 (-30)).c).lk, 103), (b2, arr .i64 ((r10.enter 1 1 (-30)).c).of, 3), (b3, arr .i64 ((r10.enter 1 1 (-30)).c).mn, 3), (b4, #[.slice (some ⟨b1, 0, none⟩) (4 + 2) (4 + 2), .slice (some ⟨b2, 0, none⟩) 4 4, .slice (some ⟨b3, 0, none⟩) 2 2], 79), (b5, arr .i64 (r10.enter 1 1 (-30)).cr, 3), (b6, #[.pointer (some ⟨b4, 0, none⟩), .slice (some ⟨b5, 0, none⟩) 4 4, .int .i64 ((r10.enter 1 1 (-30)).q)], 45)] w') hf11 rfl rfl rfl rfl ca_25 ((back_any (hI3.nd6 0 rfl rfl rfl rfl rfl rfl) r10 (Has.cons (hI3.at 0 rfl) (Has.cons (hI3.at 1 rfl) (Has.cons (hI3.at 2 rfl) (Has.cons (hI3.at 3 rfl) (Has.cons (hI3.at 4 rfl) (Has.cons (hI3.at 5 rfl) Has.nil)))))) 1 (-30)).mono fun _ _ h => ⟨_, h.1, rfl, h.2⟩) fun ac12 v wd3 hR11 hf12 => ?_)
  obtain ⟨rfl, hR11⟩ := hR11
  have hI4 : Inv w [(b1, arr .i64 ((r10.enter 1 1 (-30)).c).lk, 103), (b2, arr .i64 ((r10.enter 1 1 (-30)).c).of, 3), (b3, arr .i64 ((r10.enter 1 1 (-30)).c).mn, 3), (b4, #[.slice (some ⟨b1, 0, none⟩) (4 + 2) (4 + 2), .slice (some ⟨b2, 0, none⟩) 4 4, .slice (some ⟨b3, 0, none⟩) 2 2], 79), (b5, arr .i64 (r10.enter 1 1 (-30)).cr, 3), (b6, #[.pointer (some ⟨b4, 0, none⟩), .slice (some ⟨b5, 0, none⟩) 4 4, .int .i64 ((r10.enter 1 1 (-30)).q)], 45)] _ := Inv.callS (A := []) (S := [(b1, arr .i64 r10.c.lk, 103), (b2, arr .i64 r10.c.of, 3), (b3, arr .i64 r10.c.mn, 3), (b4, #[.slice (some ⟨b1, 0, none⟩) (4 + 2) (4 + 2), .slice (some ⟨b2, 0, none⟩) 4 4, .slice (some ⟨b3, 0, none⟩) 2 2], 79), (b5, arr .i64 r10.cr, 3), (b6, #[.pointer (some ⟨b4, 0, none⟩), .slice (some ⟨b5, 0, none⟩) 4 4, .int .i64 r10.q], 45)]) (S' := [(b1, arr .i64 ((r10.enter 1 1 (-30)).c).lk, 103), (b2, arr .i64 ((r10.enter 1 1 (-30)).c).of, 3), (b3, arr .i64 ((r10.enter 1 1 (-30)).c).mn, 3), (b4, #[.slice (some ⟨b1, 0, none⟩) (4 + 2) (4 + 2), .slice (some ⟨b2, 0, none⟩) 4 4, .slice (some ⟨b3, 0, none⟩) 2 2], 79), (b5, arr .i64 (r10.enter 1 1 (-30)).cr, 3), (b6, #[.pointer (some ⟨b4, 0, none⟩), .slice (some ⟨b5, 0, none⟩) 4 4, .int .i64 ((r10.enter 1 1 (-30)).q)], 45)]) (L := []) (N := []) hI3 hR11 rfl (fun _ h => by cases h)
  have ev12 : r10.enterE 1 1 (-30) = 0 := by clear hf12 hI4; subst er10 er7; decide +kernel
  obtain ⟨r13, er13⟩ : ∃ r : Ro 4, r = (r10.enter 1 1 (-30)) := ⟨_, rfl⟩
  rw [← er13] at hI4
  refine seq_one (op_val (v := .int .i64 (r7.enterE 0 2 50)) hf12 rfl rfl rfl rfl rfl rfl (r_assign rfl) fun ac13 hf13 => ?_)
  refine seq_one (op_val (v := .int .i64 (r10.enterE 1 1 (-30))) hf13 rfl rfl rfl rfl rfl rfl (r_assign rfl) fun ac14 hf14 => ?_)
  refine seq_end ?_
  clear ac8 hf8 ac9 wd1 hf9 hI2 hR8 ac10 hf10 ac11 wd2 hf11 hI3 hR11 ac12 hf12 ac13 hf13
  refine then_normal ?_
  refine code_seq ?_
  refine seq_start (l := [0, 1, 2, 3, 4, 5, 6, 7, 8]) rfl ?_
  refine seq_one (op_val (v := .pointer (some ⟨b6, 0, none⟩)) hf14 rfl rfl rfl rfl rfl rfl (r_move rfl) fun ac15 hf15 => ?_)
  refine seq_one (op_call (R := fun v w' => v = .tuple #[.int .i64 r13.head.f, .int .i64 r13.headC, .bool r13.head.ok] ∧ Inv _ [(b1, arr .i64 r13.head.c.lk, 103), (b2, arr .i64 r13.head.c.of, 3), (b3, arr .i64 r13.head.c.mn, 3), (b4, #[.slice (some ⟨b1, 0, none⟩) (4 + 2) (4 + 2), .slice (some ⟨b2, 0, none⟩) 4 4, .slice (some ⟨b3, 0, none⟩) 2 2], 79), (b5, arr .i64 r13.head.cr, 3), (b6, #[.pointer (some ⟨b4, 0, none⟩), .slice (some ⟨b5, 0, none⟩) 4 4, .int .i64 r13.head.q], 45)] w') hf15 rfl rfl rfl rfl ca_20 ((head_any (hI4.nd6 0 rfl rfl rfl rfl rfl rfl) r13 (Has.cons (hI4.at 0 rfl) (Has.cons (hI4.at 1 rfl) (Has.cons (hI4.at 2 rfl) (Has.cons (hI4.at 3 rfl) (Has.cons (hI4.at 4 rfl) (Has.cons (hI4.at 5 rfl) Has.nil)))))) ).mono fun _ _ h => ⟨_, h.1, rfl, h.2⟩) fun ac16 v wd4 hR14 hf16 => ?_)
  obtain ⟨rfl, hR14⟩ := hR14
  have hI5 : Inv w [(b1, arr .i64 r13.head.c.lk, 103), (b2, arr .i64 r13.head.c.of, 3), (b3, arr .i64 r13.head.c.mn, 3), (b4, #[.slice (some ⟨b1, 0, none⟩) (4 + 2) (4 + 2), .slice (some ⟨b2, 0, none⟩) 4 4, .slice (some ⟨b3, 0, none⟩) 2 2], 79), (b5, arr .i64 r13.head.cr, 3), (b6, #[.pointer (some ⟨b4, 0, none⟩), .slice (some ⟨b5, 0, none⟩) 4 4, .int .i64 r13.head.q], 45)] _ := Inv.callS (A := []) (S := [(b1, arr .i64 r13.c.lk, 103), (b2, arr .i64 r13.c.of, 3), (b3, arr .i64 r13.c.mn, 3), (b4, #[.slice (some ⟨b1, 0, none⟩) (4 + 2) (4 + 2), .slice (some ⟨b2, 0, none⟩) 4 4, .slice (some ⟨b3, 0, none⟩) 2 2], 79), (b5, arr .i64 r13.cr, 3), (b6, #[.pointer (some ⟨b4, 0, none⟩), .slice (some ⟨b5, 0, none⟩) 4 4, .int .i64 r13.q], 45)]) (S' := [(b1, arr .i64 r13.head.c.lk, 103), (b2, arr .i64 r13.head.c.of, 3), (b3, arr .i64 r13.head.c.mn, 3), (b4, #[.slice (some ⟨b1, 0, none⟩) (4 + 2) (4 + 2), .slice (some ⟨b2, 0, none⟩) 4 4, .slice (some ⟨b3, 0, none⟩) 2 2], 79), (b5, arr .i64 r13.head.cr, 3), (b6, #[.pointer (some ⟨b4, 0, none⟩), .slice (some ⟨b5, 0, none⟩) 4 4, .int .i64 r13.head.q], 45)]) (L := []) (N := []) hI4 hR14 rfl (fun _ h => by cases h)
  have ev15 : r13.head.f = 2 := by clear hf16 hI5; subst er13 er10 er7; decide +kernel
  have ev16 : r13.headC = 50 := by clear hf16 hI5; subst er13 er10 er7; decide +kernel
  have ev17 : r13.head.ok = true := by clear hf16 hI5; subst er13 er10 er7; decide +kernel
  obtain ⟨r18, er18⟩ : ∃ r : Ro 4, r = r13.head := ⟨_, rfl⟩
  rw [← er18] at hI5
  refine seq_one (op_val (v := .tuple #[.int .i64 r13.head.f, .int .i64 r13.headC, .bool r13.head.ok]) hf16 rfl rfl rfl rfl rfl rfl (r_move rfl) fun ac17 hf17 => ?_)
  refine seq_one (op_val (v := .int .i64 r13.head.f) hf17 rfl rfl rfl rfl rfl rfl (r_extract rfl rfl) fun ac18 hf18 => ?_)
  refine seq_one (op_val (v := .int .i64 r13.headC) hf18 rfl rfl rfl rfl rfl rfl (r_extract rfl rfl) fun ac19 hf19 => ?_)
  refine seq_one (op_val (v := .bool r13.head.ok) hf19 rfl rfl rfl rfl rfl rfl (r_extract rfl rfl) fun ac20 hf20 => ?_)
  refine seq_one (op_val (v := .int .i64 r13.head.f) hf20 rfl rfl rfl rfl rfl rfl (r_assign rfl) fun ac21 hf21 => ?_)
  refine seq_one (op_val (v := .int .i64 r13.headC) hf21 rfl rfl rfl rfl rfl rfl (r_assign rfl) fun ac22 hf22 => ?_)
  refine seq_one (op_val (v := .bool r13.head.ok) hf22 rfl rfl rfl rfl rfl rfl (r_assign rfl) fun ac23 hf23 => ?_)
  refine seq_end ?_
  clear ac14 hf14 ac15 wd3 hf15 hI4 hR14 ac16 hf16 ac17 hf17 ac18 hf18 ac19 hf19 ac20 hf20 ac21 hf21 ac22 hf22
  refine then_normal ?_
  refine code_seq ?_
  refine seq_start (l := [0, 1, 2]) rfl ?_
  refine seq_one (op_val (v := .pointer (some ⟨b6, 0, none⟩)) hf23 rfl rfl rfl rfl rfl rfl (r_move rfl) fun ac24 hf24 => ?_)
  refine seq_one (op_call (R := fun v w' => v = .int .i64 (r18.setE (-10)) ∧ Inv _ [(b1, arr .i64 ((r18.set (-10)).c).lk, 103), (b2, arr .i64 ((r18.set (-10)).c).of, 3), (b3, arr .i64 ((r18.set (-10)).c).mn, 3), (b4, #[.slice (some ⟨b1, 0, none⟩) (4 + 2) (4 + 2), .slice (some ⟨b2, 0, none⟩) 4 4, .slice (some ⟨b3, 0, none⟩) 2 2], 79), (b5, arr .i64 (r18.set (-10)).cr, 3), (b6, #[.pointer (some ⟨b4, 0, none⟩), .slice (some ⟨b5, 0, none⟩) 4 4, .int .i64 ((r18.set (-10)).q)], 45)] w') hf24 rfl rfl rfl rfl ca_22 ((set_any (hI5.nd6 0 rfl rfl rfl rfl rfl rfl) r18 (Has.cons (hI5.at 0 rfl) (Has.cons (hI5.at 1 rfl) (Has.cons (hI5.at 2 rfl) (Has.cons (hI5.at 3 rfl) (Has.cons (hI5.at 4 rfl) (Has.cons (hI5.at 5 rfl) Has.nil)))))) (-10)).mono fun _ _ h => ⟨_, h.1, rfl, h.2⟩) fun ac25 v wd5 hR19 hf25 => ?_)
  obtain ⟨rfl, hR19⟩ := hR19
  have hI6 : Inv w [(b1, arr .i64 ((r18.set (-10)).c).lk, 103), (b2, arr .i64 ((r18.set (-10)).c).of, 3), (b3, arr .i64 ((r18.set (-10)).c).mn, 3), (b4, #[.slice (some ⟨b1, 0, none⟩) (4 + 2) (4 + 2), .slice (some ⟨b2, 0, none⟩) 4 4, .slice (some ⟨b3, 0, none⟩) 2 2], 79), (b5, arr .i64 (r18.set (-10)).cr, 3), (b6, #[.pointer (some ⟨b4, 0, none⟩), .slice (some ⟨b5, 0, none⟩) 4 4, .int .i64 ((r18.set (-10)).q)], 45)] _ := Inv.callS (A := []) (S := [(b1, arr .i64 r18.c.lk, 103), (b2, arr .i64 r18.c.of, 3), (b3, arr .i64 r18.c.mn, 3), (b4, #[.slice (some ⟨b1, 0, none⟩) (4 + 2) (4 + 2), .slice (some ⟨b2, 0, none⟩) 4 4, .slice (some ⟨b3, 0, none⟩) 2 2], 79), (b5, arr .i64 r18.cr, 3), (b6, #[.pointer (some ⟨b4, 0, none⟩), .slice (some ⟨b5, 0, none⟩) 4 4, .int .i64 r18.q], 45)]) (S' := [(b1, arr .i64 ((r18.set (-10)).c).lk, 103), (b2, arr .i64 ((r18.set (-10)).c).of, 3), (b3, arr .i64 ((r18.set (-10)).c).mn, 3), (b4, #[.slice (some ⟨b1, 0, none⟩) (4 + 2) (4 + 2), .slice (some ⟨b2, 0, none⟩) 4 4, .slice (some ⟨b3, 0, none⟩) 2 2], 79), (b5, arr .i64 (r18.set (-10)).cr, 3), (b6, #[.pointer (some ⟨b4, 0, none⟩), .slice (some ⟨b5, 0, none⟩) 4 4, .int .i64 ((r18.set (-10)).q)], 45)]) (L := []) (N := []) hI5 hR19 rfl (fun _ h => by cases h)
  have ev20 : r18.setE (-10) = 0 := by clear hf25 hI6; subst er18 er13 er10 er7; decide +kernel
  obtain ⟨r21, er21⟩ : ∃ r : Ro 4, r = (r18.set (-10)) := ⟨_, rfl⟩
  rw [← er21] at hI6
  refine seq_one (op_val (v := .int .i64 (r18.setE (-10))) hf25 rfl rfl rfl rfl rfl rfl (r_assign rfl) fun ac26 hf26 => ?_)
  refine seq_end ?_
  clear ac23 hf23 ac24 wd4 hf24 hI5 hR19 ac25 hf25
  refine then_normal ?_
  refine code_seq ?_
  refine seq_start (l := [0, 1, 2, 3, 4, 5, 6, 7, 8]) rfl ?_
  refine seq_one (op_val (v := .pointer (some ⟨b6, 0, none⟩)) hf26 rfl rfl rfl rfl rfl rfl (r_move rfl) fun ac27 hf27 => ?_)
  refine seq_one (op_call (R := fun v w' => v = .tuple #[.int .i64 r21.head.f, .int .i64 r21.headC, .bool r21.head.ok] ∧ Inv _ [(b1, arr .i64 r21.head.c.lk, 103), (b2, arr .i64 r21.head.c.of, 3), (b3, arr .i64 r21.head.c.mn, 3), (b4, #[.slice (some ⟨b1, 0, none⟩) (4 + 2) (4 + 2), .slice (some ⟨b2, 0, none⟩) 4 4, .slice (some ⟨b3, 0, none⟩) 2 2], 79), (b5, arr .i64 r21.head.cr, 3), (b6, #[.pointer (some ⟨b4, 0, none⟩), .slice (some ⟨b5, 0, none⟩) 4 4, .int .i64 r21.head.q], 45)] w') hf27 rfl rfl rfl rfl ca_20 ((head_any (hI6.nd6 0 rfl rfl rfl rfl rfl rfl) r21 (Has.cons (hI6.at 0 rfl) (Has.cons (hI6.at 1 rfl) (Has.cons (hI6.at 2 rfl) (Has.cons (hI6.at 3 rfl) (Has.cons (hI6.at 4 rfl) (Has.cons (hI6.at 5 rfl) Has.nil)))))) ).mono fun _ _ h => ⟨_, h.1, rfl, h.2⟩) fun ac28 v wd6 hR22 hf28 => ?_)
  obtain ⟨rfl, hR22⟩ := hR22
  have hI7 : Inv w [(b1, arr .i64 r21.head.c.lk, 103), (b2, arr .i64 r21.head.c.of, 3), (b3, arr .i64 r21.head.c.mn, 3), (b4, #[.slice (some ⟨b1, 0, none⟩) (4 + 2) (4 + 2), .slice (some ⟨b2, 0, none⟩) 4 4, .slice (some ⟨b3, 0, none⟩) 2 2], 79), (b5, arr .i64 r21.head.cr, 3), (b6, #[.pointer (some ⟨b4, 0, none⟩), .slice (some ⟨b5, 0, none⟩) 4 4, .int .i64 r21.head.q], 45)] _ := Inv.callS (A := []) (S := [(b1, arr .i64 r21.c.lk, 103), (b2, arr .i64 r21.c.of, 3), (b3, arr .i64 r21.c.mn, 3), (b4, #[.slice (some ⟨b1, 0, none⟩) (4 + 2) (4 + 2), .slice (some ⟨b2, 0, none⟩) 4 4, .slice (some ⟨b3, 0, none⟩) 2 2], 79), (b5, arr .i64 r21.cr, 3), (b6, #[.pointer (some ⟨b4, 0, none⟩), .slice (some ⟨b5, 0, none⟩) 4 4, .int .i64 r21.q], 45)]) (S' := [(b1, arr .i64 r21.head.c.lk, 103), (b2, arr .i64 r21.head.c.of, 3), (b3, arr .i64 r21.head.c.mn, 3), (b4, #[.slice (some ⟨b1, 0, none⟩) (4 + 2) (4 + 2), .slice (some ⟨b2, 0, none⟩) 4 4, .slice (some ⟨b3, 0, none⟩) 2 2], 79), (b5, arr .i64 r21.head.cr, 3), (b6, #[.pointer (some ⟨b4, 0, none⟩), .slice (some ⟨b5, 0, none⟩) 4 4, .int .i64 r21.head.q], 45)]) (L := []) (N := []) hI6 hR22 rfl (fun _ h => by cases h)
  have ev23 : r21.head.f = 2 := by clear hf28 hI7; subst er21 er18 er13 er10 er7; decide +kernel
  have ev24 : r21.headC = 90 := by clear hf28 hI7; subst er21 er18 er13 er10 er7; decide +kernel
  have ev25 : r21.head.ok = true := by clear hf28 hI7; subst er21 er18 er13 er10 er7; decide +kernel
  obtain ⟨r26, er26⟩ : ∃ r : Ro 4, r = r21.head := ⟨_, rfl⟩
  rw [← er26] at hI7
  refine seq_one (op_val (v := .tuple #[.int .i64 r21.head.f, .int .i64 r21.headC, .bool r21.head.ok]) hf28 rfl rfl rfl rfl rfl rfl (r_move rfl) fun ac29 hf29 => ?_)
  refine seq_one (op_val (v := .int .i64 r21.head.f) hf29 rfl rfl rfl rfl rfl rfl (r_extract rfl rfl) fun ac30 hf30 => ?_)
  refine seq_one (op_val (v := .int .i64 r21.headC) hf30 rfl rfl rfl rfl rfl rfl (r_extract rfl rfl) fun ac31 hf31 => ?_)
  refine seq_one (op_val (v := .bool r21.head.ok) hf31 rfl rfl rfl rfl rfl rfl (r_extract rfl rfl) fun ac32 hf32 => ?_)
  refine seq_one (op_val (v := .int .i64 r21.head.f) hf32 rfl rfl rfl rfl rfl rfl (r_assign rfl) fun ac33 hf33 => ?_)
  refine seq_one (op_val (v := .int .i64 r21.headC) hf33 rfl rfl rfl rfl rfl rfl (r_assign rfl) fun ac34 hf34 => ?_)
  refine seq_one (op_val (v := .bool r21.head.ok) hf34 rfl rfl rfl rfl rfl rfl (r_assign rfl) fun ac35 hf35 => ?_)
  refine seq_end ?_
  clear ac26 hf26 ac27 wd5 hf27 hI6 hR22 ac28 hf28 ac29 hf29 ac30 hf30 ac31 hf31 ac32 hf32 ac33 hf33 ac34 hf34
  refine then_normal ?_
  refine code_seq ?_
  refine seq_start (l := [0, 1, 2, 3, 4, 5, 6]) rfl ?_
  refine seq_one (op_val (v := .pointer (some ⟨b6, 0, none⟩)) hf35 rfl rfl rfl rfl rfl rfl (r_move rfl) fun ac36 hf36 => ?_)
  refine seq_one (op_pureW hf36 rfl rfl rfl rfl ca_17 (credit_any (hI7.nd6 0 rfl rfl rfl rfl rfl rfl) r26 (Has.cons (hI7.at 0 rfl) (Has.cons (hI7.at 1 rfl) (Has.cons (hI7.at 2 rfl) (Has.cons (hI7.at 3 rfl) (Has.cons (hI7.at 4 rfl) (Has.cons (hI7.at 5 rfl) Has.nil)))))) 1) hI7 fun ac37 wd7 hI8 hf37 => ?_)
  have ev27 : r26.crV 1 = 70 := by clear hf37 hI8; subst er26 er21 er18 er13 er10 er7; decide +kernel
  have ev28 : r26.c.inn 1 = true := by clear hf37 hI8; subst er26 er21 er18 er13 er10 er7; decide +kernel
  refine seq_one (op_val (v := .tuple #[.int .i64 (r26.crV 1), .bool (r26.c.inn 1)]) hf37 rfl rfl rfl rfl rfl rfl (r_move rfl) fun ac38 hf38 => ?_)
  refine seq_one (op_val (v := .int .i64 (r26.crV 1)) hf38 rfl rfl rfl rfl rfl rfl (r_extract rfl rfl) fun ac39 hf39 => ?_)
  refine seq_one (op_val (v := .bool (r26.c.inn 1)) hf39 rfl rfl rfl rfl rfl rfl (r_extract rfl rfl) fun ac40 hf40 => ?_)
  refine seq_one (op_val (v := .int .i64 (r26.crV 1)) hf40 rfl rfl rfl rfl rfl rfl (r_assign rfl) fun ac41 hf41 => ?_)
  refine seq_one (op_val (v := .bool (r26.c.inn 1)) hf41 rfl rfl rfl rfl rfl rfl (r_assign rfl) fun ac42 hf42 => ?_)
  refine seq_end ?_
  clear ac35 hf35 ac36 wd6 hI7 hf36 ac37 hf37 ac38 hf38 ac39 hf39 ac40 hf40 ac41 hf41
  refine then_normal ?_
  refine code_seq ?_
  refine seq_start (l := [0, 1, 2, 3, 4, 5, 6, 7, 8]) rfl ?_
  refine seq_one (op_val (v := .pointer (some ⟨b6, 0, none⟩)) hf42 rfl rfl rfl rfl rfl rfl (r_move rfl) fun ac43 hf43 => ?_)
  refine seq_one (op_call (R := fun v w' => v = .tuple #[.int .i64 r26.f, .bool r26.idleL, .bool r26.ok] ∧ Inv _ [(b1, arr .i64 r26.idle.c.lk, 103), (b2, arr .i64 r26.idle.c.of, 3), (b3, arr .i64 r26.idle.c.mn, 3), (b4, #[.slice (some ⟨b1, 0, none⟩) (4 + 2) (4 + 2), .slice (some ⟨b2, 0, none⟩) 4 4, .slice (some ⟨b3, 0, none⟩) 2 2], 79), (b5, arr .i64 r26.idle.cr, 3), (b6, #[.pointer (some ⟨b4, 0, none⟩), .slice (some ⟨b5, 0, none⟩) 4 4, .int .i64 r26.idle.q], 45)] w') hf43 rfl rfl rfl rfl ca_21 ((idle_any (hI8.nd6 0 rfl rfl rfl rfl rfl rfl) r26 (Has.cons (hI8.at 0 rfl) (Has.cons (hI8.at 1 rfl) (Has.cons (hI8.at 2 rfl) (Has.cons (hI8.at 3 rfl) (Has.cons (hI8.at 4 rfl) (Has.cons (hI8.at 5 rfl) Has.nil)))))) ).mono fun _ _ h => ⟨_, h.1, rfl, h.2⟩) fun ac44 v wd8 hR29 hf44 => ?_)
  obtain ⟨rfl, hR29⟩ := hR29
  have hI9 : Inv w [(b1, arr .i64 r26.idle.c.lk, 103), (b2, arr .i64 r26.idle.c.of, 3), (b3, arr .i64 r26.idle.c.mn, 3), (b4, #[.slice (some ⟨b1, 0, none⟩) (4 + 2) (4 + 2), .slice (some ⟨b2, 0, none⟩) 4 4, .slice (some ⟨b3, 0, none⟩) 2 2], 79), (b5, arr .i64 r26.idle.cr, 3), (b6, #[.pointer (some ⟨b4, 0, none⟩), .slice (some ⟨b5, 0, none⟩) 4 4, .int .i64 r26.idle.q], 45)] _ := Inv.callS (A := []) (S := [(b1, arr .i64 r26.c.lk, 103), (b2, arr .i64 r26.c.of, 3), (b3, arr .i64 r26.c.mn, 3), (b4, #[.slice (some ⟨b1, 0, none⟩) (4 + 2) (4 + 2), .slice (some ⟨b2, 0, none⟩) 4 4, .slice (some ⟨b3, 0, none⟩) 2 2], 79), (b5, arr .i64 r26.cr, 3), (b6, #[.pointer (some ⟨b4, 0, none⟩), .slice (some ⟨b5, 0, none⟩) 4 4, .int .i64 r26.q], 45)]) (S' := [(b1, arr .i64 r26.idle.c.lk, 103), (b2, arr .i64 r26.idle.c.of, 3), (b3, arr .i64 r26.idle.c.mn, 3), (b4, #[.slice (some ⟨b1, 0, none⟩) (4 + 2) (4 + 2), .slice (some ⟨b2, 0, none⟩) 4 4, .slice (some ⟨b3, 0, none⟩) 2 2], 79), (b5, arr .i64 r26.idle.cr, 3), (b6, #[.pointer (some ⟨b4, 0, none⟩), .slice (some ⟨b5, 0, none⟩) 4 4, .int .i64 r26.idle.q], 45)]) (L := []) (N := []) hI8 hR29 rfl (fun _ h => by cases h)
  have ev30 : r26.f = 2 := by clear hf44 hI9; subst er26 er21 er18 er13 er10 er7; decide +kernel
  have ev31 : r26.idleL = true := by clear hf44 hI9; subst er26 er21 er18 er13 er10 er7; decide +kernel
  have ev32 : r26.ok = true := by clear hf44 hI9; subst er26 er21 er18 er13 er10 er7; decide +kernel
  obtain ⟨r33, er33⟩ : ∃ r : Ro 4, r = r26.idle := ⟨_, rfl⟩
  rw [← er33] at hI9
  refine seq_one (op_val (v := .tuple #[.int .i64 r26.f, .bool r26.idleL, .bool r26.ok]) hf44 rfl rfl rfl rfl rfl rfl (r_move rfl) fun ac45 hf45 => ?_)
  refine seq_one (op_val (v := .int .i64 r26.f) hf45 rfl rfl rfl rfl rfl rfl (r_extract rfl rfl) fun ac46 hf46 => ?_)
  refine seq_one (op_val (v := .bool r26.idleL) hf46 rfl rfl rfl rfl rfl rfl (r_extract rfl rfl) fun ac47 hf47 => ?_)
  refine seq_one (op_val (v := .bool r26.ok) hf47 rfl rfl rfl rfl rfl rfl (r_extract rfl rfl) fun ac48 hf48 => ?_)
  refine seq_one (op_val (v := .int .i64 r26.f) hf48 rfl rfl rfl rfl rfl rfl (r_assign rfl) fun ac49 hf49 => ?_)
  refine seq_one (op_val (v := .bool r26.idleL) hf49 rfl rfl rfl rfl rfl rfl (r_assign rfl) fun ac50 hf50 => ?_)
  refine seq_one (op_val (v := .bool r26.ok) hf50 rfl rfl rfl rfl rfl rfl (r_assign rfl) fun ac51 hf51 => ?_)
  refine seq_end ?_
  clear ac42 hf42 ac43 wd7 hf43 hI8 hR29 ac44 hf44 ac45 hf45 ac46 hf46 ac47 hf47 ac48 hf48 ac49 hf49 ac50 hf50
  refine then_normal ?_
  refine code_seq ?_
  refine seq_start (l := [0, 1, 2, 3, 4, 5, 6, 7, 8]) rfl ?_
  refine seq_one (op_val (v := .pointer (some ⟨b6, 0, none⟩)) hf51 rfl rfl rfl rfl rfl rfl (r_move rfl) fun ac52 hf52 => ?_)
  refine seq_one (op_call (R := fun v w' => v = .tuple #[.int .i64 r33.f, .int .i64 r33.leaveC, .bool r33.ok] ∧ Inv _ [(b1, arr .i64 r33.leave.c.lk, 103), (b2, arr .i64 r33.leave.c.of, 3), (b3, arr .i64 r33.leave.c.mn, 3), (b4, #[.slice (some ⟨b1, 0, none⟩) (4 + 2) (4 + 2), .slice (some ⟨b2, 0, none⟩) 4 4, .slice (some ⟨b3, 0, none⟩) 2 2], 79), (b5, arr .i64 r33.leave.cr, 3), (b6, #[.pointer (some ⟨b4, 0, none⟩), .slice (some ⟨b5, 0, none⟩) 4 4, .int .i64 r33.leave.q], 45)] w') hf52 rfl rfl rfl rfl ca_18 ((leave_any (hI9.nd6 0 rfl rfl rfl rfl rfl rfl) r33 (Has.cons (hI9.at 0 rfl) (Has.cons (hI9.at 1 rfl) (Has.cons (hI9.at 2 rfl) (Has.cons (hI9.at 3 rfl) (Has.cons (hI9.at 4 rfl) (Has.cons (hI9.at 5 rfl) Has.nil)))))) ).mono fun _ _ h => ⟨_, h.1, rfl, h.2⟩) fun ac53 v wd9 hR34 hf53 => ?_)
  obtain ⟨rfl, hR34⟩ := hR34
  have hI10 : Inv w [(b1, arr .i64 r33.leave.c.lk, 103), (b2, arr .i64 r33.leave.c.of, 3), (b3, arr .i64 r33.leave.c.mn, 3), (b4, #[.slice (some ⟨b1, 0, none⟩) (4 + 2) (4 + 2), .slice (some ⟨b2, 0, none⟩) 4 4, .slice (some ⟨b3, 0, none⟩) 2 2], 79), (b5, arr .i64 r33.leave.cr, 3), (b6, #[.pointer (some ⟨b4, 0, none⟩), .slice (some ⟨b5, 0, none⟩) 4 4, .int .i64 r33.leave.q], 45)] _ := Inv.callS (A := []) (S := [(b1, arr .i64 r33.c.lk, 103), (b2, arr .i64 r33.c.of, 3), (b3, arr .i64 r33.c.mn, 3), (b4, #[.slice (some ⟨b1, 0, none⟩) (4 + 2) (4 + 2), .slice (some ⟨b2, 0, none⟩) 4 4, .slice (some ⟨b3, 0, none⟩) 2 2], 79), (b5, arr .i64 r33.cr, 3), (b6, #[.pointer (some ⟨b4, 0, none⟩), .slice (some ⟨b5, 0, none⟩) 4 4, .int .i64 r33.q], 45)]) (S' := [(b1, arr .i64 r33.leave.c.lk, 103), (b2, arr .i64 r33.leave.c.of, 3), (b3, arr .i64 r33.leave.c.mn, 3), (b4, #[.slice (some ⟨b1, 0, none⟩) (4 + 2) (4 + 2), .slice (some ⟨b2, 0, none⟩) 4 4, .slice (some ⟨b3, 0, none⟩) 2 2], 79), (b5, arr .i64 r33.leave.cr, 3), (b6, #[.pointer (some ⟨b4, 0, none⟩), .slice (some ⟨b5, 0, none⟩) 4 4, .int .i64 r33.leave.q], 45)]) (L := []) (N := []) hI9 hR34 rfl (fun _ h => by cases h)
  have ev35 : r33.f = 1 := by clear hf53 hI10; subst er33 er26 er21 er18 er13 er10 er7; decide +kernel
  have ev36 : r33.leaveC = 70 := by clear hf53 hI10; subst er33 er26 er21 er18 er13 er10 er7; decide +kernel
  have ev37 : r33.ok = true := by clear hf53 hI10; subst er33 er26 er21 er18 er13 er10 er7; decide +kernel
  obtain ⟨r38, er38⟩ : ∃ r : Ro 4, r = r33.leave := ⟨_, rfl⟩
  rw [← er38] at hI10
  refine seq_one (op_val (v := .tuple #[.int .i64 r33.f, .int .i64 r33.leaveC, .bool r33.ok]) hf53 rfl rfl rfl rfl rfl rfl (r_move rfl) fun ac54 hf54 => ?_)
  refine seq_one (op_val (v := .int .i64 r33.f) hf54 rfl rfl rfl rfl rfl rfl (r_extract rfl rfl) fun ac55 hf55 => ?_)
  refine seq_one (op_val (v := .int .i64 r33.leaveC) hf55 rfl rfl rfl rfl rfl rfl (r_extract rfl rfl) fun ac56 hf56 => ?_)
  refine seq_one (op_val (v := .bool r33.ok) hf56 rfl rfl rfl rfl rfl rfl (r_extract rfl rfl) fun ac57 hf57 => ?_)
  refine seq_one (op_val (v := .int .i64 r33.f) hf57 rfl rfl rfl rfl rfl rfl (r_assign rfl) fun ac58 hf58 => ?_)
  refine seq_one (op_val (v := .int .i64 r33.leaveC) hf58 rfl rfl rfl rfl rfl rfl (r_assign rfl) fun ac59 hf59 => ?_)
  refine seq_one (op_val (v := .bool r33.ok) hf59 rfl rfl rfl rfl rfl rfl (r_assign rfl) fun ac60 hf60 => ?_)
  refine seq_end ?_
  clear ac51 hf51 ac52 wd8 hf52 hI9 hR34 ac53 hf53 ac54 hf54 ac55 hf55 ac56 hf56 ac57 hf57 ac58 hf58 ac59 hf59
  refine then_normal ?_
  refine code_seq ?_
  refine seq_start (l := [0, 1, 2, 3, 4, 5]) rfl ?_
  refine seq_one (op_pure hf60 rfl rfl rfl rfl ca_26 (newr_bad (by decide)) hI10 fun ac61 wd10 hI11 hf61 => ?_)
  refine seq_one (op_val (v := .tuple #[.pointer none, .int .i64 2]) hf61 rfl rfl rfl rfl rfl rfl (r_move rfl) fun ac62 hf62 => ?_)
  refine seq_one (op_val (v := .pointer none) hf62 rfl rfl rfl rfl rfl rfl (r_extract rfl rfl) fun ac63 hf63 => ?_)
  refine seq_one (op_val (v := .int .i64 2) hf63 rfl rfl rfl rfl rfl rfl (r_extract rfl rfl) fun ac64 hf64 => ?_)
  refine seq_one (op_val (v := .pointer none) hf64 rfl rfl rfl rfl rfl rfl (r_assign rfl) fun ac65 hf65 => ?_)
  refine seq_one (op_val (v := .int .i64 2) hf65 rfl rfl rfl rfl rfl rfl (r_assign rfl) fun ac66 hf66 => ?_)
  refine seq_end ?_
  clear ac60 wd9 hI10 hf60 ac61 hf61 ac62 hf62 ac63 hf63 ac64 hf64 ac65 hf65
  refine then_normal ?_
  refine code_seq ?_
  refine seq_start (l := [0, 1, 2, 3, 4, 5, 6, 7, 8, 9, 10, 11, 12, 13, 14, 15, 16, 17, 18, 19, 20, 21, 22, 23, 24, 25, 26, 27, 28, 29, 30, 31, 32, 33, 34, 35, 36, 37, 38, 39, 40, 41, 42, 43, 44, 45, 46, 47, 48, 49, 50, 51, 52, 53, 54, 55, 56, 57, 58, 59, 60, 61, 62, 63, 64, 65, 66, 67, 68]) rfl ?_
  refine seq_one (op_val (v := .int .i64 0) hf66 rfl rfl rfl rfl rfl rfl (r_move rfl) fun ac67 hf67 => ?_)
  refine seq_one (op_val (v := .bool true) hf67 rfl rfl rfl rfl rfl rfl (r_eqlC rfl rfl (by decide)) fun ac68 hf68 => ?_)
  refine seq_one (op_val (v := .bool true) hf68 rfl rfl rfl rfl rfl rfl (r_move rfl) fun ac69 hf69 => ?_)
  refine seq_one (op_val (v := .int .i64 (r7.enterE 0 2 50)) hf69 rfl rfl rfl rfl rfl rfl (r_move rfl) fun ac70 hf70 => ?_)
  refine seq_one (op_val (v := .bool ((r7.enterE 0 2 50) == 0)) hf70 rfl rfl rfl rfl rfl rfl (r_eql rfl rfl) fun ac71 hf71 => ?_)
  refine seq_one (op_val (v := .bool ((r7.enterE 0 2 50) == 0)) hf71 rfl rfl rfl rfl rfl rfl (r_pickT rfl rfl) fun ac72 hf72 => ?_)
  refine seq_one (op_val (v := .bool ((r7.enterE 0 2 50) == 0)) hf72 rfl rfl rfl rfl rfl rfl (r_move rfl) fun ac73 hf73 => ?_)
  have hf74 := hf73.know 71 (u := .bool true) rfl (congrArg Value.bool (beq_iff_eq.2 ev9))
  refine seq_one (op_val (v := .int .i64 (r10.enterE 1 1 (-30))) hf74 rfl rfl rfl rfl rfl rfl (r_move rfl) fun ac74 hf75 => ?_)
  refine seq_one (op_val (v := .bool ((r10.enterE 1 1 (-30)) == 0)) hf75 rfl rfl rfl rfl rfl rfl (r_eql rfl rfl) fun ac75 hf76 => ?_)
  refine seq_one (op_val (v := .bool ((r10.enterE 1 1 (-30)) == 0)) hf76 rfl rfl rfl rfl rfl rfl (r_pickT rfl rfl) fun ac76 hf77 => ?_)
  refine seq_one (op_val (v := .bool ((r10.enterE 1 1 (-30)) == 0)) hf77 rfl rfl rfl rfl rfl rfl (r_move rfl) fun ac77 hf78 => ?_)
  have hf79 := hf78.know 75 (u := .bool true) rfl (congrArg Value.bool (beq_iff_eq.2 ev12))
  refine seq_one (op_val (v := .int .i64 r13.head.f) hf79 rfl rfl rfl rfl rfl rfl (r_move rfl) fun ac78 hf80 => ?_)
  refine seq_one (op_val (v := .bool (r13.head.f == 2)) hf80 rfl rfl rfl rfl rfl rfl (r_eql rfl rfl) fun ac79 hf81 => ?_)
  refine seq_one (op_val (v := .bool (r13.head.f == 2)) hf81 rfl rfl rfl rfl rfl rfl (r_pickT rfl rfl) fun ac80 hf82 => ?_)
  refine seq_one (op_val (v := .bool (r13.head.f == 2)) hf82 rfl rfl rfl rfl rfl rfl (r_move rfl) fun ac81 hf83 => ?_)
  have hf84 := hf83.know 79 (u := .bool true) rfl (congrArg Value.bool (beq_iff_eq.2 ev15))
  refine seq_one (op_val (v := .int .i64 r13.headC) hf84 rfl rfl rfl rfl rfl rfl (r_move rfl) fun ac82 hf85 => ?_)
  refine seq_one (op_val (v := .bool (r13.headC == 50)) hf85 rfl rfl rfl rfl rfl rfl (r_eql rfl rfl) fun ac83 hf86 => ?_)
  refine seq_one (op_val (v := .bool (r13.headC == 50)) hf86 rfl rfl rfl rfl rfl rfl (r_pickT rfl rfl) fun ac84 hf87 => ?_)
  refine seq_one (op_val (v := .bool (r13.headC == 50)) hf87 rfl rfl rfl rfl rfl rfl (r_move rfl) fun ac85 hf88 => ?_)
  have hf89 := hf88.know 83 (u := .bool true) rfl (congrArg Value.bool (beq_iff_eq.2 ev16))
  refine seq_one (op_val (v := .bool r13.head.ok) hf89 rfl rfl rfl rfl rfl rfl (r_move rfl) fun ac86 hf90 => ?_)
  refine seq_one (op_val (v := .bool r13.head.ok) hf90 rfl rfl rfl rfl rfl rfl (r_pickT rfl rfl) fun ac87 hf91 => ?_)
  refine seq_one (op_val (v := .bool r13.head.ok) hf91 rfl rfl rfl rfl rfl rfl (r_move rfl) fun ac88 hf92 => ?_)
  have hf93 := hf92.know 86 (u := .bool true) rfl (congrArg Value.bool (ev17))
  refine seq_one (op_val (v := .int .i64 (r18.setE (-10))) hf93 rfl rfl rfl rfl rfl rfl (r_move rfl) fun ac89 hf94 => ?_)
  refine seq_one (op_val (v := .bool ((r18.setE (-10)) == 0)) hf94 rfl rfl rfl rfl rfl rfl (r_eql rfl rfl) fun ac90 hf95 => ?_)
  refine seq_one (op_val (v := .bool ((r18.setE (-10)) == 0)) hf95 rfl rfl rfl rfl rfl rfl (r_pickT rfl rfl) fun ac91 hf96 => ?_)
  refine seq_one (op_val (v := .bool ((r18.setE (-10)) == 0)) hf96 rfl rfl rfl rfl rfl rfl (r_move rfl) fun ac92 hf97 => ?_)
  have hf98 := hf97.know 90 (u := .bool true) rfl (congrArg Value.bool (beq_iff_eq.2 ev20))
  refine seq_one (op_val (v := .int .i64 r21.head.f) hf98 rfl rfl rfl rfl rfl rfl (r_move rfl) fun ac93 hf99 => ?_)
  refine seq_one (op_val (v := .bool (r21.head.f == 2)) hf99 rfl rfl rfl rfl rfl rfl (r_eql rfl rfl) fun ac94 hf100 => ?_)
  refine seq_one (op_val (v := .bool (r21.head.f == 2)) hf100 rfl rfl rfl rfl rfl rfl (r_pickT rfl rfl) fun ac95 hf101 => ?_)
  refine seq_one (op_val (v := .bool (r21.head.f == 2)) hf101 rfl rfl rfl rfl rfl rfl (r_move rfl) fun ac96 hf102 => ?_)
  have hf103 := hf102.know 94 (u := .bool true) rfl (congrArg Value.bool (beq_iff_eq.2 ev23))
  refine seq_one (op_val (v := .int .i64 r21.headC) hf103 rfl rfl rfl rfl rfl rfl (r_move rfl) fun ac97 hf104 => ?_)
  refine seq_one (op_val (v := .bool (r21.headC == 90)) hf104 rfl rfl rfl rfl rfl rfl (r_eql rfl rfl) fun ac98 hf105 => ?_)
  refine seq_one (op_val (v := .bool (r21.headC == 90)) hf105 rfl rfl rfl rfl rfl rfl (r_pickT rfl rfl) fun ac99 hf106 => ?_)
  refine seq_one (op_val (v := .bool (r21.headC == 90)) hf106 rfl rfl rfl rfl rfl rfl (r_move rfl) fun ac100 hf107 => ?_)
  have hf108 := hf107.know 98 (u := .bool true) rfl (congrArg Value.bool (beq_iff_eq.2 ev24))
  refine seq_one (op_val (v := .bool r21.head.ok) hf108 rfl rfl rfl rfl rfl rfl (r_move rfl) fun ac101 hf109 => ?_)
  refine seq_one (op_val (v := .bool r21.head.ok) hf109 rfl rfl rfl rfl rfl rfl (r_pickT rfl rfl) fun ac102 hf110 => ?_)
  refine seq_one (op_val (v := .bool r21.head.ok) hf110 rfl rfl rfl rfl rfl rfl (r_move rfl) fun ac103 hf111 => ?_)
  have hf112 := hf111.know 101 (u := .bool true) rfl (congrArg Value.bool (ev25))
  refine seq_one (op_val (v := .int .i64 (r26.crV 1)) hf112 rfl rfl rfl rfl rfl rfl (r_move rfl) fun ac104 hf113 => ?_)
  refine seq_one (op_val (v := .bool ((r26.crV 1) == 70)) hf113 rfl rfl rfl rfl rfl rfl (r_eql rfl rfl) fun ac105 hf114 => ?_)
  refine seq_one (op_val (v := .bool ((r26.crV 1) == 70)) hf114 rfl rfl rfl rfl rfl rfl (r_pickT rfl rfl) fun ac106 hf115 => ?_)
  refine seq_one (op_val (v := .bool ((r26.crV 1) == 70)) hf115 rfl rfl rfl rfl rfl rfl (r_move rfl) fun ac107 hf116 => ?_)
  have hf117 := hf116.know 105 (u := .bool true) rfl (congrArg Value.bool (beq_iff_eq.2 ev27))
  refine seq_one (op_val (v := .bool (r26.c.inn 1)) hf117 rfl rfl rfl rfl rfl rfl (r_move rfl) fun ac108 hf118 => ?_)
  refine seq_one (op_val (v := .bool (r26.c.inn 1)) hf118 rfl rfl rfl rfl rfl rfl (r_pickT rfl rfl) fun ac109 hf119 => ?_)
  refine seq_one (op_val (v := .bool (r26.c.inn 1)) hf119 rfl rfl rfl rfl rfl rfl (r_move rfl) fun ac110 hf120 => ?_)
  have hf121 := hf120.know 108 (u := .bool true) rfl (congrArg Value.bool (ev28))
  refine seq_one (op_val (v := .int .i64 r26.f) hf121 rfl rfl rfl rfl rfl rfl (r_move rfl) fun ac111 hf122 => ?_)
  refine seq_one (op_val (v := .bool (r26.f == 2)) hf122 rfl rfl rfl rfl rfl rfl (r_eql rfl rfl) fun ac112 hf123 => ?_)
  refine seq_one (op_val (v := .bool (r26.f == 2)) hf123 rfl rfl rfl rfl rfl rfl (r_pickT rfl rfl) fun ac113 hf124 => ?_)
  refine seq_one (op_val (v := .bool (r26.f == 2)) hf124 rfl rfl rfl rfl rfl rfl (r_move rfl) fun ac114 hf125 => ?_)
  have hf126 := hf125.know 112 (u := .bool true) rfl (congrArg Value.bool (beq_iff_eq.2 ev30))
  refine seq_one (op_val (v := .bool r26.idleL) hf126 rfl rfl rfl rfl rfl rfl (r_move rfl) fun ac115 hf127 => ?_)
  refine seq_one (op_val (v := .bool r26.idleL) hf127 rfl rfl rfl rfl rfl rfl (r_pickT rfl rfl) fun ac116 hf128 => ?_)
  refine seq_one (op_val (v := .bool r26.idleL) hf128 rfl rfl rfl rfl rfl rfl (r_move rfl) fun ac117 hf129 => ?_)
  have hf130 := hf129.know 115 (u := .bool true) rfl (congrArg Value.bool (ev31))
  refine seq_one (op_val (v := .bool r26.ok) hf130 rfl rfl rfl rfl rfl rfl (r_move rfl) fun ac118 hf131 => ?_)
  refine seq_one (op_val (v := .bool r26.ok) hf131 rfl rfl rfl rfl rfl rfl (r_pickT rfl rfl) fun ac119 hf132 => ?_)
  refine seq_one (op_val (v := .bool r26.ok) hf132 rfl rfl rfl rfl rfl rfl (r_move rfl) fun ac120 hf133 => ?_)
  have hf134 := hf133.know 118 (u := .bool true) rfl (congrArg Value.bool (ev32))
  refine seq_one (op_val (v := .int .i64 r33.f) hf134 rfl rfl rfl rfl rfl rfl (r_move rfl) fun ac121 hf135 => ?_)
  refine seq_one (op_val (v := .bool (r33.f == 1)) hf135 rfl rfl rfl rfl rfl rfl (r_eql rfl rfl) fun ac122 hf136 => ?_)
  refine seq_one (op_val (v := .bool (r33.f == 1)) hf136 rfl rfl rfl rfl rfl rfl (r_pickT rfl rfl) fun ac123 hf137 => ?_)
  refine seq_one (op_val (v := .bool (r33.f == 1)) hf137 rfl rfl rfl rfl rfl rfl (r_move rfl) fun ac124 hf138 => ?_)
  have hf139 := hf138.know 122 (u := .bool true) rfl (congrArg Value.bool (beq_iff_eq.2 ev35))
  refine seq_one (op_val (v := .int .i64 r33.leaveC) hf139 rfl rfl rfl rfl rfl rfl (r_move rfl) fun ac125 hf140 => ?_)
  refine seq_one (op_val (v := .bool (r33.leaveC == 70)) hf140 rfl rfl rfl rfl rfl rfl (r_eql rfl rfl) fun ac126 hf141 => ?_)
  refine seq_one (op_val (v := .bool (r33.leaveC == 70)) hf141 rfl rfl rfl rfl rfl rfl (r_pickT rfl rfl) fun ac127 hf142 => ?_)
  refine seq_one (op_val (v := .bool (r33.leaveC == 70)) hf142 rfl rfl rfl rfl rfl rfl (r_move rfl) fun ac128 hf143 => ?_)
  have hf144 := hf143.know 126 (u := .bool true) rfl (congrArg Value.bool (beq_iff_eq.2 ev36))
  refine seq_one (op_val (v := .bool r33.ok) hf144 rfl rfl rfl rfl rfl rfl (r_move rfl) fun ac129 hf145 => ?_)
  refine seq_one (op_val (v := .bool r33.ok) hf145 rfl rfl rfl rfl rfl rfl (r_pickT rfl rfl) fun ac130 hf146 => ?_)
  refine seq_one (op_val (v := .bool r33.ok) hf146 rfl rfl rfl rfl rfl rfl (r_move rfl) fun ac131 hf147 => ?_)
  have hf148 := hf147.know 129 (u := .bool true) rfl (congrArg Value.bool (ev37))
  refine seq_one (op_val (v := .int .i64 2) hf148 rfl rfl rfl rfl rfl rfl (r_move rfl) fun ac132 hf149 => ?_)
  refine seq_one (op_val (v := .bool true) hf149 rfl rfl rfl rfl rfl rfl (r_eqlC rfl rfl (by decide)) fun ac133 hf150 => ?_)
  refine seq_one (op_val (v := .bool true) hf150 rfl rfl rfl rfl rfl rfl (r_pickT rfl rfl) fun ac134 hf151 => ?_)
  refine seq_one (op_val (v := .bool true) hf151 rfl rfl rfl rfl rfl rfl (r_assign rfl) fun ac135 hf152 => ?_)
  refine seq_end ?_
  clear ac66 hf66 ac67 hf67 ac68 hf68 ac69 hf69 ac70 hf70 ac71 hf71 ac72 hf72 hf73 ac73 hf74 ac74 hf75 ac75 hf76 ac76 hf77 hf78 ac77 hf79 ac78 hf80 ac79 hf81 ac80 hf82 hf83 ac81 hf84 ac82 hf85 ac83 hf86 ac84 hf87 hf88 ac85 hf89 ac86 hf90 ac87 hf91 hf92 ac88 hf93 ac89 hf94 ac90 hf95 ac91 hf96 hf97 ac92 hf98 ac93 hf99 ac94 hf100 ac95 hf101 hf102 ac96 hf103 ac97 hf104 ac98 hf105 ac99 hf106 hf107 ac100 hf108 ac101 hf109 ac102 hf110 hf111 ac103 hf112 ac104 hf113 ac105 hf114 ac106 hf115 hf116 ac107 hf117 ac108 hf118 ac109 hf119 hf120 ac110 hf121 ac111 hf122 ac112 hf123 ac113 hf124 hf125 ac114 hf126 ac115 hf127 ac116 hf128 hf129 ac117 hf130 ac118 hf131 ac119 hf132 hf133 ac120 hf134 ac121 hf135 ac122 hf136 ac123 hf137 hf138 ac124 hf139 ac125 hf140 ac126 hf141 ac127 hf142 hf143 ac128 hf144 ac129 hf145 ac130 hf146 hf147 ac131 hf148 ac132 hf149 ac133 hf150 ac134 hf151
  refine then_normal ?_
  refine wp_ret ?_
  exact post1 rfl hf152 rfl ⟨rfl, hI11.done (fresh_keys (ks := [b1, b2, b3, b4, b5, b6]) rfl (fk_cons hb1 (fk_cons hb2 (fk_cons hb3 (fk_cons hb4 (fk_cons hb5 (fk_cons hb6 fk_nil)))))))⟩
set_option maxHeartbeats 8000000 in
theorem played17_walk {q : Int} (hq : 64 ≤ q ∧ q ≤ 1048576) {p : Option Addr} {L cap : Nat} {rows : List (List Value)} (hl : rows.length = L) (hc : L ≤ cap) (ho : ∀ row ∈ rows, Oks opKinds row) {w : World} (hr : Rows_ w p 3 rows) : Calls Try.prog 15 [.int .i64 q, .slice p L cap].toArray w fun e w' => ∃ lb ob mb cb rc rb, ∃ r : Ro 8, r.q = q ∧ w.heap.size ≤ lb ∧ w.heap.size ≤ ob ∧ w.heap.size ≤ mb ∧ w.heap.size ≤ cb ∧ w.heap.size ≤ rc ∧ w.heap.size ≤ rb ∧ e = .returned (.tuple #[.pointer (some ⟨rb, 0, none⟩), .bool true]) ∧ Inv w [(lb, arr .i64 r.c.lk, 103), (ob, arr .i64 r.c.of, 3), (mb, arr .i64 r.c.mn, 3), (cb, #[.slice (some ⟨lb, 0, none⟩) (8 + 2) (8 + 2), .slice (some ⟨ob, 0, none⟩) 8 8, .slice (some ⟨mb, 0, none⟩) 2 2], 79), (rc, arr .i64 r.cr, 3), (rb, #[.pointer (some ⟨cb, 0, none⟩), .slice (some ⟨rc, 0, none⟩) 8 8, .int .i64 r.q], 45)] w' := by
  have hI1 := Inv.start w
  refine enter (n := 65) Try.func15 rfl rfl rfl ?_
  intro ac1 hf1
  refine code_seq ?_
  refine seq_start (l := [0, 1]) rfl ?_
  refine seq_one (op_val (v := .pointer none) hf1 rfl rfl rfl rfl rfl rfl (r_assign rfl) fun ac2 hf2 => ?_)
  refine seq_one (op_val (v := .bool false) hf2 rfl rfl rfl rfl rfl rfl (r_assign rfl) fun ac3 hf3 => ?_)
  refine seq_end ?_
  clear ac1 hf1 ac2 hf2
  refine then_normal ?_
  refine code_seq ?_
  refine seq_start (l := [0, 1, 2, 3, 4, 5, 6]) rfl ?_
  refine seq_one (op_val (v := .int .i64 q) hf3 rfl rfl rfl rfl rfl rfl (r_move rfl) fun ac4 hf4 => ?_)
  refine seq_one (op_call (R := fun v w' => ∃ lb ob mb cb rc rb, Array.size (World.heap w) ≤ lb ∧ Array.size (World.heap w) ≤ ob ∧ Array.size (World.heap w) ≤ mb ∧ Array.size (World.heap w) ≤ cb ∧ Array.size (World.heap w) ≤ rc ∧ Array.size (World.heap w) ≤ rb ∧ v = .tuple #[.pointer (some ⟨rb, 0, none⟩), .int .i64 0] ∧ Inv w [(lb, arr .i64 ((Ro.new 8 q (by decide) (by decide) hq).c).lk, 103), (ob, arr .i64 ((Ro.new 8 q (by decide) (by decide) hq).c).of, 3), (mb, arr .i64 ((Ro.new 8 q (by decide) (by decide) hq).c).mn, 3), (cb, #[.slice (some ⟨lb, 0, none⟩) (8 + 2) (8 + 2), .slice (some ⟨ob, 0, none⟩) 8 8, .slice (some ⟨mb, 0, none⟩) 2 2], 79), (rc, arr .i64 (Ro.new 8 q (by decide) (by decide) hq).cr, 3), (rb, #[.pointer (some ⟨cb, 0, none⟩), .slice (some ⟨rc, 0, none⟩) 8 8, .int .i64 ((Ro.new 8 q (by decide) (by decide) hq).q)], 45)] w') hf4 rfl rfl rfl rfl ca_26 ((newr_walk (N := 8) (q := q) (by decide) (by decide) hq _).mono fun e w' ⟨lb, ob, mb, cb, rc, rb, h1, h2, h3, h4, h5, h6, h7, h8⟩ => ⟨_, h7, lb, ob, mb, cb, rc, rb, h1, h2, h3, h4, h5, h6, rfl, h8⟩) fun ac5 v wd1 hR hf5 => ?_)
  obtain ⟨b1, b2, b3, b4, b5, b6, hqb1, hqb2, hqb3, hqb4, hqb5, hqb6, rfl, hw6⟩ := hR
  have hb1 := Nat.le_trans hI1.size hqb1
  have hb2 := Nat.le_trans hI1.size hqb2
  have hb3 := Nat.le_trans hI1.size hqb3
  have hb4 := Nat.le_trans hI1.size hqb4
  have hb5 := Nat.le_trans hI1.size hqb5
  have hb6 := Nat.le_trans hI1.size hqb6
  have hI2 : Inv w [(b1, arr .i64 ((Ro.new 8 q (by decide) (by decide) hq).c).lk, 103), (b2, arr .i64 ((Ro.new 8 q (by decide) (by decide) hq).c).of, 3), (b3, arr .i64 ((Ro.new 8 q (by decide) (by decide) hq).c).mn, 3), (b4, #[.slice (some ⟨b1, 0, none⟩) (8 + 2) (8 + 2), .slice (some ⟨b2, 0, none⟩) 8 8, .slice (some ⟨b3, 0, none⟩) 2 2], 79), (b5, arr .i64 (Ro.new 8 q (by decide) (by decide) hq).cr, 3), (b6, #[.pointer (some ⟨b4, 0, none⟩), .slice (some ⟨b5, 0, none⟩) 8 8, .int .i64 ((Ro.new 8 q (by decide) (by decide) hq).q)], 45)] _ := hI1.callN hw6 (fk6 hqb1 hqb2 hqb3 hqb4 hqb5 hqb6)
  refine seq_one (op_val (v := .tuple #[.pointer (some ⟨b6, 0, none⟩), .int .i64 0]) hf5 rfl rfl rfl rfl rfl rfl (r_move rfl) fun ac6 hf6 => ?_)
  refine seq_one (op_val (v := .pointer (some ⟨b6, 0, none⟩)) hf6 rfl rfl rfl rfl rfl rfl (r_extract rfl rfl) fun ac7 hf7 => ?_)
  refine seq_one (op_val (v := .int .i64 0) hf7 rfl rfl rfl rfl rfl rfl (r_extract rfl rfl) fun ac8 hf8 => ?_)
  refine seq_one (op_val (v := .pointer (some ⟨b6, 0, none⟩)) hf8 rfl rfl rfl rfl rfl rfl (r_assign rfl) fun ac9 hf9 => ?_)
  refine seq_one (op_val (v := .int .i64 0) hf9 rfl rfl rfl rfl rfl rfl (r_assign rfl) fun ac10 hf10 => ?_)
  refine seq_end ?_
  clear ac3 hf3 ac4 hf4 hI1 hw6 hqb1 hqb2 hqb3 hqb4 hqb5 hqb6 ac5 hf5 ac6 hf6 ac7 hf7 ac8 hf8 ac9 hf9
  refine then_normal ?_
  refine code_seq ?_
  refine code_seq ?_
  refine seq_start (l := [0, 1, 2, 3, 4, 5, 6]) rfl ?_
  refine seq_one (op_val (v := .slice p L cap) hf10 rfl rfl rfl rfl rfl rfl (r_move rfl) fun ac11 hf11 => ?_)
  refine seq_one (op_val (v := .slice p L cap) hf11 rfl rfl rfl rfl rfl rfl (r_move rfl) fun ac12 hf12 => ?_)
  refine seq_one (op_val (v := .int .i64 (L : Int)) hf12 rfl rfl rfl rfl rfl rfl (r_len sl_23 rfl) fun ac13 hf13 => ?_)
  refine seq_one (op_val (v := .int .i64 ((min L 50 : Nat) : Int)) hf13 rfl rfl rfl rfl rfl rfl (r_minC (c := ((min L 50 : Nat) : Int)) rfl rfl (by split <;> omega)) fun ac14 hf14 => ?_)
  refine seq_one (op_val (v := .slice p (min L 50) cap) hf14 rfl rfl rfl rfl rfl rfl (r_sliceH (h := (min L 50)) sl_23 rfl rfl (by omega)) fun ac15 hf15 => ?_)
  refine seq_one (op_val (v := .int .i64 (((min L 50) : Nat) : Int)) hf15 rfl rfl rfl rfl rfl rfl (r_len sl_23 rfl) fun ac16 hf16 => ?_)
  refine seq_one (op_val (v := .int .i64 0) hf16 rfl rfl rfl rfl rfl rfl (r_move rfl) fun ac17 hf17 => ?_)
  refine seq_end ?_
  clear ac10 hf10 ac11 hf11 ac12 hf12 ac13 hf13 ac14 hf14 ac15 hf15 ac16 hf16
  refine then_normal ?_
  refine wp_block ?_
  refine code_loop (α := Nat × (Ro 8)) (fun (x : Nat × (Ro 8)) => match x with | (i, r) => [(0, .int .i64 q), (1, .slice p L cap), (4, .pointer none), (5, .bool false), (6, .pointer (some ⟨b6, 0, none⟩)), (7, .int .i64 0), (10, .tuple #[.pointer (some ⟨b6, 0, none⟩), .int .i64 0]), (11, .int .i64 q), (12, .tuple #[.pointer (some ⟨b6, 0, none⟩), .int .i64 0]), (13, .pointer (some ⟨b6, 0, none⟩)), (14, .int .i64 0), (15, .slice p L cap), (16, .slice p L cap), (17, .int .i64 (L : Int)), (18, .int .i64 ((min L 50 : Nat) : Int)), (19, .slice p (min L 50) cap), (20, .int .i64 (((min L 50) : Nat) : Int)), (21, .int .i64 (i : Int))]) (fun (x : Nat × (Ro 8)) => match x with | (i, r) => fun wL => Inv w [(b1, arr .i64 r.c.lk, 103), (b2, arr .i64 r.c.of, 3), (b3, arr .i64 r.c.mn, 3), (b4, #[.slice (some ⟨b1, 0, none⟩) (8 + 2) (8 + 2), .slice (some ⟨b2, 0, none⟩) 8 8, .slice (some ⟨b3, 0, none⟩) 2 2], 79), (b5, arr .i64 r.cr, 3), (b6, #[.pointer (some ⟨b4, 0, none⟩), .slice (some ⟨b5, 0, none⟩) 8 8, .int .i64 r.q], 45)] wL ∧ (i ≤ min L 50 ∧ r.q = q)) (fun (x : Nat × (Ro 8)) => match x with | (i, r) => min L 50 - i) (0, (Ro.new 8 q (by decide) (by decide) hq)) (hf17.cons 0 rfl (hf17.cons 1 rfl (hf17.cons 4 rfl (hf17.cons 5 rfl (hf17.cons 6 rfl (hf17.cons 7 rfl (hf17.cons 10 rfl (hf17.cons 11 rfl (hf17.cons 12 rfl (hf17.cons 13 rfl (hf17.cons 14 rfl (hf17.cons 15 rfl (hf17.cons 16 rfl (hf17.cons 17 rfl (hf17.cons 18 rfl (hf17.cons 19 rfl (hf17.cons 20 rfl (hf17.cons 21 rfl hf17.nil)))))))))))))))))) ⟨hI2, ⟨Nat.zero_le _, rfl⟩⟩ ?_
  intro ⟨i, r⟩ ac18 wd2 hf18 hL1
  obtain ⟨hI3, hx1⟩ := hL1
  dsimp only at hf18 hI3 hx1
  clear ac17 wd1 hf17 hI2
  refine code_seq ?_
  refine seq_start (l := [0]) rfl ?_
  refine seq_one (op_val (v := .bool (decide ((i : Int) < (((min L 50) : Nat) : Int)))) hf18 rfl rfl rfl rfl rfl rfl (r_lss rfl rfl) fun ac19 hf19 => ?_)
  refine seq_end ?_
  clear ac18 hf18
  refine then_normal ?_
  refine code_seq ?_
  refine code_if hf19 rfl (fun c22_1 => ?_) (fun c22_1 => ?_)
  · have hf20 := hf19.know 22 (u := .bool true) rfl (congrArg Value.bool c22_1)
    refine wp_skip ?_
    refine then_normal ?_
    refine code_seq ?_
    refine wp_block ?_
    refine code_seq ?_
    refine seq_start (l := [0, 1, 2, 3]) rfl ?_
    obtain ⟨kd7, ii7, nn7, hri7, hii7, hnn7⟩ := op_row (i := i) ho (by have := of_decide_eq_true c22_1; omega)
    refine seq_one (op_val (v := .pointer (slAt p (i * 3))) hf20 rfl rfl rfl rfl rfl rfl (r_indexAddrR (i := i) (sz := 3) sl_23 rfl rfl rfl (by have := of_decide_eq_true c22_1; omega) rfl ⟨_, ((hr.old hI3 (fresh_keys (ks := [b1, b2, b3, b4, b5, b6]) rfl (fk_cons hb1 (fk_cons hb2 (fk_cons hb3 (fk_cons hb4 (fk_cons hb5 (fk_cons hb6 fk_nil)))))))) _ _ hri7).choose_spec.1⟩) fun ac20 hf21 => ?_)
    refine seq_one (op_val (v := .agg #[.int .u8 kd7, .int .i64 ii7, .int .i64 nn7]) hf21 rfl rfl rfl rfl rfl rfl (r_loadRow ag_89 sz_89 rfl (hr.old hI3 (fresh_keys (ks := [b1, b2, b3, b4, b5, b6]) rfl (fk_cons hb1 (fk_cons hb2 (fk_cons hb3 (fk_cons hb4 (fk_cons hb5 (fk_cons hb6 fk_nil)))))))) hri7 rfl) fun ac21 hf22 => ?_)
    refine seq_one (op_alloc hf22 rfl rfl rfl ze_89 hI3 fun ac22 b8 wd3 hb8 hI4 hf23 => ?_)
    have hI5 : Inv w [(b1, arr .i64 r.c.lk, 103), (b2, arr .i64 r.c.of, 3), (b3, arr .i64 r.c.mn, 3), (b4, #[.slice (some ⟨b1, 0, none⟩) (8 + 2) (8 + 2), .slice (some ⟨b2, 0, none⟩) 8 8, .slice (some ⟨b3, 0, none⟩) 2 2], 79), (b5, arr .i64 r.cr, 3), (b6, #[.pointer (some ⟨b4, 0, none⟩), .slice (some ⟨b5, 0, none⟩) 8 8, .int .i64 r.q], 45), (b8, #[.int .u8 0, .int .i64 0, .int .i64 0], 89)] wd3 := hI4
    refine seq_one (op_storeW (cells := #[.int .u8 kd7, .int .i64 ii7, .int .i64 nn7]) 6 hf23 rfl rfl rfl rfl rfl sz_89 rfl rfl hI5 rfl rfl fun wd4 hI6 => ?_)
    have hI7 : Inv w [(b1, arr .i64 r.c.lk, 103), (b2, arr .i64 r.c.of, 3), (b3, arr .i64 r.c.mn, 3), (b4, #[.slice (some ⟨b1, 0, none⟩) (8 + 2) (8 + 2), .slice (some ⟨b2, 0, none⟩) 8 8, .slice (some ⟨b3, 0, none⟩) 2 2], 79), (b5, arr .i64 r.cr, 3), (b6, #[.pointer (some ⟨b4, 0, none⟩), .slice (some ⟨b5, 0, none⟩) 8 8, .int .i64 r.q], 45), (b8, #[.int .u8 kd7, .int .i64 ii7, .int .i64 nn7], 89)] wd4 := hI6
    refine seq_end ?_
    clear hf19 ac19 hf20 ac20 hf21 ac21 wd2 hI3 hf22 hI4 wd3 hI5 hI6
    refine then_normal ?_
    refine code_seq ?_
    refine seq_start (l := [0, 1]) rfl ?_
    refine seq_one (op_val (v := .pointer (some ⟨b8, 0, none⟩)) hf23 rfl rfl rfl rfl rfl rfl (r_fieldAddr fi_89_0 rfl rfl) fun ac23 hf24 => ?_)
    refine seq_one (op_val (v := .int .u8 kd7) hf24 rfl rfl rfl rfl rfl rfl (r_load ag_5 rfl (hI7.at 6 rfl) rfl) fun ac24 hf25 => ?_)
    refine seq_end ?_
    clear ac22 hf23 ac23 hf24
    refine then_normal ?_
    refine code_joinG 65 ((Ro 8)) (fun (d : Ro 8) => [(0, .int .i64 q), (1, .slice p L cap), (4, .pointer none), (5, .bool false), (6, .pointer (some ⟨b6, 0, none⟩)), (7, .int .i64 0), (9, .pointer (some ⟨b8, 0, none⟩)), (10, .tuple #[.pointer (some ⟨b6, 0, none⟩), .int .i64 0]), (11, .int .i64 q), (12, .tuple #[.pointer (some ⟨b6, 0, none⟩), .int .i64 0]), (13, .pointer (some ⟨b6, 0, none⟩)), (14, .int .i64 0), (15, .slice p L cap), (16, .slice p L cap), (17, .int .i64 (L : Int)), (18, .int .i64 ((min L 50 : Nat) : Int)), (19, .slice p (min L 50) cap), (20, .int .i64 (((min L 50) : Nat) : Int)), (21, .int .i64 (i : Int)), (22, .bool true), (23, .pointer (slAt p (i * 3))), (24, .agg #[.int .u8 kd7, .int .i64 ii7, .int .i64 nn7]), (25, .pointer (some ⟨b8, 0, none⟩)), (26, .int .u8 kd7)]) (fun (d : Ro 8) => fun w' => Inv w [(b1, arr .i64 d.c.lk, 103), (b2, arr .i64 d.c.of, 3), (b3, arr .i64 d.c.mn, 3), (b4, #[.slice (some ⟨b1, 0, none⟩) (8 + 2) (8 + 2), .slice (some ⟨b2, 0, none⟩) 8 8, .slice (some ⟨b3, 0, none⟩) 2 2], 79), (b5, arr .i64 d.cr, 3), (b6, #[.pointer (some ⟨b4, 0, none⟩), .slice (some ⟨b5, 0, none⟩) 8 8, .int .i64 d.q], 45), (b8, #[.int .u8 kd7, .int .i64 ii7, .int .i64 nn7], 89)] w' ∧ (d.q = q)) ?_ ?_
    ·
      refine wp_block ?_
      refine code_seq ?_
      refine seq_start (l := [0, 1]) rfl ?_
      refine seq_one (op_val (v := .bool (kd7 == 1)) hf25 rfl rfl rfl rfl rfl rfl (r_eql rfl rfl) fun ac25 hf26 => ?_)
      refine seq_one (op_val (v := .bool (kd7 == 1)) hf26 rfl rfl rfl rfl rfl rfl (r_assign rfl) fun ac26 hf27 => ?_)
      refine seq_end ?_
      clear ac24 hf25 ac25 hf26
      refine then_normal ?_
      refine code_if hf27 rfl (fun c27_2 => ?_) (fun c27_2 => ?_)
      · have hf28 := hf27.know 27 (u := .bool true) rfl (congrArg Value.bool c27_2)
        refine seq_start (l := [0, 1, 2, 3, 4, 5]) rfl ?_
        refine seq_one (op_val (v := .pointer (some ⟨b6, 0, none⟩)) hf28 rfl rfl rfl rfl rfl rfl (r_move rfl) fun ac27 hf29 => ?_)
        refine seq_one (op_val (v := .pointer (some ⟨b8, 1, none⟩)) hf29 rfl rfl rfl rfl rfl rfl (r_fieldAddr fi_89_1 rfl rfl) fun ac28 hf30 => ?_)
        refine seq_one (op_val (v := .int .i64 ii7) hf30 rfl rfl rfl rfl rfl rfl (r_load ag_3 rfl (hI7.at 6 rfl) rfl) fun ac29 hf31 => ?_)
        refine seq_one (op_val (v := .pointer (some ⟨b8, 2, none⟩)) hf31 rfl rfl rfl rfl rfl rfl (r_fieldAddr fi_89_2 rfl rfl) fun ac30 hf32 => ?_)
        refine seq_one (op_val (v := .int .i64 nn7) hf32 rfl rfl rfl rfl rfl rfl (r_load ag_3 rfl (hI7.at 6 rfl) rfl) fun ac31 hf33 => ?_)
        refine seq_one (op_call (R := fun v w' => v = .int .i64 (r.enterE 0 ii7 nn7) ∧ Inv _ [(b1, arr .i64 ((r.enter 0 ii7 nn7).c).lk, 103), (b2, arr .i64 ((r.enter 0 ii7 nn7).c).of, 3), (b3, arr .i64 ((r.enter 0 ii7 nn7).c).mn, 3), (b4, #[.slice (some ⟨b1, 0, none⟩) (8 + 2) (8 + 2), .slice (some ⟨b2, 0, none⟩) 8 8, .slice (some ⟨b3, 0, none⟩) 2 2], 79), (b5, arr .i64 (r.enter 0 ii7 nn7).cr, 3), (b6, #[.pointer (some ⟨b4, 0, none⟩), .slice (some ⟨b5, 0, none⟩) 8 8, .int .i64 ((r.enter 0 ii7 nn7).q)], 45)] w') hf33 rfl rfl rfl rfl ca_24 ((join_any (hI7.nd6 0 rfl rfl rfl rfl rfl rfl) r (Has.cons (hI7.at 0 rfl) (Has.cons (hI7.at 1 rfl) (Has.cons (hI7.at 2 rfl) (Has.cons (hI7.at 3 rfl) (Has.cons (hI7.at 4 rfl) (Has.cons (hI7.at 5 rfl) Has.nil)))))) ii7 nn7).mono fun _ _ h => ⟨_, h.1, rfl, h.2⟩) fun ac32 v wd5 hR9 hf34 => ?_)
        obtain ⟨rfl, hR9⟩ := hR9
        have hI8 : Inv w [(b1, arr .i64 ((r.enter 0 ii7 nn7).c).lk, 103), (b2, arr .i64 ((r.enter 0 ii7 nn7).c).of, 3), (b3, arr .i64 ((r.enter 0 ii7 nn7).c).mn, 3), (b4, #[.slice (some ⟨b1, 0, none⟩) (8 + 2) (8 + 2), .slice (some ⟨b2, 0, none⟩) 8 8, .slice (some ⟨b3, 0, none⟩) 2 2], 79), (b5, arr .i64 (r.enter 0 ii7 nn7).cr, 3), (b6, #[.pointer (some ⟨b4, 0, none⟩), .slice (some ⟨b5, 0, none⟩) 8 8, .int .i64 ((r.enter 0 ii7 nn7).q)], 45), (b8, #[.int .u8 kd7, .int .i64 ii7, .int .i64 nn7], 89)] _ := Inv.callS (A := []) (S := [(b1, arr .i64 r.c.lk, 103), (b2, arr .i64 r.c.of, 3), (b3, arr .i64 r.c.mn, 3), (b4, #[.slice (some ⟨b1, 0, none⟩) (8 + 2) (8 + 2), .slice (some ⟨b2, 0, none⟩) 8 8, .slice (some ⟨b3, 0, none⟩) 2 2], 79), (b5, arr .i64 r.cr, 3), (b6, #[.pointer (some ⟨b4, 0, none⟩), .slice (some ⟨b5, 0, none⟩) 8 8, .int .i64 r.q], 45)]) (S' := [(b1, arr .i64 ((r.enter 0 ii7 nn7).c).lk, 103), (b2, arr .i64 ((r.enter 0 ii7 nn7).c).of, 3), (b3, arr .i64 ((r.enter 0 ii7 nn7).c).mn, 3), (b4, #[.slice (some ⟨b1, 0, none⟩) (8 + 2) (8 + 2), .slice (some ⟨b2, 0, none⟩) 8 8, .slice (some ⟨b3, 0, none⟩) 2 2], 79), (b5, arr .i64 (r.enter 0 ii7 nn7).cr, 3), (b6, #[.pointer (some ⟨b4, 0, none⟩), .slice (some ⟨b5, 0, none⟩) 8 8, .int .i64 ((r.enter 0 ii7 nn7).q)], 45)]) (L := [(b8, #[.int .u8 kd7, .int .i64 ii7, .int .i64 nn7], 89)]) (N := []) hI7 hR9 rfl (fun _ h => by cases h)
        refine seq_end ?_
        clear hf27 ac26 hf28 ac27 hf29 ac28 hf30 ac29 hf31 ac30 hf32 ac31 wd4 hf33 hI7 hR9
        refine block_normal ?_
        refine then_normal ?_
        exact ⟨((r.enter 0 ii7 nn7)), (hf34.cons 0 rfl (hf34.cons 1 rfl (hf34.cons 4 rfl (hf34.cons 5 rfl (hf34.cons 6 rfl (hf34.cons 7 rfl (hf34.cons 9 rfl (hf34.cons 10 rfl (hf34.cons 11 rfl (hf34.cons 12 rfl (hf34.cons 13 rfl (hf34.cons 14 rfl (hf34.cons 15 rfl (hf34.cons 16 rfl (hf34.cons 17 rfl (hf34.cons 18 rfl (hf34.cons 19 rfl (hf34.cons 20 rfl (hf34.cons 21 rfl (hf34.cons 22 rfl (hf34.cons 23 rfl (hf34.cons 24 rfl (hf34.cons 25 rfl (hf34.cons 26 rfl hf34.nil)))))))))))))))))))))))), ⟨hI8, ((Ro.q_enter _ _ _ _).trans hx1.2)⟩⟩
      · have hf35 := hf27.know 27 (u := .bool false) rfl (congrArg Value.bool c27_2)
        refine code_seq ?_
        refine seq_start (l := [0, 1]) rfl ?_
        refine seq_one (op_val (v := .bool (kd7 == 2)) hf35 rfl rfl rfl rfl rfl rfl (r_eql rfl rfl) fun ac33 hf36 => ?_)
        refine seq_one (op_val (v := .bool (kd7 == 2)) hf36 rfl rfl rfl rfl rfl rfl (r_assign rfl) fun ac34 hf37 => ?_)
        refine seq_end ?_
        clear hf27 ac26 hf35 ac33 hf36
        refine then_normal ?_
        refine code_if hf37 rfl (fun c35_3 => ?_) (fun c35_3 => ?_)
        · have hf38 := hf37.know 35 (u := .bool true) rfl (congrArg Value.bool c35_3)
          refine seq_start (l := [0, 1, 2, 3, 4, 5]) rfl ?_
          refine seq_one (op_val (v := .pointer (some ⟨b6, 0, none⟩)) hf38 rfl rfl rfl rfl rfl rfl (r_move rfl) fun ac35 hf39 => ?_)
          refine seq_one (op_val (v := .pointer (some ⟨b8, 1, none⟩)) hf39 rfl rfl rfl rfl rfl rfl (r_fieldAddr fi_89_1 rfl rfl) fun ac36 hf40 => ?_)
          refine seq_one (op_val (v := .int .i64 ii7) hf40 rfl rfl rfl rfl rfl rfl (r_load ag_3 rfl (hI7.at 6 rfl) rfl) fun ac37 hf41 => ?_)
          refine seq_one (op_val (v := .pointer (some ⟨b8, 2, none⟩)) hf41 rfl rfl rfl rfl rfl rfl (r_fieldAddr fi_89_2 rfl rfl) fun ac38 hf42 => ?_)
          refine seq_one (op_val (v := .int .i64 nn7) hf42 rfl rfl rfl rfl rfl rfl (r_load ag_3 rfl (hI7.at 6 rfl) rfl) fun ac39 hf43 => ?_)
          refine seq_one (op_call (R := fun v w' => v = .int .i64 (r.enterE 1 ii7 nn7) ∧ Inv _ [(b1, arr .i64 ((r.enter 1 ii7 nn7).c).lk, 103), (b2, arr .i64 ((r.enter 1 ii7 nn7).c).of, 3), (b3, arr .i64 ((r.enter 1 ii7 nn7).c).mn, 3), (b4, #[.slice (some ⟨b1, 0, none⟩) (8 + 2) (8 + 2), .slice (some ⟨b2, 0, none⟩) 8 8, .slice (some ⟨b3, 0, none⟩) 2 2], 79), (b5, arr .i64 (r.enter 1 ii7 nn7).cr, 3), (b6, #[.pointer (some ⟨b4, 0, none⟩), .slice (some ⟨b5, 0, none⟩) 8 8, .int .i64 ((r.enter 1 ii7 nn7).q)], 45)] w') hf43 rfl rfl rfl rfl ca_25 ((back_any (hI7.nd6 0 rfl rfl rfl rfl rfl rfl) r (Has.cons (hI7.at 0 rfl) (Has.cons (hI7.at 1 rfl) (Has.cons (hI7.at 2 rfl) (Has.cons (hI7.at 3 rfl) (Has.cons (hI7.at 4 rfl) (Has.cons (hI7.at 5 rfl) Has.nil)))))) ii7 nn7).mono fun _ _ h => ⟨_, h.1, rfl, h.2⟩) fun ac40 v wd6 hR9 hf44 => ?_)
          obtain ⟨rfl, hR9⟩ := hR9
          have hI9 : Inv w [(b1, arr .i64 ((r.enter 1 ii7 nn7).c).lk, 103), (b2, arr .i64 ((r.enter 1 ii7 nn7).c).of, 3), (b3, arr .i64 ((r.enter 1 ii7 nn7).c).mn, 3), (b4, #[.slice (some ⟨b1, 0, none⟩) (8 + 2) (8 + 2), .slice (some ⟨b2, 0, none⟩) 8 8, .slice (some ⟨b3, 0, none⟩) 2 2], 79), (b5, arr .i64 (r.enter 1 ii7 nn7).cr, 3), (b6, #[.pointer (some ⟨b4, 0, none⟩), .slice (some ⟨b5, 0, none⟩) 8 8, .int .i64 ((r.enter 1 ii7 nn7).q)], 45), (b8, #[.int .u8 kd7, .int .i64 ii7, .int .i64 nn7], 89)] _ := Inv.callS (A := []) (S := [(b1, arr .i64 r.c.lk, 103), (b2, arr .i64 r.c.of, 3), (b3, arr .i64 r.c.mn, 3), (b4, #[.slice (some ⟨b1, 0, none⟩) (8 + 2) (8 + 2), .slice (some ⟨b2, 0, none⟩) 8 8, .slice (some ⟨b3, 0, none⟩) 2 2], 79), (b5, arr .i64 r.cr, 3), (b6, #[.pointer (some ⟨b4, 0, none⟩), .slice (some ⟨b5, 0, none⟩) 8 8, .int .i64 r.q], 45)]) (S' := [(b1, arr .i64 ((r.enter 1 ii7 nn7).c).lk, 103), (b2, arr .i64 ((r.enter 1 ii7 nn7).c).of, 3), (b3, arr .i64 ((r.enter 1 ii7 nn7).c).mn, 3), (b4, #[.slice (some ⟨b1, 0, none⟩) (8 + 2) (8 + 2), .slice (some ⟨b2, 0, none⟩) 8 8, .slice (some ⟨b3, 0, none⟩) 2 2], 79), (b5, arr .i64 (r.enter 1 ii7 nn7).cr, 3), (b6, #[.pointer (some ⟨b4, 0, none⟩), .slice (some ⟨b5, 0, none⟩) 8 8, .int .i64 ((r.enter 1 ii7 nn7).q)], 45)]) (L := [(b8, #[.int .u8 kd7, .int .i64 ii7, .int .i64 nn7], 89)]) (N := []) hI7 hR9 rfl (fun _ h => by cases h)
          refine seq_end ?_
          clear hf37 ac34 hf38 ac35 hf39 ac36 hf40 ac37 hf41 ac38 hf42 ac39 wd4 hf43 hI7 hR9
          refine block_normal ?_
          refine then_normal ?_
          exact ⟨((r.enter 1 ii7 nn7)), (hf44.cons 0 rfl (hf44.cons 1 rfl (hf44.cons 4 rfl (hf44.cons 5 rfl (hf44.cons 6 rfl (hf44.cons 7 rfl (hf44.cons 9 rfl (hf44.cons 10 rfl (hf44.cons 11 rfl (hf44.cons 12 rfl (hf44.cons 13 rfl (hf44.cons 14 rfl (hf44.cons 15 rfl (hf44.cons 16 rfl (hf44.cons 17 rfl (hf44.cons 18 rfl (hf44.cons 19 rfl (hf44.cons 20 rfl (hf44.cons 21 rfl (hf44.cons 22 rfl (hf44.cons 23 rfl (hf44.cons 24 rfl (hf44.cons 25 rfl (hf44.cons 26 rfl hf44.nil)))))))))))))))))))))))), ⟨hI9, ((Ro.q_enter _ _ _ _).trans hx1.2)⟩⟩
        · have hf45 := hf37.know 35 (u := .bool false) rfl (congrArg Value.bool c35_3)
          refine code_seq ?_
          refine seq_start (l := [0, 1]) rfl ?_
          refine seq_one (op_val (v := .bool (kd7 == 3)) hf45 rfl rfl rfl rfl rfl rfl (r_eql rfl rfl) fun ac41 hf46 => ?_)
          refine seq_one (op_val (v := .bool (kd7 == 3)) hf46 rfl rfl rfl rfl rfl rfl (r_assign rfl) fun ac42 hf47 => ?_)
          refine seq_end ?_
          clear hf37 ac34 hf45 ac41 hf46
          refine then_normal ?_
          refine code_if hf47 rfl (fun c43_4 => ?_) (fun c43_4 => ?_)
          · have hf48 := hf47.know 43 (u := .bool true) rfl (congrArg Value.bool c43_4)
            refine seq_start (l := [0, 1]) rfl ?_
            refine seq_one (op_val (v := .pointer (some ⟨b6, 0, none⟩)) hf48 rfl rfl rfl rfl rfl rfl (r_move rfl) fun ac43 hf49 => ?_)
            refine seq_one (op_call (R := fun v w' => v = .tuple #[.int .i64 r.head.f, .int .i64 r.headC, .bool r.head.ok] ∧ Inv _ [(b1, arr .i64 r.head.c.lk, 103), (b2, arr .i64 r.head.c.of, 3), (b3, arr .i64 r.head.c.mn, 3), (b4, #[.slice (some ⟨b1, 0, none⟩) (8 + 2) (8 + 2), .slice (some ⟨b2, 0, none⟩) 8 8, .slice (some ⟨b3, 0, none⟩) 2 2], 79), (b5, arr .i64 r.head.cr, 3), (b6, #[.pointer (some ⟨b4, 0, none⟩), .slice (some ⟨b5, 0, none⟩) 8 8, .int .i64 r.head.q], 45)] w') hf49 rfl rfl rfl rfl ca_20 ((head_any (hI7.nd6 0 rfl rfl rfl rfl rfl rfl) r (Has.cons (hI7.at 0 rfl) (Has.cons (hI7.at 1 rfl) (Has.cons (hI7.at 2 rfl) (Has.cons (hI7.at 3 rfl) (Has.cons (hI7.at 4 rfl) (Has.cons (hI7.at 5 rfl) Has.nil)))))) ).mono fun _ _ h => ⟨_, h.1, rfl, h.2⟩) fun ac44 v wd7 hR9 hf50 => ?_)
            obtain ⟨rfl, hR9⟩ := hR9
            have hI10 : Inv w [(b1, arr .i64 r.head.c.lk, 103), (b2, arr .i64 r.head.c.of, 3), (b3, arr .i64 r.head.c.mn, 3), (b4, #[.slice (some ⟨b1, 0, none⟩) (8 + 2) (8 + 2), .slice (some ⟨b2, 0, none⟩) 8 8, .slice (some ⟨b3, 0, none⟩) 2 2], 79), (b5, arr .i64 r.head.cr, 3), (b6, #[.pointer (some ⟨b4, 0, none⟩), .slice (some ⟨b5, 0, none⟩) 8 8, .int .i64 r.head.q], 45), (b8, #[.int .u8 kd7, .int .i64 ii7, .int .i64 nn7], 89)] _ := Inv.callS (A := []) (S := [(b1, arr .i64 r.c.lk, 103), (b2, arr .i64 r.c.of, 3), (b3, arr .i64 r.c.mn, 3), (b4, #[.slice (some ⟨b1, 0, none⟩) (8 + 2) (8 + 2), .slice (some ⟨b2, 0, none⟩) 8 8, .slice (some ⟨b3, 0, none⟩) 2 2], 79), (b5, arr .i64 r.cr, 3), (b6, #[.pointer (some ⟨b4, 0, none⟩), .slice (some ⟨b5, 0, none⟩) 8 8, .int .i64 r.q], 45)]) (S' := [(b1, arr .i64 r.head.c.lk, 103), (b2, arr .i64 r.head.c.of, 3), (b3, arr .i64 r.head.c.mn, 3), (b4, #[.slice (some ⟨b1, 0, none⟩) (8 + 2) (8 + 2), .slice (some ⟨b2, 0, none⟩) 8 8, .slice (some ⟨b3, 0, none⟩) 2 2], 79), (b5, arr .i64 r.head.cr, 3), (b6, #[.pointer (some ⟨b4, 0, none⟩), .slice (some ⟨b5, 0, none⟩) 8 8, .int .i64 r.head.q], 45)]) (L := [(b8, #[.int .u8 kd7, .int .i64 ii7, .int .i64 nn7], 89)]) (N := []) hI7 hR9 rfl (fun _ h => by cases h)
            refine seq_end ?_
            clear hf47 ac42 hf48 ac43 wd4 hf49 hI7 hR9
            refine block_normal ?_
            refine then_normal ?_
            exact ⟨(r.head), (hf50.cons 0 rfl (hf50.cons 1 rfl (hf50.cons 4 rfl (hf50.cons 5 rfl (hf50.cons 6 rfl (hf50.cons 7 rfl (hf50.cons 9 rfl (hf50.cons 10 rfl (hf50.cons 11 rfl (hf50.cons 12 rfl (hf50.cons 13 rfl (hf50.cons 14 rfl (hf50.cons 15 rfl (hf50.cons 16 rfl (hf50.cons 17 rfl (hf50.cons 18 rfl (hf50.cons 19 rfl (hf50.cons 20 rfl (hf50.cons 21 rfl (hf50.cons 22 rfl (hf50.cons 23 rfl (hf50.cons 24 rfl (hf50.cons 25 rfl (hf50.cons 26 rfl hf50.nil)))))))))))))))))))))))), ⟨hI10, ((Ro.q_head _).trans hx1.2)⟩⟩
          · have hf51 := hf47.know 43 (u := .bool false) rfl (congrArg Value.bool c43_4)
            refine code_seq ?_
            refine seq_start (l := [0, 1]) rfl ?_
            refine seq_one (op_val (v := .bool (kd7 == 4)) hf51 rfl rfl rfl rfl rfl rfl (r_eql rfl rfl) fun ac45 hf52 => ?_)
            refine seq_one (op_val (v := .bool (kd7 == 4)) hf52 rfl rfl rfl rfl rfl rfl (r_assign rfl) fun ac46 hf53 => ?_)
            refine seq_end ?_
            clear hf47 ac42 hf51 ac45 hf52
            refine then_normal ?_
            refine code_if hf53 rfl (fun c47_5 => ?_) (fun c47_5 => ?_)
            · have hf54 := hf53.know 47 (u := .bool true) rfl (congrArg Value.bool c47_5)
              refine seq_start (l := [0, 1, 2, 3]) rfl ?_
              refine seq_one (op_val (v := .pointer (some ⟨b6, 0, none⟩)) hf54 rfl rfl rfl rfl rfl rfl (r_move rfl) fun ac47 hf55 => ?_)
              refine seq_one (op_val (v := .pointer (some ⟨b8, 2, none⟩)) hf55 rfl rfl rfl rfl rfl rfl (r_fieldAddr fi_89_2 rfl rfl) fun ac48 hf56 => ?_)
              refine seq_one (op_val (v := .int .i64 nn7) hf56 rfl rfl rfl rfl rfl rfl (r_load ag_3 rfl (hI7.at 6 rfl) rfl) fun ac49 hf57 => ?_)
              refine seq_one (op_call (R := fun v w' => v = .int .i64 (r.setE nn7) ∧ Inv _ [(b1, arr .i64 ((r.set nn7).c).lk, 103), (b2, arr .i64 ((r.set nn7).c).of, 3), (b3, arr .i64 ((r.set nn7).c).mn, 3), (b4, #[.slice (some ⟨b1, 0, none⟩) (8 + 2) (8 + 2), .slice (some ⟨b2, 0, none⟩) 8 8, .slice (some ⟨b3, 0, none⟩) 2 2], 79), (b5, arr .i64 (r.set nn7).cr, 3), (b6, #[.pointer (some ⟨b4, 0, none⟩), .slice (some ⟨b5, 0, none⟩) 8 8, .int .i64 ((r.set nn7).q)], 45)] w') hf57 rfl rfl rfl rfl ca_22 ((set_any (hI7.nd6 0 rfl rfl rfl rfl rfl rfl) r (Has.cons (hI7.at 0 rfl) (Has.cons (hI7.at 1 rfl) (Has.cons (hI7.at 2 rfl) (Has.cons (hI7.at 3 rfl) (Has.cons (hI7.at 4 rfl) (Has.cons (hI7.at 5 rfl) Has.nil)))))) nn7).mono fun _ _ h => ⟨_, h.1, rfl, h.2⟩) fun ac50 v wd8 hR9 hf58 => ?_)
              obtain ⟨rfl, hR9⟩ := hR9
              have hI11 : Inv w [(b1, arr .i64 ((r.set nn7).c).lk, 103), (b2, arr .i64 ((r.set nn7).c).of, 3), (b3, arr .i64 ((r.set nn7).c).mn, 3), (b4, #[.slice (some ⟨b1, 0, none⟩) (8 + 2) (8 + 2), .slice (some ⟨b2, 0, none⟩) 8 8, .slice (some ⟨b3, 0, none⟩) 2 2], 79), (b5, arr .i64 (r.set nn7).cr, 3), (b6, #[.pointer (some ⟨b4, 0, none⟩), .slice (some ⟨b5, 0, none⟩) 8 8, .int .i64 ((r.set nn7).q)], 45), (b8, #[.int .u8 kd7, .int .i64 ii7, .int .i64 nn7], 89)] _ := Inv.callS (A := []) (S := [(b1, arr .i64 r.c.lk, 103), (b2, arr .i64 r.c.of, 3), (b3, arr .i64 r.c.mn, 3), (b4, #[.slice (some ⟨b1, 0, none⟩) (8 + 2) (8 + 2), .slice (some ⟨b2, 0, none⟩) 8 8, .slice (some ⟨b3, 0, none⟩) 2 2], 79), (b5, arr .i64 r.cr, 3), (b6, #[.pointer (some ⟨b4, 0, none⟩), .slice (some ⟨b5, 0, none⟩) 8 8, .int .i64 r.q], 45)]) (S' := [(b1, arr .i64 ((r.set nn7).c).lk, 103), (b2, arr .i64 ((r.set nn7).c).of, 3), (b3, arr .i64 ((r.set nn7).c).mn, 3), (b4, #[.slice (some ⟨b1, 0, none⟩) (8 + 2) (8 + 2), .slice (some ⟨b2, 0, none⟩) 8 8, .slice (some ⟨b3, 0, none⟩) 2 2], 79), (b5, arr .i64 (r.set nn7).cr, 3), (b6, #[.pointer (some ⟨b4, 0, none⟩), .slice (some ⟨b5, 0, none⟩) 8 8, .int .i64 ((r.set nn7).q)], 45)]) (L := [(b8, #[.int .u8 kd7, .int .i64 ii7, .int .i64 nn7], 89)]) (N := []) hI7 hR9 rfl (fun _ h => by cases h)
              refine seq_end ?_
              clear hf53 ac46 hf54 ac47 hf55 ac48 hf56 ac49 wd4 hf57 hI7 hR9
              refine block_normal ?_
              refine then_normal ?_
              exact ⟨((r.set nn7)), (hf58.cons 0 rfl (hf58.cons 1 rfl (hf58.cons 4 rfl (hf58.cons 5 rfl (hf58.cons 6 rfl (hf58.cons 7 rfl (hf58.cons 9 rfl (hf58.cons 10 rfl (hf58.cons 11 rfl (hf58.cons 12 rfl (hf58.cons 13 rfl (hf58.cons 14 rfl (hf58.cons 15 rfl (hf58.cons 16 rfl (hf58.cons 17 rfl (hf58.cons 18 rfl (hf58.cons 19 rfl (hf58.cons 20 rfl (hf58.cons 21 rfl (hf58.cons 22 rfl (hf58.cons 23 rfl (hf58.cons 24 rfl (hf58.cons 25 rfl (hf58.cons 26 rfl hf58.nil)))))))))))))))))))))))), ⟨hI11, ((Ro.q_set _ _).trans hx1.2)⟩⟩
            · have hf59 := hf53.know 47 (u := .bool false) rfl (congrArg Value.bool c47_5)
              refine code_seq ?_
              refine seq_start (l := [0, 1]) rfl ?_
              refine seq_one (op_val (v := .bool (kd7 == 5)) hf59 rfl rfl rfl rfl rfl rfl (r_eql rfl rfl) fun ac51 hf60 => ?_)
              refine seq_one (op_val (v := .bool (kd7 == 5)) hf60 rfl rfl rfl rfl rfl rfl (r_assign rfl) fun ac52 hf61 => ?_)
              refine seq_end ?_
              clear hf53 ac46 hf59 ac51 hf60
              refine then_normal ?_
              refine code_if hf61 rfl (fun c53_6 => ?_) (fun c53_6 => ?_)
              · have hf62 := hf61.know 53 (u := .bool true) rfl (congrArg Value.bool c53_6)
                refine seq_start (l := [0, 1]) rfl ?_
                refine seq_one (op_val (v := .pointer (some ⟨b6, 0, none⟩)) hf62 rfl rfl rfl rfl rfl rfl (r_move rfl) fun ac53 hf63 => ?_)
                refine seq_one (op_call (R := fun v w' => v = .tuple #[.int .i64 r.f, .int .i64 r.leaveC, .bool r.ok] ∧ Inv _ [(b1, arr .i64 r.leave.c.lk, 103), (b2, arr .i64 r.leave.c.of, 3), (b3, arr .i64 r.leave.c.mn, 3), (b4, #[.slice (some ⟨b1, 0, none⟩) (8 + 2) (8 + 2), .slice (some ⟨b2, 0, none⟩) 8 8, .slice (some ⟨b3, 0, none⟩) 2 2], 79), (b5, arr .i64 r.leave.cr, 3), (b6, #[.pointer (some ⟨b4, 0, none⟩), .slice (some ⟨b5, 0, none⟩) 8 8, .int .i64 r.leave.q], 45)] w') hf63 rfl rfl rfl rfl ca_18 ((leave_any (hI7.nd6 0 rfl rfl rfl rfl rfl rfl) r (Has.cons (hI7.at 0 rfl) (Has.cons (hI7.at 1 rfl) (Has.cons (hI7.at 2 rfl) (Has.cons (hI7.at 3 rfl) (Has.cons (hI7.at 4 rfl) (Has.cons (hI7.at 5 rfl) Has.nil)))))) ).mono fun _ _ h => ⟨_, h.1, rfl, h.2⟩) fun ac54 v wd9 hR9 hf64 => ?_)
                obtain ⟨rfl, hR9⟩ := hR9
                have hI12 : Inv w [(b1, arr .i64 r.leave.c.lk, 103), (b2, arr .i64 r.leave.c.of, 3), (b3, arr .i64 r.leave.c.mn, 3), (b4, #[.slice (some ⟨b1, 0, none⟩) (8 + 2) (8 + 2), .slice (some ⟨b2, 0, none⟩) 8 8, .slice (some ⟨b3, 0, none⟩) 2 2], 79), (b5, arr .i64 r.leave.cr, 3), (b6, #[.pointer (some ⟨b4, 0, none⟩), .slice (some ⟨b5, 0, none⟩) 8 8, .int .i64 r.leave.q], 45), (b8, #[.int .u8 kd7, .int .i64 ii7, .int .i64 nn7], 89)] _ := Inv.callS (A := []) (S := [(b1, arr .i64 r.c.lk, 103), (b2, arr .i64 r.c.of, 3), (b3, arr .i64 r.c.mn, 3), (b4, #[.slice (some ⟨b1, 0, none⟩) (8 + 2) (8 + 2), .slice (some ⟨b2, 0, none⟩) 8 8, .slice (some ⟨b3, 0, none⟩) 2 2], 79), (b5, arr .i64 r.cr, 3), (b6, #[.pointer (some ⟨b4, 0, none⟩), .slice (some ⟨b5, 0, none⟩) 8 8, .int .i64 r.q], 45)]) (S' := [(b1, arr .i64 r.leave.c.lk, 103), (b2, arr .i64 r.leave.c.of, 3), (b3, arr .i64 r.leave.c.mn, 3), (b4, #[.slice (some ⟨b1, 0, none⟩) (8 + 2) (8 + 2), .slice (some ⟨b2, 0, none⟩) 8 8, .slice (some ⟨b3, 0, none⟩) 2 2], 79), (b5, arr .i64 r.leave.cr, 3), (b6, #[.pointer (some ⟨b4, 0, none⟩), .slice (some ⟨b5, 0, none⟩) 8 8, .int .i64 r.leave.q], 45)]) (L := [(b8, #[.int .u8 kd7, .int .i64 ii7, .int .i64 nn7], 89)]) (N := []) hI7 hR9 rfl (fun _ h => by cases h)
                refine seq_end ?_
                clear hf61 ac52 hf62 ac53 wd4 hf63 hI7 hR9
                refine block_normal ?_
                refine then_normal ?_
                exact ⟨(r.leave), (hf64.cons 0 rfl (hf64.cons 1 rfl (hf64.cons 4 rfl (hf64.cons 5 rfl (hf64.cons 6 rfl (hf64.cons 7 rfl (hf64.cons 9 rfl (hf64.cons 10 rfl (hf64.cons 11 rfl (hf64.cons 12 rfl (hf64.cons 13 rfl (hf64.cons 14 rfl (hf64.cons 15 rfl (hf64.cons 16 rfl (hf64.cons 17 rfl (hf64.cons 18 rfl (hf64.cons 19 rfl (hf64.cons 20 rfl (hf64.cons 21 rfl (hf64.cons 22 rfl (hf64.cons 23 rfl (hf64.cons 24 rfl (hf64.cons 25 rfl (hf64.cons 26 rfl hf64.nil)))))))))))))))))))))))), ⟨hI12, ((Ro.q_leave _).trans hx1.2)⟩⟩
              · have hf65 := hf61.know 53 (u := .bool false) rfl (congrArg Value.bool c53_6)
                refine code_seq ?_
                refine seq_start (l := [0, 1]) rfl ?_
                refine seq_one (op_val (v := .bool (kd7 == 6)) hf65 rfl rfl rfl rfl rfl rfl (r_eql rfl rfl) fun ac55 hf66 => ?_)
                refine seq_one (op_val (v := .bool (kd7 == 6)) hf66 rfl rfl rfl rfl rfl rfl (r_assign rfl) fun ac56 hf67 => ?_)
                refine seq_end ?_
                clear hf61 ac52 hf65 ac55 hf66
                refine then_normal ?_
                refine code_if hf67 rfl (fun c57_7 => ?_) (fun c57_7 => ?_)
                · have hf68 := hf67.know 57 (u := .bool true) rfl (congrArg Value.bool c57_7)
                  refine seq_start (l := [0, 1]) rfl ?_
                  refine seq_one (op_val (v := .pointer (some ⟨b6, 0, none⟩)) hf68 rfl rfl rfl rfl rfl rfl (r_move rfl) fun ac57 hf69 => ?_)
                  refine seq_one (op_call (R := fun v w' => v = .tuple #[.int .i64 r.f, .bool r.idleL, .bool r.ok] ∧ Inv _ [(b1, arr .i64 r.idle.c.lk, 103), (b2, arr .i64 r.idle.c.of, 3), (b3, arr .i64 r.idle.c.mn, 3), (b4, #[.slice (some ⟨b1, 0, none⟩) (8 + 2) (8 + 2), .slice (some ⟨b2, 0, none⟩) 8 8, .slice (some ⟨b3, 0, none⟩) 2 2], 79), (b5, arr .i64 r.idle.cr, 3), (b6, #[.pointer (some ⟨b4, 0, none⟩), .slice (some ⟨b5, 0, none⟩) 8 8, .int .i64 r.idle.q], 45)] w') hf69 rfl rfl rfl rfl ca_21 ((idle_any (hI7.nd6 0 rfl rfl rfl rfl rfl rfl) r (Has.cons (hI7.at 0 rfl) (Has.cons (hI7.at 1 rfl) (Has.cons (hI7.at 2 rfl) (Has.cons (hI7.at 3 rfl) (Has.cons (hI7.at 4 rfl) (Has.cons (hI7.at 5 rfl) Has.nil)))))) ).mono fun _ _ h => ⟨_, h.1, rfl, h.2⟩) fun ac58 v wd10 hR9 hf70 => ?_)
                  obtain ⟨rfl, hR9⟩ := hR9
                  have hI13 : Inv w [(b1, arr .i64 r.idle.c.lk, 103), (b2, arr .i64 r.idle.c.of, 3), (b3, arr .i64 r.idle.c.mn, 3), (b4, #[.slice (some ⟨b1, 0, none⟩) (8 + 2) (8 + 2), .slice (some ⟨b2, 0, none⟩) 8 8, .slice (some ⟨b3, 0, none⟩) 2 2], 79), (b5, arr .i64 r.idle.cr, 3), (b6, #[.pointer (some ⟨b4, 0, none⟩), .slice (some ⟨b5, 0, none⟩) 8 8, .int .i64 r.idle.q], 45), (b8, #[.int .u8 kd7, .int .i64 ii7, .int .i64 nn7], 89)] _ := Inv.callS (A := []) (S := [(b1, arr .i64 r.c.lk, 103), (b2, arr .i64 r.c.of, 3), (b3, arr .i64 r.c.mn, 3), (b4, #[.slice (some ⟨b1, 0, none⟩) (8 + 2) (8 + 2), .slice (some ⟨b2, 0, none⟩) 8 8, .slice (some ⟨b3, 0, none⟩) 2 2], 79), (b5, arr .i64 r.cr, 3), (b6, #[.pointer (some ⟨b4, 0, none⟩), .slice (some ⟨b5, 0, none⟩) 8 8, .int .i64 r.q], 45)]) (S' := [(b1, arr .i64 r.idle.c.lk, 103), (b2, arr .i64 r.idle.c.of, 3), (b3, arr .i64 r.idle.c.mn, 3), (b4, #[.slice (some ⟨b1, 0, none⟩) (8 + 2) (8 + 2), .slice (some ⟨b2, 0, none⟩) 8 8, .slice (some ⟨b3, 0, none⟩) 2 2], 79), (b5, arr .i64 r.idle.cr, 3), (b6, #[.pointer (some ⟨b4, 0, none⟩), .slice (some ⟨b5, 0, none⟩) 8 8, .int .i64 r.idle.q], 45)]) (L := [(b8, #[.int .u8 kd7, .int .i64 ii7, .int .i64 nn7], 89)]) (N := []) hI7 hR9 rfl (fun _ h => by cases h)
                  refine seq_end ?_
                  clear hf67 ac56 hf68 ac57 wd4 hf69 hI7 hR9
                  refine block_normal ?_
                  refine then_normal ?_
                  exact ⟨(r.idle), (hf70.cons 0 rfl (hf70.cons 1 rfl (hf70.cons 4 rfl (hf70.cons 5 rfl (hf70.cons 6 rfl (hf70.cons 7 rfl (hf70.cons 9 rfl (hf70.cons 10 rfl (hf70.cons 11 rfl (hf70.cons 12 rfl (hf70.cons 13 rfl (hf70.cons 14 rfl (hf70.cons 15 rfl (hf70.cons 16 rfl (hf70.cons 17 rfl (hf70.cons 18 rfl (hf70.cons 19 rfl (hf70.cons 20 rfl (hf70.cons 21 rfl (hf70.cons 22 rfl (hf70.cons 23 rfl (hf70.cons 24 rfl (hf70.cons 25 rfl (hf70.cons 26 rfl hf70.nil)))))))))))))))))))))))), ⟨hI13, ((Ro.q_idle _).trans hx1.2)⟩⟩
                · have hf71 := hf67.know 57 (u := .bool false) rfl (congrArg Value.bool c57_7)
                  refine wp_skip ?_
                  refine block_normal ?_
                  refine then_normal ?_
                  clear hf67
                  exact ⟨(r), (hf71.cons 0 rfl (hf71.cons 1 rfl (hf71.cons 4 rfl (hf71.cons 5 rfl (hf71.cons 6 rfl (hf71.cons 7 rfl (hf71.cons 9 rfl (hf71.cons 10 rfl (hf71.cons 11 rfl (hf71.cons 12 rfl (hf71.cons 13 rfl (hf71.cons 14 rfl (hf71.cons 15 rfl (hf71.cons 16 rfl (hf71.cons 17 rfl (hf71.cons 18 rfl (hf71.cons 19 rfl (hf71.cons 20 rfl (hf71.cons 21 rfl (hf71.cons 22 rfl (hf71.cons 23 rfl (hf71.cons 24 rfl (hf71.cons 25 rfl (hf71.cons 26 rfl hf71.nil)))))))))))))))))))))))), ⟨hI7, hx1.2⟩⟩
    ·
      intro d ac59 wd11 hf72 ⟨hI14, hj14⟩
      clear ac24 wd4 hf25 hI7
      refine block_normal ?_
      refine then_normal ?_
      refine seq_start (l := [0, 1]) rfl ?_
      refine seq_one (op_val (v := .int .i64 ((i + 1 : Nat) : Int)) hf72 rfl rfl rfl rfl rfl rfl (r_add (c := ((i + 1 : Nat) : Int)) rfl rfl (wrap_i64 (by omega) (by omega))) fun ac60 hf73 => ?_)
      refine seq_one (op_val (v := .int .i64 ((i + 1 : Nat) : Int)) hf73 rfl rfl rfl rfl rfl rfl (r_move rfl) fun ac61 hf74 => ?_)
      refine seq_end ?_
      clear ac59 hf72 ac60 hf73
      refine then_normal ?_
      exact ⟨(i + 1, d), (hf74.cons 0 rfl (hf74.cons 1 rfl (hf74.cons 4 rfl (hf74.cons 5 rfl (hf74.cons 6 rfl (hf74.cons 7 rfl (hf74.cons 10 rfl (hf74.cons 11 rfl (hf74.cons 12 rfl (hf74.cons 13 rfl (hf74.cons 14 rfl (hf74.cons 15 rfl (hf74.cons 16 rfl (hf74.cons 17 rfl (hf74.cons 18 rfl (hf74.cons 19 rfl (hf74.cons 20 rfl (hf74.cons 21 rfl hf74.nil)))))))))))))))))), ⟨(Inv.drop (A := [(b1, arr .i64 d.c.lk, 103), (b2, arr .i64 d.c.of, 3), (b3, arr .i64 d.c.mn, 3), (b4, #[.slice (some ⟨b1, 0, none⟩) (8 + 2) (8 + 2), .slice (some ⟨b2, 0, none⟩) 8 8, .slice (some ⟨b3, 0, none⟩) 2 2], 79), (b5, arr .i64 d.cr, 3), (b6, #[.pointer (some ⟨b4, 0, none⟩), .slice (some ⟨b5, 0, none⟩) 8 8, .int .i64 d.q], 45)]) (B := [(b8, #[.int .u8 kd7, .int .i64 ii7, .int .i64 nn7], 89)]) hI14 (fresh_keys (ks := [b8]) rfl (fk_cons hb8 fk_nil))), ⟨by have := of_decide_eq_true c22_1; omega, hj14⟩⟩, (by have := of_decide_eq_true c22_1; show min L 50 - (i + 1) < min L 50 - i; omega)⟩
  · have hf75 := hf19.know 22 (u := .bool false) rfl (congrArg Value.bool c22_1)
    refine wp_exit ?_
    refine then_exit ?_
    refine then_exit ?_
    refine block_here ?_
    refine then_normal ?_
    refine code_seq ?_
    refine seq_start (l := [0, 1, 2, 3, 4]) rfl ?_
    refine seq_one (op_val (v := .pointer (some ⟨b6, 0, none⟩)) hf75 rfl rfl rfl rfl rfl rfl (r_move rfl) fun ac62 hf76 => ?_)
    refine seq_one (op_val (v := .int .i64 0) hf76 rfl rfl rfl rfl rfl rfl (r_move rfl) fun ac63 hf77 => ?_)
    refine seq_one (op_val (v := .bool true) hf77 rfl rfl rfl rfl rfl rfl (r_eqlC rfl rfl (by decide)) fun ac64 hf78 => ?_)
    refine seq_one (op_val (v := .pointer (some ⟨b6, 0, none⟩)) hf78 rfl rfl rfl rfl rfl rfl (r_assign rfl) fun ac65 hf79 => ?_)
    refine seq_one (op_val (v := .bool true) hf79 rfl rfl rfl rfl rfl rfl (r_assign rfl) fun ac66 hf80 => ?_)
    refine seq_end ?_
    clear hf19 ac19 hf75 ac62 hf76 ac63 hf77 ac64 hf78 ac65 hf79
    refine then_normal ?_
    refine wp_ret ?_
    exact post2 rfl hf80 rfl rfl ⟨b1, b2, b3, b4, b5, b6, r, hx1.2, hb1, hb2, hb3, hb4, hb5, hb6, rfl, hI3⟩
end Go.Proofs.Ytjelaoblpchmmaa
