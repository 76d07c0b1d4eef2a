/-
  The walk of ChainApart.
-/
import Derived.Test.YtjelaoblpchmmaaOpen
namespace Go.Proofs.Ytjelaoblpchmmaa
set_option linter.unusedVariables false
set_option linter.unusedSimpArgs false
set_option maxRecDepth 100000
open Go.RowKit
set_option maxHeartbeats 8000000 in
theorem chainApart_walk {p : Option Addr} {L cap : Nat} {rows : List (List Value)} (hl : rows.length = L) (hc : L ≤ cap) (ho : ∀ row ∈ rows, Oks opKinds row) {p2 : Option Addr} {L2 cap2 : Nat} {rows2 : List (List Value)} (hl2 : rows2.length = L2) (hc2 : L2 ≤ cap2) (ho2 : ∀ row ∈ rows2, Oks opKinds row) {a k : Int} (ek : a.tmod 4 = k) (hk : 0 ≤ k ∧ k < ((4 : Nat) : Int)) {w : World} (hr : Rows_ w p 3 rows) (hr2 : Rows_ w p2 3 rows2) : Calls Try.prog 5 [.slice p L cap, .int .u8 a, .slice p2 L2 cap2].toArray w fun e w' => e = .returned (.bool true) ∧ Inv w [] w' := by
  have hI1 := Inv.start w
  refine enter (n := 92) Try.func5 rfl rfl rfl ?_
  intro ac1 hf1
  refine code_seq ?_
  refine seq_start (l := [0]) rfl ?_
  refine seq_one (op_val (v := .bool false) hf1 rfl rfl rfl rfl rfl rfl (r_assign rfl) fun ac2 hf2 => ?_)
  refine seq_end ?_
  clear ac1 hf1
  refine then_normal ?_
  refine code_seq ?_
  refine seq_start (l := [0, 1, 2]) rfl ?_
  refine seq_one (op_val (v := .slice p L cap) hf2 rfl rfl rfl rfl rfl rfl (r_move rfl) fun ac3 hf3 => ?_)
  refine seq_one (op_call (R := fun v w' => ∃ lb ob mb cb, Array.size (World.heap w) ≤ lb ∧ Array.size (World.heap w) ≤ ob ∧ Array.size (World.heap w) ≤ mb ∧ Array.size (World.heap w) ≤ cb ∧ ∃ c : Ch 20 4, v = .pointer (some ⟨cb, 0, none⟩) ∧ Inv w [(lb, arr .i64 c.lk, 103), (ob, arr .i64 c.of, 3), (mb, arr .i64 c.mn, 3), (cb, #[.slice (some ⟨lb, 0, none⟩) (20 + 4) (20 + 4), .slice (some ⟨ob, 0, none⟩) 20 20, .slice (some ⟨mb, 0, none⟩) 4 4], 79)] w') hf3 rfl rfl rfl rfl ca_27 ((played_walk hl hc ho (hr.old hI1 (fresh_keys (ks := []) rfl fk_nil))).mono fun e w' ⟨lb, ob, mb, cb, h1, h2, h3, h4, c, h5, h6⟩ => ⟨_, h5, lb, ob, mb, cb, h1, h2, h3, h4, c, rfl, h6⟩) fun ac4 v wd1 hR hf4 => ?_)
  obtain ⟨b1, b2, b3, b4, hqb1, hqb2, hqb3, hqb4, c4, rfl, hw4⟩ := hR
  have hb1 := Nat.le_trans hI1.size hqb1
  have hb2 := Nat.le_trans hI1.size hqb2
  have hb3 := Nat.le_trans hI1.size hqb3
  have hb4 := Nat.le_trans hI1.size hqb4
  have hI2 : Inv w [(b1, arr .i64 c4.lk, 103), (b2, arr .i64 c4.of, 3), (b3, arr .i64 c4.mn, 3), (b4, #[.slice (some ⟨b1, 0, none⟩) (20 + 4) (20 + 4), .slice (some ⟨b2, 0, none⟩) 20 20, .slice (some ⟨b3, 0, none⟩) 4 4], 79)] _ := hI1.callN hw4 (fk4 hqb1 hqb2 hqb3 hqb4)
  refine seq_one (op_val (v := .pointer (some ⟨b4, 0, none⟩)) hf4 rfl rfl rfl rfl rfl rfl (r_assign rfl) fun ac5 hf5 => ?_)
  refine seq_end ?_
  clear ac2 hf2 ac3 hf3 hI1 hw4 hqb1 hqb2 hqb3 hqb4 ac4 hf4
  refine then_normal ?_
  refine code_seq ?_
  refine seq_start (l := [0, 1, 2, 3]) rfl ?_
  refine seq_one (op_val (v := .int .u8 a) hf5 rfl rfl rfl rfl rfl rfl (r_move rfl) fun ac6 hf6 => ?_)
  refine seq_one (op_val (v := .int .u8 k) hf6 rfl rfl rfl rfl rfl rfl (r_rem (c := k) rfl rfl (by omega) ek) fun ac7 hf7 => ?_)
  refine seq_one (op_val (v := .int .i64 k) hf7 rfl rfl rfl rfl rfl rfl (r_conv (c := k) ui_5 ui_3 rfl (wrap_i64 (by omega) (by omega))) fun ac8 hf8 => ?_)
  refine seq_one (op_val (v := .int .i64 k) hf8 rfl rfl rfl rfl rfl rfl (r_assign rfl) fun ac9 hf9 => ?_)
  refine seq_end ?_
  clear ac5 hf5 ac6 hf6 ac7 hf7 ac8 hf8
  refine then_normal ?_
  refine code_seq ?_
  refine seq_start (l := [0]) rfl ?_
  refine seq_one (op_alloc hf9 rfl rfl rfl ze_53 hI2 fun ac10 b5 wd2 hb5 hI3 hf10 => ?_)
  have hI4 : Inv w [(b1, arr .i64 c4.lk, 103), (b2, arr .i64 c4.of, 3), (b3, arr .i64 c4.mn, 3), (b4, #[.slice (some ⟨b1, 0, none⟩) (20 + 4) (20 + 4), .slice (some ⟨b2, 0, none⟩) 20 20, .slice (some ⟨b3, 0, none⟩) 4 4], 79), (b5, #[.slice none 0 0, .slice none 0 0, .slice none 0 0, .slice none 0 0], 53)] wd2 := hI3
  refine seq_end ?_
  clear ac9 wd1 hI2 hf9 hI3
  refine then_normal ?_
  refine code_seq ?_
  refine code_seq ?_
  refine seq_start (l := [0]) rfl ?_
  refine seq_one (op_val (v := .int .i64 0) hf10 rfl rfl rfl rfl rfl rfl (r_move rfl) fun ac11 hf11 => ?_)
  refine seq_end ?_
  clear ac10 hf10
  refine then_normal ?_
  refine wp_block ?_
  refine wp_loop_rounds 5 ?_
  refine rounds_go ?_
  refine code_seq ?_
  refine seq_start (l := [0]) rfl ?_
  refine seq_one (op_val (v := .bool true) hf11 rfl rfl rfl rfl rfl rfl (r_lssC rfl rfl (by decide)) fun ac12 hf12 => ?_)
  refine seq_end ?_
  clear ac11 hf11
  refine then_normal ?_
  refine code_seq ?_
  refine code_if_true hf12 rfl ?_
  refine wp_skip ?_
  refine then_normal ?_
  refine code_seq ?_
  refine wp_block ?_
  refine code_seq ?_
  refine seq_start (l := [0, 1]) rfl ?_
  refine seq_one (op_val (v := .int .i64 0) hf12 rfl rfl rfl rfl rfl rfl (r_move rfl) fun ac13 hf13 => ?_)
  refine seq_one (op_val (v := .int .i64 0) hf13 rfl rfl rfl rfl rfl rfl (r_assign rfl) fun ac14 hf14 => ?_)
  refine seq_end ?_
  clear ac12 hf12 ac13 hf13
  refine then_normal ?_
  refine seq_start (l := [0, 1, 2, 3, 4, 5]) rfl ?_
  refine seq_one (op_val (v := .int .i64 0) hf14 rfl rfl rfl rfl rfl rfl (r_move rfl) fun ac15 hf15 => ?_)
  refine seq_one (op_val (v := .pointer (some ⟨b4, 0, none⟩)) hf15 rfl rfl rfl rfl rfl rfl (r_move rfl) fun ac16 hf16 => ?_)
  refine seq_one (op_val (v := .int .i64 0) hf16 rfl rfl rfl rfl rfl rfl (r_move rfl) fun ac17 hf17 => ?_)
  refine seq_one (op_call (R := fun v w' => ∃ S p cap, v = .slice p (c4.lst 0).length cap ∧ Sl 3 .i64 S p cap (c4.lst 0) ∧ Inv _ S w' ∧ ∀ x ∈ S, Array.size (World.heap _) ≤ x.1) hf17 rfl rfl rfl rfl ca_28 ((list_any (hI4.nd 0 rfl rfl rfl rfl) c4 (Has.cons (hI4.at 0 rfl) (Has.cons (hI4.at 1 rfl) (Has.cons (hI4.at 2 rfl) (Has.cons (hI4.at 3 rfl) Has.nil)))) 0).mono fun _ _ ⟨S, p, cap, he, h1, h3, h4⟩ => ⟨_, he, S, p, cap, rfl, h1, h3, h4⟩) fun ac18 v wd3 hR hf18 => ?_)
  obtain ⟨Sq6, q6, capq6, rfl, hsq6, hwq6, hzq6⟩ := hR
  have hyq6 := fk_le hI4.size hzq6
  have hI5 : Inv w ([(b1, arr .i64 c4.lk, 103), (b2, arr .i64 c4.of, 3), (b3, arr .i64 c4.mn, 3), (b4, #[.slice (some ⟨b1, 0, none⟩) (20 + 4) (20 + 4), .slice (some ⟨b2, 0, none⟩) 20 20, .slice (some ⟨b3, 0, none⟩) 4 4], 79), (b5, #[.slice none 0 0, .slice none 0 0, .slice none 0 0, .slice none 0 0], 53)] ++ Sq6) _ := hI4.callN hwq6 hzq6
  refine seq_one (op_val (v := .pointer (some ⟨b5, 0, none⟩)) hf18 rfl rfl rfl rfl rfl rfl (r_indexAddr (i := 0) ar_53 rfl rfl rfl (by decide) rfl) fun ac19 hf19 => ?_)
  refine seq_one (op_store (cs' := #[.slice q6 ((c4.lst 0).length) capq6, .slice none 0 0, .slice none 0 0, .slice none 0 0]) 4 hf19 rfl rfl rfl rfl rfl sz_27 hI5 rfl (ltb rfl) (by kernel_rfl) fun wd4 hI6 => ?_)
  have hI7 : Inv w ([(b1, arr .i64 c4.lk, 103), (b2, arr .i64 c4.of, 3), (b3, arr .i64 c4.mn, 3), (b4, #[.slice (some ⟨b1, 0, none⟩) (20 + 4) (20 + 4), .slice (some ⟨b2, 0, none⟩) 20 20, .slice (some ⟨b3, 0, none⟩) 4 4], 79), (b5, #[.slice q6 ((c4.lst 0).length) capq6, .slice none 0 0, .slice none 0 0, .slice none 0 0], 53)] ++ Sq6) wd4 := hI6
  refine seq_end ?_
  clear ac14 hf14 ac15 hf15 ac16 hf16 ac17 wd2 hf17 hI4 hwq6 hzq6 ac18 hf18 wd3 hI5 hI6
  refine block_normal ?_
  refine then_normal ?_
  refine seq_start (l := [0, 1]) rfl ?_
  refine seq_one (op_val (v := .int .i64 1) hf19 rfl rfl rfl rfl rfl rfl (r_add (c := 1) rfl rfl (by rfl)) fun ac20 hf20 => ?_)
  refine seq_one (op_val (v := .int .i64 1) hf20 rfl rfl rfl rfl rfl rfl (r_move rfl) fun ac21 hf21 => ?_)
  refine seq_end ?_
  clear ac19 hf19 ac20 hf20
  refine then_normal ?_
  refine rounds_go ?_
  refine code_seq ?_
  refine seq_start (l := [0]) rfl ?_
  refine seq_one (op_val (v := .bool true) hf21 rfl rfl rfl rfl rfl rfl (r_lssC rfl rfl (by decide)) fun ac22 hf22 => ?_)
  refine seq_end ?_
  clear ac21 hf21
  refine then_normal ?_
  refine code_seq ?_
  refine code_if_true hf22 rfl ?_
  refine wp_skip ?_
  refine then_normal ?_
  refine code_seq ?_
  refine wp_block ?_
  refine code_seq ?_
  refine seq_start (l := [0, 1]) rfl ?_
  refine seq_one (op_val (v := .int .i64 1) hf22 rfl rfl rfl rfl rfl rfl (r_move rfl) fun ac23 hf23 => ?_)
  refine seq_one (op_val (v := .int .i64 1) hf23 rfl rfl rfl rfl rfl rfl (r_assign rfl) fun ac24 hf24 => ?_)
  refine seq_end ?_
  clear ac22 hf22 ac23 hf23
  refine then_normal ?_
  refine seq_start (l := [0, 1, 2, 3, 4, 5]) rfl ?_
  refine seq_one (op_val (v := .int .i64 1) hf24 rfl rfl rfl rfl rfl rfl (r_move rfl) fun ac25 hf25 => ?_)
  refine seq_one (op_val (v := .pointer (some ⟨b4, 0, none⟩)) hf25 rfl rfl rfl rfl rfl rfl (r_move rfl) fun ac26 hf26 => ?_)
  refine seq_one (op_val (v := .int .i64 1) hf26 rfl rfl rfl rfl rfl rfl (r_move rfl) fun ac27 hf27 => ?_)
  refine seq_one (op_call (R := fun v w' => ∃ S p cap, v = .slice p (c4.lst 1).length cap ∧ Sl 3 .i64 S p cap (c4.lst 1) ∧ Inv _ S w' ∧ ∀ x ∈ S, Array.size (World.heap _) ≤ x.1) hf27 rfl rfl rfl rfl ca_28 ((list_any (hI7.nd 0 rfl rfl rfl rfl) c4 (Has.cons (hI7.at 0 rfl) (Has.cons (hI7.at 1 rfl) (Has.cons (hI7.at 2 rfl) (Has.cons (hI7.at 3 rfl) Has.nil)))) 1).mono fun _ _ ⟨S, p, cap, he, h1, h3, h4⟩ => ⟨_, he, S, p, cap, rfl, h1, h3, h4⟩) fun ac28 v wd5 hR hf28 => ?_)
  obtain ⟨Sq7, q7, capq7, rfl, hsq7, hwq7, hzq7⟩ := hR
  have hyq7 := fk_le hI7.size hzq7
  have hI8 : Inv w ([(b1, arr .i64 c4.lk, 103), (b2, arr .i64 c4.of, 3), (b3, arr .i64 c4.mn, 3), (b4, #[.slice (some ⟨b1, 0, none⟩) (20 + 4) (20 + 4), .slice (some ⟨b2, 0, none⟩) 20 20, .slice (some ⟨b3, 0, none⟩) 4 4], 79), (b5, #[.slice q6 ((c4.lst 0).length) capq6, .slice none 0 0, .slice none 0 0, .slice none 0 0], 53)] ++ (Sq6 ++ Sq7)) _ := hI7.callN hwq7 hzq7
  refine seq_one (op_val (v := .pointer (some ⟨b5, 1, none⟩)) hf28 rfl rfl rfl rfl rfl rfl (r_indexAddr (i := 1) ar_53 rfl rfl rfl (by decide) rfl) fun ac29 hf29 => ?_)
  refine seq_one (op_store (cs' := #[.slice q6 ((c4.lst 0).length) capq6, .slice q7 ((c4.lst 1).length) capq7, .slice none 0 0, .slice none 0 0]) 4 hf29 rfl rfl rfl rfl rfl sz_27 hI8 rfl (ltb rfl) (by kernel_rfl) fun wd6 hI9 => ?_)
  have hI10 : Inv w ([(b1, arr .i64 c4.lk, 103), (b2, arr .i64 c4.of, 3), (b3, arr .i64 c4.mn, 3), (b4, #[.slice (some ⟨b1, 0, none⟩) (20 + 4) (20 + 4), .slice (some ⟨b2, 0, none⟩) 20 20, .slice (some ⟨b3, 0, none⟩) 4 4], 79), (b5, #[.slice q6 ((c4.lst 0).length) capq6, .slice q7 ((c4.lst 1).length) capq7, .slice none 0 0, .slice none 0 0], 53)] ++ (Sq6 ++ Sq7)) wd6 := hI9
  refine seq_end ?_
  clear ac24 hf24 ac25 hf25 ac26 hf26 ac27 wd4 hf27 hI7 hwq7 hzq7 ac28 hf28 wd5 hI8 hI9
  refine block_normal ?_
  refine then_normal ?_
  refine seq_start (l := [0, 1]) rfl ?_
  refine seq_one (op_val (v := .int .i64 2) hf29 rfl rfl rfl rfl rfl rfl (r_add (c := 2) rfl rfl (by rfl)) fun ac30 hf30 => ?_)
  refine seq_one (op_val (v := .int .i64 2) hf30 rfl rfl rfl rfl rfl rfl (r_move rfl) fun ac31 hf31 => ?_)
  refine seq_end ?_
  clear ac29 hf29 ac30 hf30
  refine then_normal ?_
  refine rounds_go ?_
  refine code_seq ?_
  refine seq_start (l := [0]) rfl ?_
  refine seq_one (op_val (v := .bool true) hf31 rfl rfl rfl rfl rfl rfl (r_lssC rfl rfl (by decide)) fun ac32 hf32 => ?_)
  refine seq_end ?_
  clear ac31 hf31
  refine then_normal ?_
  refine code_seq ?_
  refine code_if_true hf32 rfl ?_
  refine wp_skip ?_
  refine then_normal ?_
  refine code_seq ?_
  refine wp_block ?_
  refine code_seq ?_
  refine seq_start (l := [0, 1]) rfl ?_
  refine seq_one (op_val (v := .int .i64 2) hf32 rfl rfl rfl rfl rfl rfl (r_move rfl) fun ac33 hf33 => ?_)
  refine seq_one (op_val (v := .int .i64 2) hf33 rfl rfl rfl rfl rfl rfl (r_assign rfl) fun ac34 hf34 => ?_)
  refine seq_end ?_
  clear ac32 hf32 ac33 hf33
  refine then_normal ?_
  refine seq_start (l := [0, 1, 2, 3, 4, 5]) rfl ?_
  refine seq_one (op_val (v := .int .i64 2) hf34 rfl rfl rfl rfl rfl rfl (r_move rfl) fun ac35 hf35 => ?_)
  refine seq_one (op_val (v := .pointer (some ⟨b4, 0, none⟩)) hf35 rfl rfl rfl rfl rfl rfl (r_move rfl) fun ac36 hf36 => ?_)
  refine seq_one (op_val (v := .int .i64 2) hf36 rfl rfl rfl rfl rfl rfl (r_move rfl) fun ac37 hf37 => ?_)
  refine seq_one (op_call (R := fun v w' => ∃ S p cap, v = .slice p (c4.lst 2).length cap ∧ Sl 3 .i64 S p cap (c4.lst 2) ∧ Inv _ S w' ∧ ∀ x ∈ S, Array.size (World.heap _) ≤ x.1) hf37 rfl rfl rfl rfl ca_28 ((list_any (hI10.nd 0 rfl rfl rfl rfl) c4 (Has.cons (hI10.at 0 rfl) (Has.cons (hI10.at 1 rfl) (Has.cons (hI10.at 2 rfl) (Has.cons (hI10.at 3 rfl) Has.nil)))) 2).mono fun _ _ ⟨S, p, cap, he, h1, h3, h4⟩ => ⟨_, he, S, p, cap, rfl, h1, h3, h4⟩) fun ac38 v wd7 hR hf38 => ?_)
  obtain ⟨Sq8, q8, capq8, rfl, hsq8, hwq8, hzq8⟩ := hR
  have hyq8 := fk_le hI10.size hzq8
  have hI11 : Inv w ([(b1, arr .i64 c4.lk, 103), (b2, arr .i64 c4.of, 3), (b3, arr .i64 c4.mn, 3), (b4, #[.slice (some ⟨b1, 0, none⟩) (20 + 4) (20 + 4), .slice (some ⟨b2, 0, none⟩) 20 20, .slice (some ⟨b3, 0, none⟩) 4 4], 79), (b5, #[.slice q6 ((c4.lst 0).length) capq6, .slice q7 ((c4.lst 1).length) capq7, .slice none 0 0, .slice none 0 0], 53)] ++ ((Sq6 ++ Sq7) ++ Sq8)) _ := hI10.callN hwq8 hzq8
  refine seq_one (op_val (v := .pointer (some ⟨b5, 2, none⟩)) hf38 rfl rfl rfl rfl rfl rfl (r_indexAddr (i := 2) ar_53 rfl rfl rfl (by decide) rfl) fun ac39 hf39 => ?_)
  refine seq_one (op_store (cs' := #[.slice q6 ((c4.lst 0).length) capq6, .slice q7 ((c4.lst 1).length) capq7, .slice q8 ((c4.lst 2).length) capq8, .slice none 0 0]) 4 hf39 rfl rfl rfl rfl rfl sz_27 hI11 rfl (ltb rfl) (by kernel_rfl) fun wd8 hI12 => ?_)
  have hI13 : Inv w ([(b1, arr .i64 c4.lk, 103), (b2, arr .i64 c4.of, 3), (b3, arr .i64 c4.mn, 3), (b4, #[.slice (some ⟨b1, 0, none⟩) (20 + 4) (20 + 4), .slice (some ⟨b2, 0, none⟩) 20 20, .slice (some ⟨b3, 0, none⟩) 4 4], 79), (b5, #[.slice q6 ((c4.lst 0).length) capq6, .slice q7 ((c4.lst 1).length) capq7, .slice q8 ((c4.lst 2).length) capq8, .slice none 0 0], 53)] ++ ((Sq6 ++ Sq7) ++ Sq8)) wd8 := hI12
  refine seq_end ?_
  clear ac34 hf34 ac35 hf35 ac36 hf36 ac37 wd6 hf37 hI10 hwq8 hzq8 ac38 hf38 wd7 hI11 hI12
  refine block_normal ?_
  refine then_normal ?_
  refine seq_start (l := [0, 1]) rfl ?_
  refine seq_one (op_val (v := .int .i64 3) hf39 rfl rfl rfl rfl rfl rfl (r_add (c := 3) rfl rfl (by rfl)) fun ac40 hf40 => ?_)
  refine seq_one (op_val (v := .int .i64 3) hf40 rfl rfl rfl rfl rfl rfl (r_move rfl) fun ac41 hf41 => ?_)
  refine seq_end ?_
  clear ac39 hf39 ac40 hf40
  refine then_normal ?_
  refine rounds_go ?_
  refine code_seq ?_
  refine seq_start (l := [0]) rfl ?_
  refine seq_one (op_val (v := .bool true) hf41 rfl rfl rfl rfl rfl rfl (r_lssC rfl rfl (by decide)) fun ac42 hf42 => ?_)
  refine seq_end ?_
  clear ac41 hf41
  refine then_normal ?_
  refine code_seq ?_
  refine code_if_true hf42 rfl ?_
  refine wp_skip ?_
  refine then_normal ?_
  refine code_seq ?_
  refine wp_block ?_
  refine code_seq ?_
  refine seq_start (l := [0, 1]) rfl ?_
  refine seq_one (op_val (v := .int .i64 3) hf42 rfl rfl rfl rfl rfl rfl (r_move rfl) fun ac43 hf43 => ?_)
  refine seq_one (op_val (v := .int .i64 3) hf43 rfl rfl rfl rfl rfl rfl (r_assign rfl) fun ac44 hf44 => ?_)
  refine seq_end ?_
  clear ac42 hf42 ac43 hf43
  refine then_normal ?_
  refine seq_start (l := [0, 1, 2, 3, 4, 5]) rfl ?_
  refine seq_one (op_val (v := .int .i64 3) hf44 rfl rfl rfl rfl rfl rfl (r_move rfl) fun ac45 hf45 => ?_)
  refine seq_one (op_val (v := .pointer (some ⟨b4, 0, none⟩)) hf45 rfl rfl rfl rfl rfl rfl (r_move rfl) fun ac46 hf46 => ?_)
  refine seq_one (op_val (v := .int .i64 3) hf46 rfl rfl rfl rfl rfl rfl (r_move rfl) fun ac47 hf47 => ?_)
  refine seq_one (op_call (R := fun v w' => ∃ S p cap, v = .slice p (c4.lst 3).length cap ∧ Sl 3 .i64 S p cap (c4.lst 3) ∧ Inv _ S w' ∧ ∀ x ∈ S, Array.size (World.heap _) ≤ x.1) hf47 rfl rfl rfl rfl ca_28 ((list_any (hI13.nd 0 rfl rfl rfl rfl) c4 (Has.cons (hI13.at 0 rfl) (Has.cons (hI13.at 1 rfl) (Has.cons (hI13.at 2 rfl) (Has.cons (hI13.at 3 rfl) Has.nil)))) 3).mono fun _ _ ⟨S, p, cap, he, h1, h3, h4⟩ => ⟨_, he, S, p, cap, rfl, h1, h3, h4⟩) fun ac48 v wd9 hR hf48 => ?_)
  obtain ⟨Sq9, q9, capq9, rfl, hsq9, hwq9, hzq9⟩ := hR
  have hyq9 := fk_le hI13.size hzq9
  have hI14 : Inv w ([(b1, arr .i64 c4.lk, 103), (b2, arr .i64 c4.of, 3), (b3, arr .i64 c4.mn, 3), (b4, #[.slice (some ⟨b1, 0, none⟩) (20 + 4) (20 + 4), .slice (some ⟨b2, 0, none⟩) 20 20, .slice (some ⟨b3, 0, none⟩) 4 4], 79), (b5, #[.slice q6 ((c4.lst 0).length) capq6, .slice q7 ((c4.lst 1).length) capq7, .slice q8 ((c4.lst 2).length) capq8, .slice none 0 0], 53)] ++ (((Sq6 ++ Sq7) ++ Sq8) ++ Sq9)) _ := hI13.callN hwq9 hzq9
  refine seq_one (op_val (v := .pointer (some ⟨b5, 3, none⟩)) hf48 rfl rfl rfl rfl rfl rfl (r_indexAddr (i := 3) ar_53 rfl rfl rfl (by decide) rfl) fun ac49 hf49 => ?_)
  refine seq_one (op_store (cs' := #[.slice q6 ((c4.lst 0).length) capq6, .slice q7 ((c4.lst 1).length) capq7, .slice q8 ((c4.lst 2).length) capq8, .slice q9 ((c4.lst 3).length) capq9]) 4 hf49 rfl rfl rfl rfl rfl sz_27 hI14 rfl (ltb rfl) (by kernel_rfl) fun wd10 hI15 => ?_)
  have hI16 : Inv w ([(b1, arr .i64 c4.lk, 103), (b2, arr .i64 c4.of, 3), (b3, arr .i64 c4.mn, 3), (b4, #[.slice (some ⟨b1, 0, none⟩) (20 + 4) (20 + 4), .slice (some ⟨b2, 0, none⟩) 20 20, .slice (some ⟨b3, 0, none⟩) 4 4], 79), (b5, #[.slice q6 ((c4.lst 0).length) capq6, .slice q7 ((c4.lst 1).length) capq7, .slice q8 ((c4.lst 2).length) capq8, .slice q9 ((c4.lst 3).length) capq9], 53)] ++ (((Sq6 ++ Sq7) ++ Sq8) ++ Sq9)) wd10 := hI15
  refine seq_end ?_
  clear ac44 hf44 ac45 hf45 ac46 hf46 ac47 wd8 hf47 hI13 hwq9 hzq9 ac48 hf48 wd9 hI14 hI15
  refine block_normal ?_
  refine then_normal ?_
  refine seq_start (l := [0, 1]) rfl ?_
  refine seq_one (op_val (v := .int .i64 4) hf49 rfl rfl rfl rfl rfl rfl (r_add (c := 4) rfl rfl (by rfl)) fun ac50 hf50 => ?_)
  refine seq_one (op_val (v := .int .i64 4) hf50 rfl rfl rfl rfl rfl rfl (r_move rfl) fun ac51 hf51 => ?_)
  refine seq_end ?_
  clear ac49 hf49 ac50 hf50
  refine then_normal ?_
  refine rounds_go ?_
  refine code_seq ?_
  refine seq_start (l := [0]) rfl ?_
  refine seq_one (op_val (v := .bool false) hf51 rfl rfl rfl rfl rfl rfl (r_lssC rfl rfl (by decide)) fun ac52 hf52 => ?_)
  refine seq_end ?_
  clear ac51 hf51
  refine then_normal ?_
  refine code_seq ?_
  refine code_if_false hf52 rfl ?_
  refine wp_exit ?_
  refine then_exit ?_
  refine then_exit ?_
  refine block_here ?_
  refine then_normal ?_
  refine code_seq ?_
  refine code_seq ?_
  refine seq_start (l := [0, 1, 2, 3, 4, 5, 6]) rfl ?_
  refine seq_one (op_val (v := .slice p2 L2 cap2) hf52 rfl rfl rfl rfl rfl rfl (r_move rfl) fun ac53 hf53 => ?_)
  refine seq_one (op_val (v := .slice p2 L2 cap2) hf53 rfl rfl rfl rfl rfl rfl (r_move rfl) fun ac54 hf54 => ?_)
  refine seq_one (op_val (v := .int .i64 (L2 : Int)) hf54 rfl rfl rfl rfl rfl rfl (r_len sl_51 rfl) fun ac55 hf55 => ?_)
  refine seq_one (op_val (v := .int .i64 ((min L2 30 : Nat) : Int)) hf55 rfl rfl rfl rfl rfl rfl (r_minC (c := ((min L2 30 : Nat) : Int)) rfl rfl (by split <;> omega)) fun ac56 hf56 => ?_)
  refine seq_one (op_val (v := .slice p2 (min L2 30) cap2) hf56 rfl rfl rfl rfl rfl rfl (r_sliceH (h := (min L2 30)) sl_51 rfl rfl (by omega)) fun ac57 hf57 => ?_)
  refine seq_one (op_val (v := .int .i64 (((min L2 30) : Nat) : Int)) hf57 rfl rfl rfl rfl rfl rfl (r_len sl_51 rfl) fun ac58 hf58 => ?_)
  refine seq_one (op_val (v := .int .i64 0) hf58 rfl rfl rfl rfl rfl rfl (r_move rfl) fun ac59 hf59 => ?_)
  refine seq_end ?_
  clear ac52 hf52 ac53 hf53 ac54 hf54 ac55 hf55 ac56 hf56 ac57 hf57 ac58 hf58
  refine then_normal ?_
  refine wp_block ?_
  refine code_loop (α := Nat × (Ch 20 4)) (fun (x : Nat × (Ch 20 4)) => match x with | (i, d) => [(0, .slice p L cap), (1, .int .u8 a), (2, .slice p2 L2 cap2), (6, .bool false), (7, .pointer (some ⟨b4, 0, none⟩)), (8, .int .i64 k), (9, .pointer (some ⟨b5, 0, none⟩)), (10, .int .i64 3), (16, .slice p L cap), (17, .pointer (some ⟨b4, 0, none⟩)), (18, .int .u8 a), (19, .int .u8 k), (20, .int .i64 k), (21, .int .i64 4), (22, .bool false), (23, .int .i64 3), (24, .int .i64 3), (25, .pointer (some ⟨b4, 0, none⟩)), (26, .int .i64 3), (27, .slice q9 ((c4.lst 3).length) capq9), (28, .pointer (some ⟨b5, 3, none⟩)), (29, .int .i64 4), (30, .slice p2 L2 cap2), (31, .slice p2 L2 cap2), (32, .int .i64 (L2 : Int)), (33, .int .i64 ((min L2 30 : Nat) : Int)), (34, .slice p2 (min L2 30) cap2), (35, .int .i64 (((min L2 30) : Nat) : Int)), (36, .int .i64 (i : Int))]) (fun (x : Nat × (Ch 20 4)) => match x with | (i, d) => fun wL => Inv w ([(b1, arr .i64 d.lk, 103), (b2, arr .i64 d.of, 3), (b3, arr .i64 d.mn, 3), (b4, #[.slice (some ⟨b1, 0, none⟩) (20 + 4) (20 + 4), .slice (some ⟨b2, 0, none⟩) 20 20, .slice (some ⟨b3, 0, none⟩) 4 4], 79), (b5, #[.slice q6 ((c4.lst 0).length) capq6, .slice q7 ((c4.lst 1).length) capq7, .slice q8 ((c4.lst 2).length) capq8, .slice q9 ((c4.lst 3).length) capq9], 53)] ++ (((Sq6 ++ Sq7) ++ Sq8) ++ Sq9)) wL ∧ (i ≤ min L2 30 ∧ ∀ j, j ≠ k → d.lst j = c4.lst j)) (fun (x : Nat × (Ch 20 4)) => match x with | (i, d) => min L2 30 - i) (0, c4) (hf59.cons 0 rfl (hf59.cons 1 rfl (hf59.cons 2 rfl (hf59.cons 6 rfl (hf59.cons 7 rfl (hf59.cons 8 rfl (hf59.cons 9 rfl (hf59.cons 10 rfl (hf59.cons 16 rfl (hf59.cons 17 rfl (hf59.cons 18 rfl (hf59.cons 19 rfl (hf59.cons 20 rfl (hf59.cons 21 rfl (hf59.cons 22 rfl (hf59.cons 23 rfl (hf59.cons 24 rfl (hf59.cons 25 rfl (hf59.cons 26 rfl (hf59.cons 27 rfl (hf59.cons 28 rfl (hf59.cons 29 rfl (hf59.cons 30 rfl (hf59.cons 31 rfl (hf59.cons 32 rfl (hf59.cons 33 rfl (hf59.cons 34 rfl (hf59.cons 35 rfl (hf59.cons 36 rfl hf59.nil))))))))))))))))))))))))))))) ⟨hI16, ⟨Nat.zero_le _, fun _ _ => rfl⟩⟩ ?_
  intro ⟨i, d⟩ ac60 wd11 hf60 hL2
  obtain ⟨hI17, hx2⟩ := hL2
  dsimp only at hf60 hI17 hx2
  clear ac59 wd10 hf59 hI16
  refine code_seq ?_
  refine seq_start (l := [0]) rfl ?_
  refine seq_one (op_val (v := .bool (decide ((i : Int) < (((min L2 30) : Nat) : Int)))) hf60 rfl rfl rfl rfl rfl rfl (r_lss rfl rfl) fun ac61 hf61 => ?_)
  refine seq_end ?_
  clear ac60 hf60
  refine then_normal ?_
  refine code_seq ?_
  refine code_if hf61 rfl (fun c37_1 => ?_) (fun c37_1 => ?_)
  · have hf62 := hf61.know 37 (u := .bool true) rfl (congrArg Value.bool c37_1)
    refine wp_skip ?_
    refine then_normal ?_
    refine code_seq ?_
    refine wp_block ?_
    refine code_seq ?_
    refine seq_start (l := [0, 1, 2, 3]) rfl ?_
    obtain ⟨kd10, ii10, nn10, hri10, hii10, hnn10⟩ := op_row (i := i) ho2 (by have := of_decide_eq_true c37_1; omega)
    refine seq_one (op_val (v := .pointer (slAt p2 (i * 3))) hf62 rfl rfl rfl rfl rfl rfl (r_indexAddrR (i := i) (sz := 3) sl_51 rfl rfl rfl (by have := of_decide_eq_true c37_1; omega) rfl ⟨_, ((hr2.old hI17 (fk_app (fresh_keys (ks := [b1, b2, b3, b4, b5]) rfl (fk_cons hb1 (fk_cons hb2 (fk_cons hb3 (fk_cons hb4 (fk_cons hb5 fk_nil)))))) (fk_app (fk_app (fk_app hyq6 hyq7) hyq8) hyq9))) _ _ hri10).choose_spec.1⟩) fun ac62 hf63 => ?_)
    refine seq_one (op_val (v := .agg #[.int .u8 kd10, .int .i64 ii10, .int .i64 nn10]) hf63 rfl rfl rfl rfl rfl rfl (r_loadRow ag_56 sz_56 rfl (hr2.old hI17 (fk_app (fresh_keys (ks := [b1, b2, b3, b4, b5]) rfl (fk_cons hb1 (fk_cons hb2 (fk_cons hb3 (fk_cons hb4 (fk_cons hb5 fk_nil)))))) (fk_app (fk_app (fk_app hyq6 hyq7) hyq8) hyq9))) hri10 rfl) fun ac63 hf64 => ?_)
    refine seq_one (op_alloc hf64 rfl rfl rfl ze_56 hI17 fun ac64 b11 wd12 hb11 hI18 hf65 => ?_)
    have hI19 : Inv w ([(b1, arr .i64 d.lk, 103), (b2, arr .i64 d.of, 3), (b3, arr .i64 d.mn, 3), (b4, #[.slice (some ⟨b1, 0, none⟩) (20 + 4) (20 + 4), .slice (some ⟨b2, 0, none⟩) 20 20, .slice (some ⟨b3, 0, none⟩) 4 4], 79), (b5, #[.slice q6 ((c4.lst 0).length) capq6, .slice q7 ((c4.lst 1).length) capq7, .slice q8 ((c4.lst 2).length) capq8, .slice q9 ((c4.lst 3).length) capq9], 53), (b11, #[.int .u8 0, .int .i64 0, .int .i64 0], 56)] ++ (((Sq6 ++ Sq7) ++ Sq8) ++ Sq9)) wd12 := Inv.tail (A := [(b1, arr .i64 d.lk, 103), (b2, arr .i64 d.of, 3), (b3, arr .i64 d.mn, 3), (b4, #[.slice (some ⟨b1, 0, none⟩) (20 + 4) (20 + 4), .slice (some ⟨b2, 0, none⟩) 20 20, .slice (some ⟨b3, 0, none⟩) 4 4], 79), (b5, #[.slice q6 ((c4.lst 0).length) capq6, .slice q7 ((c4.lst 1).length) capq7, .slice q8 ((c4.lst 2).length) capq8, .slice q9 ((c4.lst 3).length) capq9], 53)]) (T := (((Sq6 ++ Sq7) ++ Sq8) ++ Sq9)) (N := [(b11, #[.int .u8 0, .int .i64 0, .int .i64 0], 56)]) hI18
    refine seq_one (op_storeW (cells := #[.int .u8 kd10, .int .i64 ii10, .int .i64 nn10]) 5 hf65 rfl rfl rfl rfl rfl sz_56 rfl rfl hI19 rfl rfl fun wd13 hI20 => ?_)
    have hI21 : Inv w ([(b1, arr .i64 d.lk, 103), (b2, arr .i64 d.of, 3), (b3, arr .i64 d.mn, 3), (b4, #[.slice (some ⟨b1, 0, none⟩) (20 + 4) (20 + 4), .slice (some ⟨b2, 0, none⟩) 20 20, .slice (some ⟨b3, 0, none⟩) 4 4], 79), (b5, #[.slice q6 ((c4.lst 0).length) capq6, .slice q7 ((c4.lst 1).length) capq7, .slice q8 ((c4.lst 2).length) capq8, .slice q9 ((c4.lst 3).length) capq9], 53), (b11, #[.int .u8 kd10, .int .i64 ii10, .int .i64 nn10], 56)] ++ (((Sq6 ++ Sq7) ++ Sq8) ++ Sq9)) wd13 := hI20
    refine seq_end ?_
    clear hf61 ac61 hf62 ac62 hf63 ac63 wd11 hI17 hf64 hI18 wd12 hI19 hI20
    refine then_normal ?_
    refine code_seq ?_
    refine code_seq ?_
    refine seq_start (l := [0, 1, 2, 3, 4, 5, 6, 7, 8]) rfl ?_
    refine seq_one (op_val (v := .pointer (some ⟨b4, 0, none⟩)) hf65 rfl rfl rfl rfl rfl rfl (r_move rfl) fun ac65 hf66 => ?_)
    refine seq_one (op_val (v := .pointer (some ⟨b11, 2, none⟩)) hf66 rfl rfl rfl rfl rfl rfl (r_fieldAddr fi_56_2 rfl rfl) fun ac66 hf67 => ?_)
    refine seq_one (op_val (v := .int .i64 nn10) hf67 rfl rfl rfl rfl rfl rfl (r_load ag_3 rfl (hI21.at 5 rfl) rfl) fun ac67 hf68 => ?_)
    refine seq_one (op_pureW hf68 rfl rfl rfl rfl ca_29 (in_any (hI21.nd 0 rfl rfl rfl rfl) d (Has.cons (hI21.at 0 rfl) (Has.cons (hI21.at 1 rfl) (Has.cons (hI21.at 2 rfl) (Has.cons (hI21.at 3 rfl) Has.nil)))) nn10) hI21 fun ac68 wd14 hI22 hf69 => ?_)
    refine seq_one (op_val (v := .tuple #[.int .i64 (d.atV nn10), .bool (d.inn nn10)]) hf69 rfl rfl rfl rfl rfl rfl (r_move rfl) fun ac69 hf70 => ?_)
    refine seq_one (op_val (v := .int .i64 (d.atV nn10)) hf70 rfl rfl rfl rfl rfl rfl (r_extract rfl rfl) fun ac70 hf71 => ?_)
    refine seq_one (op_val (v := .bool (d.inn nn10)) hf71 rfl rfl rfl rfl rfl rfl (r_extract rfl rfl) fun ac71 hf72 => ?_)
    refine seq_one (op_val (v := .int .i64 (d.atV nn10)) hf72 rfl rfl rfl rfl rfl rfl (r_assign rfl) fun ac72 hf73 => ?_)
    refine seq_one (op_val (v := .bool (d.inn nn10)) hf73 rfl rfl rfl rfl rfl rfl (r_assign rfl) fun ac73 hf74 => ?_)
    refine seq_end ?_
    clear ac64 hf65 ac65 hf66 ac66 hf67 ac67 wd13 hI21 hf68 ac68 hf69 ac69 hf70 ac70 hf71 ac71 hf72 ac72 hf73
    refine then_normal ?_
    refine code_seq ?_
    refine seq_start (l := [0, 1, 2, 3, 4, 5]) rfl ?_
    refine seq_one (op_val (v := .bool (d.inn nn10)) hf74 rfl rfl rfl rfl rfl rfl (r_move rfl) fun ac74 hf75 => ?_)
    refine seq_one (op_val (v := .bool (d.inn nn10)) hf75 rfl rfl rfl rfl rfl rfl (r_move rfl) fun ac75 hf76 => ?_)
    rcases Bool.eq_false_or_eq_true (d.inn nn10 : Bool) with g48_2 | g48_2
    · have hf77 := hf76.know 48 (u := .bool true) rfl (congrArg Value.bool g48_2)
      refine seq_one (op_val (v := .int .i64 (d.atV nn10)) hf77 rfl rfl rfl rfl rfl rfl (r_move rfl) fun ac76 hf78 => ?_)
      refine seq_one (op_val (v := .int .i64 k) hf78 rfl rfl rfl rfl rfl rfl (r_move rfl) fun ac77 hf79 => ?_)
      refine seq_one (op_val (v := .bool ((d.atV nn10) != k)) hf79 rfl rfl rfl rfl rfl rfl (r_neq rfl rfl) fun ac78 hf80 => ?_)
      refine seq_one (op_val (v := .bool ((d.atV nn10) != k)) hf80 rfl rfl rfl rfl rfl rfl (r_pickT rfl rfl) fun ac79 hf81 => ?_)
      refine seq_end ?_
      clear ac73 hf74 ac74 hf75 hf76 ac75 hf77 ac76 hf78 ac77 hf79 ac78 hf80
      refine then_normal ?_
      refine code_if hf81 rfl (fun c52_3 => ?_) (fun c52_3 => ?_)
      · have hf82 := hf81.know 52 (u := .bool true) rfl (congrArg Value.bool c52_3)
        refine wp_exit ?_
        refine then_exit ?_
        refine block_here ?_
        refine then_normal ?_
        refine seq_start (l := [0, 1]) rfl ?_
        refine seq_one (op_val (v := .int .i64 ((i + 1 : Nat) : Int)) hf82 rfl rfl rfl rfl rfl rfl (r_add (c := ((i + 1 : Nat) : Int)) rfl rfl (wrap_i64 (by omega) (by have := hx2.1; omega))) fun ac80 hf83 => ?_)
        refine seq_one (op_val (v := .int .i64 ((i + 1 : Nat) : Int)) hf83 rfl rfl rfl rfl rfl rfl (r_move rfl) fun ac81 hf84 => ?_)
        refine seq_end ?_
        clear hf81 ac79 hf82 ac80 hf83
        refine then_normal ?_
        exact ⟨(i + 1, d), (hf84.cons 0 rfl (hf84.cons 1 rfl (hf84.cons 2 rfl (hf84.cons 6 rfl (hf84.cons 7 rfl (hf84.cons 8 rfl (hf84.cons 9 rfl (hf84.cons 10 rfl (hf84.cons 16 rfl (hf84.cons 17 rfl (hf84.cons 18 rfl (hf84.cons 19 rfl (hf84.cons 20 rfl (hf84.cons 21 rfl (hf84.cons 22 rfl (hf84.cons 23 rfl (hf84.cons 24 rfl (hf84.cons 25 rfl (hf84.cons 26 rfl (hf84.cons 27 rfl (hf84.cons 28 rfl (hf84.cons 29 rfl (hf84.cons 30 rfl (hf84.cons 31 rfl (hf84.cons 32 rfl (hf84.cons 33 rfl (hf84.cons 34 rfl (hf84.cons 35 rfl (hf84.cons 36 rfl hf84.nil))))))))))))))))))))))))))))), ⟨(Inv.keep (A := [(b1, arr .i64 d.lk, 103), (b2, arr .i64 d.of, 3), (b3, arr .i64 d.mn, 3), (b4, #[.slice (some ⟨b1, 0, none⟩) (20 + 4) (20 + 4), .slice (some ⟨b2, 0, none⟩) 20 20, .slice (some ⟨b3, 0, none⟩) 4 4], 79), (b5, #[.slice q6 ((c4.lst 0).length) capq6, .slice q7 ((c4.lst 1).length) capq7, .slice q8 ((c4.lst 2).length) capq8, .slice q9 ((c4.lst 3).length) capq9], 53)]) (N := [(b11, #[.int .u8 kd10, .int .i64 ii10, .int .i64 nn10], 56)]) (T := (((Sq6 ++ Sq7) ++ Sq8) ++ Sq9)) hI22 (fresh_keys (ks := [b11]) rfl (fk_cons hb11 fk_nil))), ⟨by have := of_decide_eq_true c37_1; omega, hx2.2⟩⟩, (by have := of_decide_eq_true c37_1; show min L2 30 - (i + 1) < min L2 30 - i; omega)⟩
      · have hf85 := hf81.know 52 (u := .bool false) rfl (congrArg Value.bool c52_3)
        refine wp_skip ?_
        refine then_normal ?_
        refine code_seq ?_
        refine seq_start (l := [0, 1]) rfl ?_
        refine seq_one (op_val (v := .pointer (some ⟨b11, 0, none⟩)) hf85 rfl rfl rfl rfl rfl rfl (r_fieldAddr fi_56_0 rfl rfl) fun ac82 hf86 => ?_)
        refine seq_one (op_val (v := .int .u8 kd10) hf86 rfl rfl rfl rfl rfl rfl (r_load ag_5 rfl (hI22.at 5 rfl) rfl) fun ac83 hf87 => ?_)
        refine seq_end ?_
        clear hf81 ac79 hf85 ac82 hf86
        refine then_normal ?_
        refine code_joinG 92 ((Ch 20 4)) (fun (e : Ch 20 4) => [(0, .slice p L cap), (1, .int .u8 a), (2, .slice p2 L2 cap2), (6, .bool false), (7, .pointer (some ⟨b4, 0, none⟩)), (8, .int .i64 k), (9, .pointer (some ⟨b5, 0, none⟩)), (10, .int .i64 3), (12, .pointer (some ⟨b11, 0, none⟩)), (13, .int .i64 (d.atV nn10)), (14, .bool (d.inn nn10)), (16, .slice p L cap), (17, .pointer (some ⟨b4, 0, none⟩)), (18, .int .u8 a), (19, .int .u8 k), (20, .int .i64 k), (21, .int .i64 4), (22, .bool false), (23, .int .i64 3), (24, .int .i64 3), (25, .pointer (some ⟨b4, 0, none⟩)), (26, .int .i64 3), (27, .slice q9 ((c4.lst 3).length) capq9), (28, .pointer (some ⟨b5, 3, none⟩)), (29, .int .i64 4), (30, .slice p2 L2 cap2), (31, .slice p2 L2 cap2), (32, .int .i64 (L2 : Int)), (33, .int .i64 ((min L2 30 : Nat) : Int)), (34, .slice p2 (min L2 30) cap2), (35, .int .i64 (((min L2 30) : Nat) : Int)), (36, .int .i64 (i : Int)), (37, .bool true), (38, .pointer (slAt p2 (i * 3))), (39, .agg #[.int .u8 kd10, .int .i64 ii10, .int .i64 nn10]), (40, .tuple #[.int .i64 (d.atV nn10), .bool (d.inn nn10)]), (41, .pointer (some ⟨b4, 0, none⟩)), (42, .pointer (some ⟨b11, 2, none⟩)), (43, .int .i64 nn10), (44, .tuple #[.int .i64 (d.atV nn10), .bool (d.inn nn10)]), (45, .int .i64 (d.atV nn10)), (46, .bool (d.inn nn10)), (47, .bool (d.inn nn10)), (48, .bool true), (49, .int .i64 (d.atV nn10)), (50, .int .i64 k), (51, .bool ((d.atV nn10) != k)), (52, .bool false), (53, .pointer (some ⟨b11, 0, none⟩)), (54, .int .u8 kd10)]) (fun (e : Ch 20 4) => fun w' => Inv w ([(b1, arr .i64 e.lk, 103), (b2, arr .i64 e.of, 3), (b3, arr .i64 e.mn, 3), (b4, #[.slice (some ⟨b1, 0, none⟩) (20 + 4) (20 + 4), .slice (some ⟨b2, 0, none⟩) 20 20, .slice (some ⟨b3, 0, none⟩) 4 4], 79), (b5, #[.slice q6 ((c4.lst 0).length) capq6, .slice q7 ((c4.lst 1).length) capq7, .slice q8 ((c4.lst 2).length) capq8, .slice q9 ((c4.lst 3).length) capq9], 53), (b11, #[.int .u8 kd10, .int .i64 ii10, .int .i64 nn10], 56)] ++ (((Sq6 ++ Sq7) ++ Sq8) ++ Sq9)) w' ∧ (∀ j, j ≠ k → e.lst j = c4.lst j)) ?_ ?_
        ·
          refine wp_block ?_
          refine code_seq ?_
          refine seq_start (l := [0, 1]) rfl ?_
          refine seq_one (op_val (v := .bool (kd10 == 1)) hf87 rfl rfl rfl rfl rfl rfl (r_eql rfl rfl) fun ac84 hf88 => ?_)
          refine seq_one (op_val (v := .bool (kd10 == 1)) hf88 rfl rfl rfl rfl rfl rfl (r_assign rfl) fun ac85 hf89 => ?_)
          refine seq_end ?_
          clear ac83 hf87 ac84 hf88
          refine then_normal ?_
          refine code_if hf89 rfl (fun c55_4 => ?_) (fun c55_4 => ?_)
          · have hf90 := hf89.know 55 (u := .bool true) rfl (congrArg Value.bool c55_4)
            refine seq_start (l := [0, 1, 2, 3, 4]) rfl ?_
            refine seq_one (op_val (v := .pointer (some ⟨b4, 0, none⟩)) hf90 rfl rfl rfl rfl rfl rfl (r_move rfl) fun ac86 hf91 => ?_)
            refine seq_one (op_val (v := .int .i64 k) hf91 rfl rfl rfl rfl rfl rfl (r_move rfl) fun ac87 hf92 => ?_)
            refine seq_one (op_val (v := .pointer (some ⟨b11, 2, none⟩)) hf92 rfl rfl rfl rfl rfl rfl (r_fieldAddr fi_56_2 rfl rfl) fun ac88 hf93 => ?_)
            refine seq_one (op_val (v := .int .i64 nn10) hf93 rfl rfl rfl rfl rfl rfl (r_load ag_3 rfl (hI22.at 5 rfl) rfl) fun ac89 hf94 => ?_)
            refine seq_one (op_call (R := fun v w' => v = .int .i64 (d.pushE k nn10) ∧ Inv _ [(b1, arr .i64 (d.push k nn10).lk, 103), (b2, arr .i64 (d.push k nn10).of, 3), (b3, arr .i64 (d.push k nn10).mn, 3), (b4, #[.slice (some ⟨b1, 0, none⟩) (20 + 4) (20 + 4), .slice (some ⟨b2, 0, none⟩) 20 20, .slice (some ⟨b3, 0, none⟩) 4 4], 79)] w') hf94 rfl rfl rfl rfl ca_30 ((push_any (hI22.nd 0 rfl rfl rfl rfl) d (Has.cons (hI22.at 0 rfl) (Has.cons (hI22.at 1 rfl) (Has.cons (hI22.at 2 rfl) (Has.cons (hI22.at 3 rfl) Has.nil)))) k nn10).mono fun _ _ h => ⟨_, h.1, rfl, h.2⟩) fun ac90 v wd15 hR12 hf95 => ?_)
            obtain ⟨rfl, hR12⟩ := hR12
            have hI23 : Inv w ([(b1, arr .i64 (d.push k nn10).lk, 103), (b2, arr .i64 (d.push k nn10).of, 3), (b3, arr .i64 (d.push k nn10).mn, 3), (b4, #[.slice (some ⟨b1, 0, none⟩) (20 + 4) (20 + 4), .slice (some ⟨b2, 0, none⟩) 20 20, .slice (some ⟨b3, 0, none⟩) 4 4], 79), (b5, #[.slice q6 ((c4.lst 0).length) capq6, .slice q7 ((c4.lst 1).length) capq7, .slice q8 ((c4.lst 2).length) capq8, .slice q9 ((c4.lst 3).length) capq9], 53), (b11, #[.int .u8 kd10, .int .i64 ii10, .int .i64 nn10], 56)] ++ (((Sq6 ++ Sq7) ++ Sq8) ++ Sq9)) _ := Inv.callST (A := []) (S := [(b1, arr .i64 d.lk, 103), (b2, arr .i64 d.of, 3), (b3, arr .i64 d.mn, 3), (b4, #[.slice (some ⟨b1, 0, none⟩) (20 + 4) (20 + 4), .slice (some ⟨b2, 0, none⟩) 20 20, .slice (some ⟨b3, 0, none⟩) 4 4], 79)]) (S' := [(b1, arr .i64 (d.push k nn10).lk, 103), (b2, arr .i64 (d.push k nn10).of, 3), (b3, arr .i64 (d.push k nn10).mn, 3), (b4, #[.slice (some ⟨b1, 0, none⟩) (20 + 4) (20 + 4), .slice (some ⟨b2, 0, none⟩) 20 20, .slice (some ⟨b3, 0, none⟩) 4 4], 79)]) (L := [(b5, #[.slice q6 ((c4.lst 0).length) capq6, .slice q7 ((c4.lst 1).length) capq7, .slice q8 ((c4.lst 2).length) capq8, .slice q9 ((c4.lst 3).length) capq9], 53), (b11, #[.int .u8 kd10, .int .i64 ii10, .int .i64 nn10], 56)]) (N := []) (T := (((Sq6 ++ Sq7) ++ Sq8) ++ Sq9)) hI22 hR12 rfl (fun _ h => by cases h)
            refine seq_end ?_
            clear hf89 ac85 hf90 ac86 hf91 ac87 hf92 ac88 hf93 ac89 wd14 hf94 hI22 hR12
            refine block_normal ?_
            refine then_normal ?_
            exact ⟨((d.push k nn10)), (hf95.cons 0 rfl (hf95.cons 1 rfl (hf95.cons 2 rfl (hf95.cons 6 rfl (hf95.cons 7 rfl (hf95.cons 8 rfl (hf95.cons 9 rfl (hf95.cons 10 rfl (hf95.cons 12 rfl (hf95.cons 13 rfl (hf95.cons 14 rfl (hf95.cons 16 rfl (hf95.cons 17 rfl (hf95.cons 18 rfl (hf95.cons 19 rfl (hf95.cons 20 rfl (hf95.cons 21 rfl (hf95.cons 22 rfl (hf95.cons 23 rfl (hf95.cons 24 rfl (hf95.cons 25 rfl (hf95.cons 26 rfl (hf95.cons 27 rfl (hf95.cons 28 rfl (hf95.cons 29 rfl (hf95.cons 30 rfl (hf95.cons 31 rfl (hf95.cons 32 rfl (hf95.cons 33 rfl (hf95.cons 34 rfl (hf95.cons 35 rfl (hf95.cons 36 rfl (hf95.cons 37 rfl (hf95.cons 38 rfl (hf95.cons 39 rfl (hf95.cons 40 rfl (hf95.cons 41 rfl (hf95.cons 42 rfl (hf95.cons 43 rfl (hf95.cons 44 rfl (hf95.cons 45 rfl (hf95.cons 46 rfl (hf95.cons 47 rfl (hf95.cons 48 rfl (hf95.cons 49 rfl (hf95.cons 50 rfl (hf95.cons 51 rfl (hf95.cons 52 rfl (hf95.cons 53 rfl (hf95.cons 54 rfl hf95.nil)))))))))))))))))))))))))))))))))))))))))))))))))), ⟨hI23, (Ch.apart_push hx2.2)⟩⟩
          · have hf96 := hf89.know 55 (u := .bool false) rfl (congrArg Value.bool c55_4)
            refine code_seq ?_
            refine seq_start (l := [0, 1]) rfl ?_
            refine seq_one (op_val (v := .bool (kd10 == 2)) hf96 rfl rfl rfl rfl rfl rfl (r_eql rfl rfl) fun ac91 hf97 => ?_)
            refine seq_one (op_val (v := .bool (kd10 == 2)) hf97 rfl rfl rfl rfl rfl rfl (r_assign rfl) fun ac92 hf98 => ?_)
            refine seq_end ?_
            clear hf89 ac85 hf96 ac91 hf97
            refine then_normal ?_
            refine code_if hf98 rfl (fun c62_5 => ?_) (fun c62_5 => ?_)
            · have hf99 := hf98.know 62 (u := .bool true) rfl (congrArg Value.bool c62_5)
              refine seq_start (l := [0, 1, 2]) rfl ?_
              refine seq_one (op_val (v := .pointer (some ⟨b4, 0, none⟩)) hf99 rfl rfl rfl rfl rfl rfl (r_move rfl) fun ac93 hf100 => ?_)
              refine seq_one (op_val (v := .int .i64 k) hf100 rfl rfl rfl rfl rfl rfl (r_move rfl) fun ac94 hf101 => ?_)
              refine seq_one (op_call (R := fun v w' => v = .tuple #[.int .i64 (d.fst k), .bool (d.some_ k)] ∧ Inv _ [(b1, arr .i64 (d.pop k).lk, 103), (b2, arr .i64 (d.pop k).of, 3), (b3, arr .i64 (d.pop k).mn, 3), (b4, #[.slice (some ⟨b1, 0, none⟩) (20 + 4) (20 + 4), .slice (some ⟨b2, 0, none⟩) 20 20, .slice (some ⟨b3, 0, none⟩) 4 4], 79)] w') hf101 rfl rfl rfl rfl ca_31 ((pop_any (hI22.nd 0 rfl rfl rfl rfl) d (Has.cons (hI22.at 0 rfl) (Has.cons (hI22.at 1 rfl) (Has.cons (hI22.at 2 rfl) (Has.cons (hI22.at 3 rfl) Has.nil)))) k).mono fun _ _ h => ⟨_, h.1, rfl, h.2⟩) fun ac95 v wd16 hR12 hf102 => ?_)
              obtain ⟨rfl, hR12⟩ := hR12
              have hI24 : Inv w ([(b1, arr .i64 (d.pop k).lk, 103), (b2, arr .i64 (d.pop k).of, 3), (b3, arr .i64 (d.pop k).mn, 3), (b4, #[.slice (some ⟨b1, 0, none⟩) (20 + 4) (20 + 4), .slice (some ⟨b2, 0, none⟩) 20 20, .slice (some ⟨b3, 0, none⟩) 4 4], 79), (b5, #[.slice q6 ((c4.lst 0).length) capq6, .slice q7 ((c4.lst 1).length) capq7, .slice q8 ((c4.lst 2).length) capq8, .slice q9 ((c4.lst 3).length) capq9], 53), (b11, #[.int .u8 kd10, .int .i64 ii10, .int .i64 nn10], 56)] ++ (((Sq6 ++ Sq7) ++ Sq8) ++ Sq9)) _ := Inv.callST (A := []) (S := [(b1, arr .i64 d.lk, 103), (b2, arr .i64 d.of, 3), (b3, arr .i64 d.mn, 3), (b4, #[.slice (some ⟨b1, 0, none⟩) (20 + 4) (20 + 4), .slice (some ⟨b2, 0, none⟩) 20 20, .slice (some ⟨b3, 0, none⟩) 4 4], 79)]) (S' := [(b1, arr .i64 (d.pop k).lk, 103), (b2, arr .i64 (d.pop k).of, 3), (b3, arr .i64 (d.pop k).mn, 3), (b4, #[.slice (some ⟨b1, 0, none⟩) (20 + 4) (20 + 4), .slice (some ⟨b2, 0, none⟩) 20 20, .slice (some ⟨b3, 0, none⟩) 4 4], 79)]) (L := [(b5, #[.slice q6 ((c4.lst 0).length) capq6, .slice q7 ((c4.lst 1).length) capq7, .slice q8 ((c4.lst 2).length) capq8, .slice q9 ((c4.lst 3).length) capq9], 53), (b11, #[.int .u8 kd10, .int .i64 ii10, .int .i64 nn10], 56)]) (N := []) (T := (((Sq6 ++ Sq7) ++ Sq8) ++ Sq9)) hI22 hR12 rfl (fun _ h => by cases h)
              refine seq_end ?_
              clear hf98 ac92 hf99 ac93 hf100 ac94 wd14 hf101 hI22 hR12
              refine block_normal ?_
              refine then_normal ?_
              exact ⟨((d.pop k)), (hf102.cons 0 rfl (hf102.cons 1 rfl (hf102.cons 2 rfl (hf102.cons 6 rfl (hf102.cons 7 rfl (hf102.cons 8 rfl (hf102.cons 9 rfl (hf102.cons 10 rfl (hf102.cons 12 rfl (hf102.cons 13 rfl (hf102.cons 14 rfl (hf102.cons 16 rfl (hf102.cons 17 rfl (hf102.cons 18 rfl (hf102.cons 19 rfl (hf102.cons 20 rfl (hf102.cons 21 rfl (hf102.cons 22 rfl (hf102.cons 23 rfl (hf102.cons 24 rfl (hf102.cons 25 rfl (hf102.cons 26 rfl (hf102.cons 27 rfl (hf102.cons 28 rfl (hf102.cons 29 rfl (hf102.cons 30 rfl (hf102.cons 31 rfl (hf102.cons 32 rfl (hf102.cons 33 rfl (hf102.cons 34 rfl (hf102.cons 35 rfl (hf102.cons 36 rfl (hf102.cons 37 rfl (hf102.cons 38 rfl (hf102.cons 39 rfl (hf102.cons 40 rfl (hf102.cons 41 rfl (hf102.cons 42 rfl (hf102.cons 43 rfl (hf102.cons 44 rfl (hf102.cons 45 rfl (hf102.cons 46 rfl (hf102.cons 47 rfl (hf102.cons 48 rfl (hf102.cons 49 rfl (hf102.cons 50 rfl (hf102.cons 51 rfl (hf102.cons 52 rfl (hf102.cons 53 rfl (hf102.cons 54 rfl hf102.nil)))))))))))))))))))))))))))))))))))))))))))))))))), ⟨hI24, (Ch.apart_pop hx2.2)⟩⟩
            · have hf103 := hf98.know 62 (u := .bool false) rfl (congrArg Value.bool c62_5)
              refine code_seq ?_
              refine seq_start (l := [0, 1]) rfl ?_
              refine seq_one (op_val (v := .bool (kd10 == 3)) hf103 rfl rfl rfl rfl rfl rfl (r_eql rfl rfl) fun ac96 hf104 => ?_)
              refine seq_one (op_val (v := .bool (kd10 == 3)) hf104 rfl rfl rfl rfl rfl rfl (r_assign rfl) fun ac97 hf105 => ?_)
              refine seq_end ?_
              clear hf98 ac92 hf103 ac96 hf104
              refine then_normal ?_
              refine code_if hf105 rfl (fun c67_6 => ?_) (fun c67_6 => ?_)
              · have hf106 := hf105.know 67 (u := .bool true) rfl (congrArg Value.bool c67_6)
                refine seq_start (l := [0, 1, 2, 3]) rfl ?_
                refine seq_one (op_val (v := .pointer (some ⟨b4, 0, none⟩)) hf106 rfl rfl rfl rfl rfl rfl (r_move rfl) fun ac98 hf107 => ?_)
                refine seq_one (op_val (v := .pointer (some ⟨b11, 2, none⟩)) hf107 rfl rfl rfl rfl rfl rfl (r_fieldAddr fi_56_2 rfl rfl) fun ac99 hf108 => ?_)
                refine seq_one (op_val (v := .int .i64 nn10) hf108 rfl rfl rfl rfl rfl rfl (r_load ag_3 rfl (hI22.at 5 rfl) rfl) fun ac100 hf109 => ?_)
                refine seq_one (op_call (R := fun v w' => v = .bool (d.inn nn10) ∧ Inv _ [(b1, arr .i64 (d.drop nn10).lk, 103), (b2, arr .i64 (d.drop nn10).of, 3), (b3, arr .i64 (d.drop nn10).mn, 3), (b4, #[.slice (some ⟨b1, 0, none⟩) (20 + 4) (20 + 4), .slice (some ⟨b2, 0, none⟩) 20 20, .slice (some ⟨b3, 0, none⟩) 4 4], 79)] w') hf109 rfl rfl rfl rfl ca_32 ((drop_any (hI22.nd 0 rfl rfl rfl rfl) d (Has.cons (hI22.at 0 rfl) (Has.cons (hI22.at 1 rfl) (Has.cons (hI22.at 2 rfl) (Has.cons (hI22.at 3 rfl) Has.nil)))) nn10).mono fun _ _ h => ⟨_, h.1, rfl, h.2⟩) fun ac101 v wd17 hR12 hf110 => ?_)
                obtain ⟨rfl, hR12⟩ := hR12
                have hI25 : Inv w ([(b1, arr .i64 (d.drop nn10).lk, 103), (b2, arr .i64 (d.drop nn10).of, 3), (b3, arr .i64 (d.drop nn10).mn, 3), (b4, #[.slice (some ⟨b1, 0, none⟩) (20 + 4) (20 + 4), .slice (some ⟨b2, 0, none⟩) 20 20, .slice (some ⟨b3, 0, none⟩) 4 4], 79), (b5, #[.slice q6 ((c4.lst 0).length) capq6, .slice q7 ((c4.lst 1).length) capq7, .slice q8 ((c4.lst 2).length) capq8, .slice q9 ((c4.lst 3).length) capq9], 53), (b11, #[.int .u8 kd10, .int .i64 ii10, .int .i64 nn10], 56)] ++ (((Sq6 ++ Sq7) ++ Sq8) ++ Sq9)) _ := Inv.callST (A := []) (S := [(b1, arr .i64 d.lk, 103), (b2, arr .i64 d.of, 3), (b3, arr .i64 d.mn, 3), (b4, #[.slice (some ⟨b1, 0, none⟩) (20 + 4) (20 + 4), .slice (some ⟨b2, 0, none⟩) 20 20, .slice (some ⟨b3, 0, none⟩) 4 4], 79)]) (S' := [(b1, arr .i64 (d.drop nn10).lk, 103), (b2, arr .i64 (d.drop nn10).of, 3), (b3, arr .i64 (d.drop nn10).mn, 3), (b4, #[.slice (some ⟨b1, 0, none⟩) (20 + 4) (20 + 4), .slice (some ⟨b2, 0, none⟩) 20 20, .slice (some ⟨b3, 0, none⟩) 4 4], 79)]) (L := [(b5, #[.slice q6 ((c4.lst 0).length) capq6, .slice q7 ((c4.lst 1).length) capq7, .slice q8 ((c4.lst 2).length) capq8, .slice q9 ((c4.lst 3).length) capq9], 53), (b11, #[.int .u8 kd10, .int .i64 ii10, .int .i64 nn10], 56)]) (N := []) (T := (((Sq6 ++ Sq7) ++ Sq8) ++ Sq9)) hI22 hR12 rfl (fun _ h => by cases h)
                refine seq_end ?_
                clear hf105 ac97 hf106 ac98 hf107 ac99 hf108 ac100 wd14 hf109 hI22 hR12
                refine block_normal ?_
                refine then_normal ?_
                exact ⟨((d.drop nn10)), (hf110.cons 0 rfl (hf110.cons 1 rfl (hf110.cons 2 rfl (hf110.cons 6 rfl (hf110.cons 7 rfl (hf110.cons 8 rfl (hf110.cons 9 rfl (hf110.cons 10 rfl (hf110.cons 12 rfl (hf110.cons 13 rfl (hf110.cons 14 rfl (hf110.cons 16 rfl (hf110.cons 17 rfl (hf110.cons 18 rfl (hf110.cons 19 rfl (hf110.cons 20 rfl (hf110.cons 21 rfl (hf110.cons 22 rfl (hf110.cons 23 rfl (hf110.cons 24 rfl (hf110.cons 25 rfl (hf110.cons 26 rfl (hf110.cons 27 rfl (hf110.cons 28 rfl (hf110.cons 29 rfl (hf110.cons 30 rfl (hf110.cons 31 rfl (hf110.cons 32 rfl (hf110.cons 33 rfl (hf110.cons 34 rfl (hf110.cons 35 rfl (hf110.cons 36 rfl (hf110.cons 37 rfl (hf110.cons 38 rfl (hf110.cons 39 rfl (hf110.cons 40 rfl (hf110.cons 41 rfl (hf110.cons 42 rfl (hf110.cons 43 rfl (hf110.cons 44 rfl (hf110.cons 45 rfl (hf110.cons 46 rfl (hf110.cons 47 rfl (hf110.cons 48 rfl (hf110.cons 49 rfl (hf110.cons 50 rfl (hf110.cons 51 rfl (hf110.cons 52 rfl (hf110.cons 53 rfl (hf110.cons 54 rfl hf110.nil)))))))))))))))))))))))))))))))))))))))))))))))))), ⟨hI25, (Ch.apart_drop hx2.2 (fun _ => bne_eq_false_iff_eq.1 c52_3))⟩⟩
              · have hf111 := hf105.know 67 (u := .bool false) rfl (congrArg Value.bool c67_6)
                refine wp_skip ?_
                refine block_normal ?_
                refine then_normal ?_
                clear hf105
                exact ⟨(d), (hf111.cons 0 rfl (hf111.cons 1 rfl (hf111.cons 2 rfl (hf111.cons 6 rfl (hf111.cons 7 rfl (hf111.cons 8 rfl (hf111.cons 9 rfl (hf111.cons 10 rfl (hf111.cons 12 rfl (hf111.cons 13 rfl (hf111.cons 14 rfl (hf111.cons 16 rfl (hf111.cons 17 rfl (hf111.cons 18 rfl (hf111.cons 19 rfl (hf111.cons 20 rfl (hf111.cons 21 rfl (hf111.cons 22 rfl (hf111.cons 23 rfl (hf111.cons 24 rfl (hf111.cons 25 rfl (hf111.cons 26 rfl (hf111.cons 27 rfl (hf111.cons 28 rfl (hf111.cons 29 rfl (hf111.cons 30 rfl (hf111.cons 31 rfl (hf111.cons 32 rfl (hf111.cons 33 rfl (hf111.cons 34 rfl (hf111.cons 35 rfl (hf111.cons 36 rfl (hf111.cons 37 rfl (hf111.cons 38 rfl (hf111.cons 39 rfl (hf111.cons 40 rfl (hf111.cons 41 rfl (hf111.cons 42 rfl (hf111.cons 43 rfl (hf111.cons 44 rfl (hf111.cons 45 rfl (hf111.cons 46 rfl (hf111.cons 47 rfl (hf111.cons 48 rfl (hf111.cons 49 rfl (hf111.cons 50 rfl (hf111.cons 51 rfl (hf111.cons 52 rfl (hf111.cons 53 rfl (hf111.cons 54 rfl hf111.nil)))))))))))))))))))))))))))))))))))))))))))))))))), ⟨hI22, hx2.2⟩⟩
        ·
          intro e ac102 wd18 hf112 ⟨hI26, hj26⟩
          clear ac83 wd14 hf87 hI22
          refine block_normal ?_
          refine then_normal ?_
          refine seq_start (l := [0, 1]) rfl ?_
          refine seq_one (op_val (v := .int .i64 ((i + 1 : Nat) : Int)) hf112 rfl rfl rfl rfl rfl rfl (r_add (c := ((i + 1 : Nat) : Int)) rfl rfl (wrap_i64 (by omega) (by have := hx2.1; omega))) fun ac103 hf113 => ?_)
          refine seq_one (op_val (v := .int .i64 ((i + 1 : Nat) : Int)) hf113 rfl rfl rfl rfl rfl rfl (r_move rfl) fun ac104 hf114 => ?_)
          refine seq_end ?_
          clear ac102 hf112 ac103 hf113
          refine then_normal ?_
          exact ⟨(i + 1, e), (hf114.cons 0 rfl (hf114.cons 1 rfl (hf114.cons 2 rfl (hf114.cons 6 rfl (hf114.cons 7 rfl (hf114.cons 8 rfl (hf114.cons 9 rfl (hf114.cons 10 rfl (hf114.cons 16 rfl (hf114.cons 17 rfl (hf114.cons 18 rfl (hf114.cons 19 rfl (hf114.cons 20 rfl (hf114.cons 21 rfl (hf114.cons 22 rfl (hf114.cons 23 rfl (hf114.cons 24 rfl (hf114.cons 25 rfl (hf114.cons 26 rfl (hf114.cons 27 rfl (hf114.cons 28 rfl (hf114.cons 29 rfl (hf114.cons 30 rfl (hf114.cons 31 rfl (hf114.cons 32 rfl (hf114.cons 33 rfl (hf114.cons 34 rfl (hf114.cons 35 rfl (hf114.cons 36 rfl hf114.nil))))))))))))))))))))))))))))), ⟨(Inv.keep (A := [(b1, arr .i64 e.lk, 103), (b2, arr .i64 e.of, 3), (b3, arr .i64 e.mn, 3), (b4, #[.slice (some ⟨b1, 0, none⟩) (20 + 4) (20 + 4), .slice (some ⟨b2, 0, none⟩) 20 20, .slice (some ⟨b3, 0, none⟩) 4 4], 79), (b5, #[.slice q6 ((c4.lst 0).length) capq6, .slice q7 ((c4.lst 1).length) capq7, .slice q8 ((c4.lst 2).length) capq8, .slice q9 ((c4.lst 3).length) capq9], 53)]) (N := [(b11, #[.int .u8 kd10, .int .i64 ii10, .int .i64 nn10], 56)]) (T := (((Sq6 ++ Sq7) ++ Sq8) ++ Sq9)) hI26 (fresh_keys (ks := [b11]) rfl (fk_cons hb11 fk_nil))), ⟨by have := of_decide_eq_true c37_1; omega, hj26⟩⟩, (by have := of_decide_eq_true c37_1; show min L2 30 - (i + 1) < min L2 30 - i; omega)⟩
    · have hf115 := hf76.know 48 (u := .bool false) rfl (congrArg Value.bool g48_2)
      refine seq_one (op_skip hf115 rfl rfl rfl rfl fun ac105 hf116 => ?_)
      refine seq_one (op_skip hf116 rfl rfl rfl rfl fun ac106 hf117 => ?_)
      refine seq_one (op_skip hf117 rfl rfl rfl rfl fun ac107 hf118 => ?_)
      refine seq_one (op_val (v := .bool false) hf118 rfl rfl rfl rfl rfl rfl (r_pickF rfl rfl) fun ac108 hf119 => ?_)
      refine seq_end ?_
      clear ac73 hf74 ac74 hf75 hf76 ac75 hf115 ac105 hf116 ac106 hf117 ac107 hf118
      refine then_normal ?_
      refine code_if_false hf119 rfl ?_
      refine wp_skip ?_
      refine then_normal ?_
      refine code_seq ?_
      refine seq_start (l := [0, 1]) rfl ?_
      refine seq_one (op_val (v := .pointer (some ⟨b11, 0, none⟩)) hf119 rfl rfl rfl rfl rfl rfl (r_fieldAddr fi_56_0 rfl rfl) fun ac109 hf120 => ?_)
      refine seq_one (op_val (v := .int .u8 kd10) hf120 rfl rfl rfl rfl rfl rfl (r_load ag_5 rfl (hI22.at 5 rfl) rfl) fun ac110 hf121 => ?_)
      refine seq_end ?_
      clear ac108 hf119 ac109 hf120
      refine then_normal ?_
      refine code_joinG 92 ((Ch 20 4)) (fun (e : Ch 20 4) => [(0, .slice p L cap), (1, .int .u8 a), (2, .slice p2 L2 cap2), (6, .bool false), (7, .pointer (some ⟨b4, 0, none⟩)), (8, .int .i64 k), (9, .pointer (some ⟨b5, 0, none⟩)), (10, .int .i64 3), (12, .pointer (some ⟨b11, 0, none⟩)), (13, .int .i64 (d.atV nn10)), (14, .bool (d.inn nn10)), (16, .slice p L cap), (17, .pointer (some ⟨b4, 0, none⟩)), (18, .int .u8 a), (19, .int .u8 k), (20, .int .i64 k), (21, .int .i64 4), (22, .bool false), (23, .int .i64 3), (24, .int .i64 3), (25, .pointer (some ⟨b4, 0, none⟩)), (26, .int .i64 3), (27, .slice q9 ((c4.lst 3).length) capq9), (28, .pointer (some ⟨b5, 3, none⟩)), (29, .int .i64 4), (30, .slice p2 L2 cap2), (31, .slice p2 L2 cap2), (32, .int .i64 (L2 : Int)), (33, .int .i64 ((min L2 30 : Nat) : Int)), (34, .slice p2 (min L2 30) cap2), (35, .int .i64 (((min L2 30) : Nat) : Int)), (36, .int .i64 (i : Int)), (37, .bool true), (38, .pointer (slAt p2 (i * 3))), (39, .agg #[.int .u8 kd10, .int .i64 ii10, .int .i64 nn10]), (40, .tuple #[.int .i64 (d.atV nn10), .bool (d.inn nn10)]), (41, .pointer (some ⟨b4, 0, none⟩)), (42, .pointer (some ⟨b11, 2, none⟩)), (43, .int .i64 nn10), (44, .tuple #[.int .i64 (d.atV nn10), .bool (d.inn nn10)]), (45, .int .i64 (d.atV nn10)), (46, .bool (d.inn nn10)), (47, .bool (d.inn nn10)), (48, .bool false), (52, .bool false), (53, .pointer (some ⟨b11, 0, none⟩)), (54, .int .u8 kd10)]) (fun (e : Ch 20 4) => fun w' => Inv w ([(b1, arr .i64 e.lk, 103), (b2, arr .i64 e.of, 3), (b3, arr .i64 e.mn, 3), (b4, #[.slice (some ⟨b1, 0, none⟩) (20 + 4) (20 + 4), .slice (some ⟨b2, 0, none⟩) 20 20, .slice (some ⟨b3, 0, none⟩) 4 4], 79), (b5, #[.slice q6 ((c4.lst 0).length) capq6, .slice q7 ((c4.lst 1).length) capq7, .slice q8 ((c4.lst 2).length) capq8, .slice q9 ((c4.lst 3).length) capq9], 53), (b11, #[.int .u8 kd10, .int .i64 ii10, .int .i64 nn10], 56)] ++ (((Sq6 ++ Sq7) ++ Sq8) ++ Sq9)) w' ∧ (∀ j, j ≠ k → e.lst j = c4.lst j)) ?_ ?_
      ·
        refine wp_block ?_
        refine code_seq ?_
        refine seq_start (l := [0, 1]) rfl ?_
        refine seq_one (op_val (v := .bool (kd10 == 1)) hf121 rfl rfl rfl rfl rfl rfl (r_eql rfl rfl) fun ac111 hf122 => ?_)
        refine seq_one (op_val (v := .bool (kd10 == 1)) hf122 rfl rfl rfl rfl rfl rfl (r_assign rfl) fun ac112 hf123 => ?_)
        refine seq_end ?_
        clear ac110 hf121 ac111 hf122
        refine then_normal ?_
        refine code_if hf123 rfl (fun c55_7 => ?_) (fun c55_7 => ?_)
        · have hf124 := hf123.know 55 (u := .bool true) rfl (congrArg Value.bool c55_7)
          refine seq_start (l := [0, 1, 2, 3, 4]) rfl ?_
          refine seq_one (op_val (v := .pointer (some ⟨b4, 0, none⟩)) hf124 rfl rfl rfl rfl rfl rfl (r_move rfl) fun ac113 hf125 => ?_)
          refine seq_one (op_val (v := .int .i64 k) hf125 rfl rfl rfl rfl rfl rfl (r_move rfl) fun ac114 hf126 => ?_)
          refine seq_one (op_val (v := .pointer (some ⟨b11, 2, none⟩)) hf126 rfl rfl rfl rfl rfl rfl (r_fieldAddr fi_56_2 rfl rfl) fun ac115 hf127 => ?_)
          refine seq_one (op_val (v := .int .i64 nn10) hf127 rfl rfl rfl rfl rfl rfl (r_load ag_3 rfl (hI22.at 5 rfl) rfl) fun ac116 hf128 => ?_)
          refine seq_one (op_call (R := fun v w' => v = .int .i64 (d.pushE k nn10) ∧ Inv _ [(b1, arr .i64 (d.push k nn10).lk, 103), (b2, arr .i64 (d.push k nn10).of, 3), (b3, arr .i64 (d.push k nn10).mn, 3), (b4, #[.slice (some ⟨b1, 0, none⟩) (20 + 4) (20 + 4), .slice (some ⟨b2, 0, none⟩) 20 20, .slice (some ⟨b3, 0, none⟩) 4 4], 79)] w') hf128 rfl rfl rfl rfl ca_30 ((push_any (hI22.nd 0 rfl rfl rfl rfl) d (Has.cons (hI22.at 0 rfl) (Has.cons (hI22.at 1 rfl) (Has.cons (hI22.at 2 rfl) (Has.cons (hI22.at 3 rfl) Has.nil)))) k nn10).mono fun _ _ h => ⟨_, h.1, rfl, h.2⟩) fun ac117 v wd19 hR12 hf129 => ?_)
          obtain ⟨rfl, hR12⟩ := hR12
          have hI27 : Inv w ([(b1, arr .i64 (d.push k nn10).lk, 103), (b2, arr .i64 (d.push k nn10).of, 3), (b3, arr .i64 (d.push k nn10).mn, 3), (b4, #[.slice (some ⟨b1, 0, none⟩) (20 + 4) (20 + 4), .slice (some ⟨b2, 0, none⟩) 20 20, .slice (some ⟨b3, 0, none⟩) 4 4], 79), (b5, #[.slice q6 ((c4.lst 0).length) capq6, .slice q7 ((c4.lst 1).length) capq7, .slice q8 ((c4.lst 2).length) capq8, .slice q9 ((c4.lst 3).length) capq9], 53), (b11, #[.int .u8 kd10, .int .i64 ii10, .int .i64 nn10], 56)] ++ (((Sq6 ++ Sq7) ++ Sq8) ++ Sq9)) _ := Inv.callST (A := []) (S := [(b1, arr .i64 d.lk, 103), (b2, arr .i64 d.of, 3), (b3, arr .i64 d.mn, 3), (b4, #[.slice (some ⟨b1, 0, none⟩) (20 + 4) (20 + 4), .slice (some ⟨b2, 0, none⟩) 20 20, .slice (some ⟨b3, 0, none⟩) 4 4], 79)]) (S' := [(b1, arr .i64 (d.push k nn10).lk, 103), (b2, arr .i64 (d.push k nn10).of, 3), (b3, arr .i64 (d.push k nn10).mn, 3), (b4, #[.slice (some ⟨b1, 0, none⟩) (20 + 4) (20 + 4), .slice (some ⟨b2, 0, none⟩) 20 20, .slice (some ⟨b3, 0, none⟩) 4 4], 79)]) (L := [(b5, #[.slice q6 ((c4.lst 0).length) capq6, .slice q7 ((c4.lst 1).length) capq7, .slice q8 ((c4.lst 2).length) capq8, .slice q9 ((c4.lst 3).length) capq9], 53), (b11, #[.int .u8 kd10, .int .i64 ii10, .int .i64 nn10], 56)]) (N := []) (T := (((Sq6 ++ Sq7) ++ Sq8) ++ Sq9)) hI22 hR12 rfl (fun _ h => by cases h)
          refine seq_end ?_
          clear hf123 ac112 hf124 ac113 hf125 ac114 hf126 ac115 hf127 ac116 wd14 hf128 hI22 hR12
          refine block_normal ?_
          refine then_normal ?_
          exact ⟨((d.push k nn10)), (hf129.cons 0 rfl (hf129.cons 1 rfl (hf129.cons 2 rfl (hf129.cons 6 rfl (hf129.cons 7 rfl (hf129.cons 8 rfl (hf129.cons 9 rfl (hf129.cons 10 rfl (hf129.cons 12 rfl (hf129.cons 13 rfl (hf129.cons 14 rfl (hf129.cons 16 rfl (hf129.cons 17 rfl (hf129.cons 18 rfl (hf129.cons 19 rfl (hf129.cons 20 rfl (hf129.cons 21 rfl (hf129.cons 22 rfl (hf129.cons 23 rfl (hf129.cons 24 rfl (hf129.cons 25 rfl (hf129.cons 26 rfl (hf129.cons 27 rfl (hf129.cons 28 rfl (hf129.cons 29 rfl (hf129.cons 30 rfl (hf129.cons 31 rfl (hf129.cons 32 rfl (hf129.cons 33 rfl (hf129.cons 34 rfl (hf129.cons 35 rfl (hf129.cons 36 rfl (hf129.cons 37 rfl (hf129.cons 38 rfl (hf129.cons 39 rfl (hf129.cons 40 rfl (hf129.cons 41 rfl (hf129.cons 42 rfl (hf129.cons 43 rfl (hf129.cons 44 rfl (hf129.cons 45 rfl (hf129.cons 46 rfl (hf129.cons 47 rfl (hf129.cons 48 rfl (hf129.cons 52 rfl (hf129.cons 53 rfl (hf129.cons 54 rfl hf129.nil))))))))))))))))))))))))))))))))))))))))))))))), ⟨hI27, (Ch.apart_push hx2.2)⟩⟩
        · have hf130 := hf123.know 55 (u := .bool false) rfl (congrArg Value.bool c55_7)
          refine code_seq ?_
          refine seq_start (l := [0, 1]) rfl ?_
          refine seq_one (op_val (v := .bool (kd10 == 2)) hf130 rfl rfl rfl rfl rfl rfl (r_eql rfl rfl) fun ac118 hf131 => ?_)
          refine seq_one (op_val (v := .bool (kd10 == 2)) hf131 rfl rfl rfl rfl rfl rfl (r_assign rfl) fun ac119 hf132 => ?_)
          refine seq_end ?_
          clear hf123 ac112 hf130 ac118 hf131
          refine then_normal ?_
          refine code_if hf132 rfl (fun c62_8 => ?_) (fun c62_8 => ?_)
          · have hf133 := hf132.know 62 (u := .bool true) rfl (congrArg Value.bool c62_8)
            refine seq_start (l := [0, 1, 2]) rfl ?_
            refine seq_one (op_val (v := .pointer (some ⟨b4, 0, none⟩)) hf133 rfl rfl rfl rfl rfl rfl (r_move rfl) fun ac120 hf134 => ?_)
            refine seq_one (op_val (v := .int .i64 k) hf134 rfl rfl rfl rfl rfl rfl (r_move rfl) fun ac121 hf135 => ?_)
            refine seq_one (op_call (R := fun v w' => v = .tuple #[.int .i64 (d.fst k), .bool (d.some_ k)] ∧ Inv _ [(b1, arr .i64 (d.pop k).lk, 103), (b2, arr .i64 (d.pop k).of, 3), (b3, arr .i64 (d.pop k).mn, 3), (b4, #[.slice (some ⟨b1, 0, none⟩) (20 + 4) (20 + 4), .slice (some ⟨b2, 0, none⟩) 20 20, .slice (some ⟨b3, 0, none⟩) 4 4], 79)] w') hf135 rfl rfl rfl rfl ca_31 ((pop_any (hI22.nd 0 rfl rfl rfl rfl) d (Has.cons (hI22.at 0 rfl) (Has.cons (hI22.at 1 rfl) (Has.cons (hI22.at 2 rfl) (Has.cons (hI22.at 3 rfl) Has.nil)))) k).mono fun _ _ h => ⟨_, h.1, rfl, h.2⟩) fun ac122 v wd20 hR12 hf136 => ?_)
            obtain ⟨rfl, hR12⟩ := hR12
            have hI28 : Inv w ([(b1, arr .i64 (d.pop k).lk, 103), (b2, arr .i64 (d.pop k).of, 3), (b3, arr .i64 (d.pop k).mn, 3), (b4, #[.slice (some ⟨b1, 0, none⟩) (20 + 4) (20 + 4), .slice (some ⟨b2, 0, none⟩) 20 20, .slice (some ⟨b3, 0, none⟩) 4 4], 79), (b5, #[.slice q6 ((c4.lst 0).length) capq6, .slice q7 ((c4.lst 1).length) capq7, .slice q8 ((c4.lst 2).length) capq8, .slice q9 ((c4.lst 3).length) capq9], 53), (b11, #[.int .u8 kd10, .int .i64 ii10, .int .i64 nn10], 56)] ++ (((Sq6 ++ Sq7) ++ Sq8) ++ Sq9)) _ := Inv.callST (A := []) (S := [(b1, arr .i64 d.lk, 103), (b2, arr .i64 d.of, 3), (b3, arr .i64 d.mn, 3), (b4, #[.slice (some ⟨b1, 0, none⟩) (20 + 4) (20 + 4), .slice (some ⟨b2, 0, none⟩) 20 20, .slice (some ⟨b3, 0, none⟩) 4 4], 79)]) (S' := [(b1, arr .i64 (d.pop k).lk, 103), (b2, arr .i64 (d.pop k).of, 3), (b3, arr .i64 (d.pop k).mn, 3), (b4, #[.slice (some ⟨b1, 0, none⟩) (20 + 4) (20 + 4), .slice (some ⟨b2, 0, none⟩) 20 20, .slice (some ⟨b3, 0, none⟩) 4 4], 79)]) (L := [(b5, #[.slice q6 ((c4.lst 0).length) capq6, .slice q7 ((c4.lst 1).length) capq7, .slice q8 ((c4.lst 2).length) capq8, .slice q9 ((c4.lst 3).length) capq9], 53), (b11, #[.int .u8 kd10, .int .i64 ii10, .int .i64 nn10], 56)]) (N := []) (T := (((Sq6 ++ Sq7) ++ Sq8) ++ Sq9)) hI22 hR12 rfl (fun _ h => by cases h)
            refine seq_end ?_
            clear hf132 ac119 hf133 ac120 hf134 ac121 wd14 hf135 hI22 hR12
            refine block_normal ?_
            refine then_normal ?_
            exact ⟨((d.pop k)), (hf136.cons 0 rfl (hf136.cons 1 rfl (hf136.cons 2 rfl (hf136.cons 6 rfl (hf136.cons 7 rfl (hf136.cons 8 rfl (hf136.cons 9 rfl (hf136.cons 10 rfl (hf136.cons 12 rfl (hf136.cons 13 rfl (hf136.cons 14 rfl (hf136.cons 16 rfl (hf136.cons 17 rfl (hf136.cons 18 rfl (hf136.cons 19 rfl (hf136.cons 20 rfl (hf136.cons 21 rfl (hf136.cons 22 rfl (hf136.cons 23 rfl (hf136.cons 24 rfl (hf136.cons 25 rfl (hf136.cons 26 rfl (hf136.cons 27 rfl (hf136.cons 28 rfl (hf136.cons 29 rfl (hf136.cons 30 rfl (hf136.cons 31 rfl (hf136.cons 32 rfl (hf136.cons 33 rfl (hf136.cons 34 rfl (hf136.cons 35 rfl (hf136.cons 36 rfl (hf136.cons 37 rfl (hf136.cons 38 rfl (hf136.cons 39 rfl (hf136.cons 40 rfl (hf136.cons 41 rfl (hf136.cons 42 rfl (hf136.cons 43 rfl (hf136.cons 44 rfl (hf136.cons 45 rfl (hf136.cons 46 rfl (hf136.cons 47 rfl (hf136.cons 48 rfl (hf136.cons 52 rfl (hf136.cons 53 rfl (hf136.cons 54 rfl hf136.nil))))))))))))))))))))))))))))))))))))))))))))))), ⟨hI28, (Ch.apart_pop hx2.2)⟩⟩
          · have hf137 := hf132.know 62 (u := .bool false) rfl (congrArg Value.bool c62_8)
            refine code_seq ?_
            refine seq_start (l := [0, 1]) rfl ?_
            refine seq_one (op_val (v := .bool (kd10 == 3)) hf137 rfl rfl rfl rfl rfl rfl (r_eql rfl rfl) fun ac123 hf138 => ?_)
            refine seq_one (op_val (v := .bool (kd10 == 3)) hf138 rfl rfl rfl rfl rfl rfl (r_assign rfl) fun ac124 hf139 => ?_)
            refine seq_end ?_
            clear hf132 ac119 hf137 ac123 hf138
            refine then_normal ?_
            refine code_if hf139 rfl (fun c67_9 => ?_) (fun c67_9 => ?_)
            · have hf140 := hf139.know 67 (u := .bool true) rfl (congrArg Value.bool c67_9)
              refine seq_start (l := [0, 1, 2, 3]) rfl ?_
              refine seq_one (op_val (v := .pointer (some ⟨b4, 0, none⟩)) hf140 rfl rfl rfl rfl rfl rfl (r_move rfl) fun ac125 hf141 => ?_)
              refine seq_one (op_val (v := .pointer (some ⟨b11, 2, none⟩)) hf141 rfl rfl rfl rfl rfl rfl (r_fieldAddr fi_56_2 rfl rfl) fun ac126 hf142 => ?_)
              refine seq_one (op_val (v := .int .i64 nn10) hf142 rfl rfl rfl rfl rfl rfl (r_load ag_3 rfl (hI22.at 5 rfl) rfl) fun ac127 hf143 => ?_)
              refine seq_one (op_call (R := fun v w' => v = .bool (d.inn nn10) ∧ Inv _ [(b1, arr .i64 (d.drop nn10).lk, 103), (b2, arr .i64 (d.drop nn10).of, 3), (b3, arr .i64 (d.drop nn10).mn, 3), (b4, #[.slice (some ⟨b1, 0, none⟩) (20 + 4) (20 + 4), .slice (some ⟨b2, 0, none⟩) 20 20, .slice (some ⟨b3, 0, none⟩) 4 4], 79)] w') hf143 rfl rfl rfl rfl ca_32 ((drop_any (hI22.nd 0 rfl rfl rfl rfl) d (Has.cons (hI22.at 0 rfl) (Has.cons (hI22.at 1 rfl) (Has.cons (hI22.at 2 rfl) (Has.cons (hI22.at 3 rfl) Has.nil)))) nn10).mono fun _ _ h => ⟨_, h.1, rfl, h.2⟩) fun ac128 v wd21 hR12 hf144 => ?_)
              obtain ⟨rfl, hR12⟩ := hR12
              have hI29 : Inv w ([(b1, arr .i64 (d.drop nn10).lk, 103), (b2, arr .i64 (d.drop nn10).of, 3), (b3, arr .i64 (d.drop nn10).mn, 3), (b4, #[.slice (some ⟨b1, 0, none⟩) (20 + 4) (20 + 4), .slice (some ⟨b2, 0, none⟩) 20 20, .slice (some ⟨b3, 0, none⟩) 4 4], 79), (b5, #[.slice q6 ((c4.lst 0).length) capq6, .slice q7 ((c4.lst 1).length) capq7, .slice q8 ((c4.lst 2).length) capq8, .slice q9 ((c4.lst 3).length) capq9], 53), (b11, #[.int .u8 kd10, .int .i64 ii10, .int .i64 nn10], 56)] ++ (((Sq6 ++ Sq7) ++ Sq8) ++ Sq9)) _ := Inv.callST (A := []) (S := [(b1, arr .i64 d.lk, 103), (b2, arr .i64 d.of, 3), (b3, arr .i64 d.mn, 3), (b4, #[.slice (some ⟨b1, 0, none⟩) (20 + 4) (20 + 4), .slice (some ⟨b2, 0, none⟩) 20 20, .slice (some ⟨b3, 0, none⟩) 4 4], 79)]) (S' := [(b1, arr .i64 (d.drop nn10).lk, 103), (b2, arr .i64 (d.drop nn10).of, 3), (b3, arr .i64 (d.drop nn10).mn, 3), (b4, #[.slice (some ⟨b1, 0, none⟩) (20 + 4) (20 + 4), .slice (some ⟨b2, 0, none⟩) 20 20, .slice (some ⟨b3, 0, none⟩) 4 4], 79)]) (L := [(b5, #[.slice q6 ((c4.lst 0).length) capq6, .slice q7 ((c4.lst 1).length) capq7, .slice q8 ((c4.lst 2).length) capq8, .slice q9 ((c4.lst 3).length) capq9], 53), (b11, #[.int .u8 kd10, .int .i64 ii10, .int .i64 nn10], 56)]) (N := []) (T := (((Sq6 ++ Sq7) ++ Sq8) ++ Sq9)) hI22 hR12 rfl (fun _ h => by cases h)
              refine seq_end ?_
              clear hf139 ac124 hf140 ac125 hf141 ac126 hf142 ac127 wd14 hf143 hI22 hR12
              refine block_normal ?_
              refine then_normal ?_
              exact ⟨((d.drop nn10)), (hf144.cons 0 rfl (hf144.cons 1 rfl (hf144.cons 2 rfl (hf144.cons 6 rfl (hf144.cons 7 rfl (hf144.cons 8 rfl (hf144.cons 9 rfl (hf144.cons 10 rfl (hf144.cons 12 rfl (hf144.cons 13 rfl (hf144.cons 14 rfl (hf144.cons 16 rfl (hf144.cons 17 rfl (hf144.cons 18 rfl (hf144.cons 19 rfl (hf144.cons 20 rfl (hf144.cons 21 rfl (hf144.cons 22 rfl (hf144.cons 23 rfl (hf144.cons 24 rfl (hf144.cons 25 rfl (hf144.cons 26 rfl (hf144.cons 27 rfl (hf144.cons 28 rfl (hf144.cons 29 rfl (hf144.cons 30 rfl (hf144.cons 31 rfl (hf144.cons 32 rfl (hf144.cons 33 rfl (hf144.cons 34 rfl (hf144.cons 35 rfl (hf144.cons 36 rfl (hf144.cons 37 rfl (hf144.cons 38 rfl (hf144.cons 39 rfl (hf144.cons 40 rfl (hf144.cons 41 rfl (hf144.cons 42 rfl (hf144.cons 43 rfl (hf144.cons 44 rfl (hf144.cons 45 rfl (hf144.cons 46 rfl (hf144.cons 47 rfl (hf144.cons 48 rfl (hf144.cons 52 rfl (hf144.cons 53 rfl (hf144.cons 54 rfl hf144.nil))))))))))))))))))))))))))))))))))))))))))))))), ⟨hI29, (Ch.apart_drop hx2.2 (fun h => by rw [g48_2] at h; cases h))⟩⟩
            · have hf145 := hf139.know 67 (u := .bool false) rfl (congrArg Value.bool c67_9)
              refine wp_skip ?_
              refine block_normal ?_
              refine then_normal ?_
              clear hf139
              exact ⟨(d), (hf145.cons 0 rfl (hf145.cons 1 rfl (hf145.cons 2 rfl (hf145.cons 6 rfl (hf145.cons 7 rfl (hf145.cons 8 rfl (hf145.cons 9 rfl (hf145.cons 10 rfl (hf145.cons 12 rfl (hf145.cons 13 rfl (hf145.cons 14 rfl (hf145.cons 16 rfl (hf145.cons 17 rfl (hf145.cons 18 rfl (hf145.cons 19 rfl (hf145.cons 20 rfl (hf145.cons 21 rfl (hf145.cons 22 rfl (hf145.cons 23 rfl (hf145.cons 24 rfl (hf145.cons 25 rfl (hf145.cons 26 rfl (hf145.cons 27 rfl (hf145.cons 28 rfl (hf145.cons 29 rfl (hf145.cons 30 rfl (hf145.cons 31 rfl (hf145.cons 32 rfl (hf145.cons 33 rfl (hf145.cons 34 rfl (hf145.cons 35 rfl (hf145.cons 36 rfl (hf145.cons 37 rfl (hf145.cons 38 rfl (hf145.cons 39 rfl (hf145.cons 40 rfl (hf145.cons 41 rfl (hf145.cons 42 rfl (hf145.cons 43 rfl (hf145.cons 44 rfl (hf145.cons 45 rfl (hf145.cons 46 rfl (hf145.cons 47 rfl (hf145.cons 48 rfl (hf145.cons 52 rfl (hf145.cons 53 rfl (hf145.cons 54 rfl hf145.nil))))))))))))))))))))))))))))))))))))))))))))))), ⟨hI22, hx2.2⟩⟩
      ·
        intro e ac129 wd22 hf146 ⟨hI30, hj30⟩
        clear ac110 wd14 hf121 hI22
        refine block_normal ?_
        refine then_normal ?_
        refine seq_start (l := [0, 1]) rfl ?_
        refine seq_one (op_val (v := .int .i64 ((i + 1 : Nat) : Int)) hf146 rfl rfl rfl rfl rfl rfl (r_add (c := ((i + 1 : Nat) : Int)) rfl rfl (wrap_i64 (by omega) (by have := hx2.1; omega))) fun ac130 hf147 => ?_)
        refine seq_one (op_val (v := .int .i64 ((i + 1 : Nat) : Int)) hf147 rfl rfl rfl rfl rfl rfl (r_move rfl) fun ac131 hf148 => ?_)
        refine seq_end ?_
        clear ac129 hf146 ac130 hf147
        refine then_normal ?_
        exact ⟨(i + 1, e), (hf148.cons 0 rfl (hf148.cons 1 rfl (hf148.cons 2 rfl (hf148.cons 6 rfl (hf148.cons 7 rfl (hf148.cons 8 rfl (hf148.cons 9 rfl (hf148.cons 10 rfl (hf148.cons 16 rfl (hf148.cons 17 rfl (hf148.cons 18 rfl (hf148.cons 19 rfl (hf148.cons 20 rfl (hf148.cons 21 rfl (hf148.cons 22 rfl (hf148.cons 23 rfl (hf148.cons 24 rfl (hf148.cons 25 rfl (hf148.cons 26 rfl (hf148.cons 27 rfl (hf148.cons 28 rfl (hf148.cons 29 rfl (hf148.cons 30 rfl (hf148.cons 31 rfl (hf148.cons 32 rfl (hf148.cons 33 rfl (hf148.cons 34 rfl (hf148.cons 35 rfl (hf148.cons 36 rfl hf148.nil))))))))))))))))))))))))))))), ⟨(Inv.keep (A := [(b1, arr .i64 e.lk, 103), (b2, arr .i64 e.of, 3), (b3, arr .i64 e.mn, 3), (b4, #[.slice (some ⟨b1, 0, none⟩) (20 + 4) (20 + 4), .slice (some ⟨b2, 0, none⟩) 20 20, .slice (some ⟨b3, 0, none⟩) 4 4], 79), (b5, #[.slice q6 ((c4.lst 0).length) capq6, .slice q7 ((c4.lst 1).length) capq7, .slice q8 ((c4.lst 2).length) capq8, .slice q9 ((c4.lst 3).length) capq9], 53)]) (N := [(b11, #[.int .u8 kd10, .int .i64 ii10, .int .i64 nn10], 56)]) (T := (((Sq6 ++ Sq7) ++ Sq8) ++ Sq9)) hI30 (fresh_keys (ks := [b11]) rfl (fk_cons hb11 fk_nil))), ⟨by have := of_decide_eq_true c37_1; omega, hj30⟩⟩, (by have := of_decide_eq_true c37_1; show min L2 30 - (i + 1) < min L2 30 - i; omega)⟩
  · have hf149 := hf61.know 37 (u := .bool false) rfl (congrArg Value.bool c37_1)
    refine wp_exit ?_
    refine then_exit ?_
    refine then_exit ?_
    refine block_here ?_
    refine then_normal ?_
    refine code_seq ?_
    refine code_seq ?_
    refine seq_start (l := [0]) rfl ?_
    refine seq_one (op_val (v := .int .i64 0) hf149 rfl rfl rfl rfl rfl rfl (r_move rfl) fun ac132 hf150 => ?_)
    refine seq_end ?_
    clear hf61 ac61 hf149
    refine then_normal ?_
    refine wp_block ?_
    refine wp_loop_rounds 5 ?_
    refine rounds_go ?_
    refine code_seq ?_
    refine seq_start (l := [0]) rfl ?_
    refine seq_one (op_val (v := .bool true) hf150 rfl rfl rfl rfl rfl rfl (r_lssC rfl rfl (by decide)) fun ac133 hf151 => ?_)
    refine seq_end ?_
    clear ac132 hf150
    refine then_normal ?_
    refine code_seq ?_
    refine code_if_true hf151 rfl ?_
    refine wp_skip ?_
    refine then_normal ?_
    refine code_seq ?_
    refine wp_block ?_
    refine code_seq ?_
    refine seq_start (l := [0, 1]) rfl ?_
    refine seq_one (op_val (v := .int .i64 0) hf151 rfl rfl rfl rfl rfl rfl (r_move rfl) fun ac134 hf152 => ?_)
    refine seq_one (op_val (v := .int .i64 0) hf152 rfl rfl rfl rfl rfl rfl (r_assign rfl) fun ac135 hf153 => ?_)
    refine seq_end ?_
    clear ac133 hf151 ac134 hf152
    refine then_normal ?_
    refine code_seq ?_
    refine any_start (fun w => Has [(b5, #[.slice q6 ((c4.lst 0).length) capq6, .slice q7 ((c4.lst 1).length) capq7, .slice q8 ((c4.lst 2).length) capq8, .slice q9 ((c4.lst 3).length) capq9], 53)] w) follows (Has.drew (Has.cons (hI17.at 4 rfl) Has.nil)) ?_
    have hS1 : Has [(b5, #[.slice q6 ((c4.lst 0).length) capq6, .slice q7 ((c4.lst 1).length) capq7, .slice q8 ((c4.lst 2).length) capq8, .slice q9 ((c4.lst 3).length) capq9], 53)] _ := Has.drew (Has.cons (hI17.at 4 rfl) Has.nil)
    have hI31 := hI17.drew
    refine any_val (i := 0) (v := .int .i64 0) hf153 rfl rfl rfl rfl rfl rfl (fun _ _ _ h => h) (by kernel_rfl) (by kernel_rfl) (by kernel_rfl) (fun wd11 hS1 => (r_move rfl)) hS1 fun ac136 hf154 => ?_
    refine any_val (i := 1) (v := .int .i64 k) hf154 rfl rfl rfl rfl rfl rfl (fun _ _ _ h => h) (by kernel_rfl) (by kernel_rfl) (by kernel_rfl) (fun wd11 hS1 => (r_move rfl)) hS1 fun ac137 hf155 => ?_
    refine any_val (i := 2) (v := .bool (0 != k)) hf155 rfl rfl rfl rfl rfl rfl (fun _ _ _ h => h) (by kernel_rfl) (by kernel_rfl) (by kernel_rfl) (fun wd11 hS1 => (r_neq rfl rfl)) hS1 fun ac138 hf156 => ?_
    refine any_val (i := 3) (v := .bool (0 != k)) hf156 rfl rfl rfl rfl rfl rfl (fun _ _ _ h => h) (by kernel_rfl) (by kernel_rfl) (by kernel_rfl) (fun wd11 hS1 => (r_move rfl)) hS1 fun ac139 hf157 => ?_
    rcases Bool.eq_false_or_eq_true (0 != k : Bool) with g80_10 | g80_10
    · have hf158 := hf157.know 80 (u := .bool true) rfl (congrArg Value.bool g80_10)
      refine any_val (i := 4) (v := .pointer (some ⟨b4, 0, none⟩)) hf158 rfl rfl rfl rfl rfl rfl (fun _ _ _ h => h) (by kernel_rfl) (by kernel_rfl) (by kernel_rfl) (fun wd11 hS1 => (r_move rfl)) hS1 fun ac140 hf159 => ?_
      refine any_val (i := 5) (v := .int .i64 0) hf159 rfl rfl rfl rfl rfl rfl (fun _ _ _ h => h) (by kernel_rfl) (by kernel_rfl) (by kernel_rfl) (fun wd11 hS1 => (r_move rfl)) hS1 fun ac141 hf160 => ?_
      refine any_val (i := 7) (v := .int .i64 0) hf160 rfl rfl rfl rfl rfl rfl (fun _ _ _ h => h) (by kernel_rfl) (by kernel_rfl) (by kernel_rfl) (fun wd11 hS1 => (r_move rfl)) hS1 fun ac142 hf161 => ?_
      refine any_val (i := 8) (v := .pointer (some ⟨b5, 0, none⟩)) hf161 rfl rfl rfl rfl rfl rfl (fun _ _ _ h => h) (by kernel_rfl) (by kernel_rfl) (by kernel_rfl) (fun wd11 hS1 => (r_indexAddr (i := 0) ar_53 rfl rfl rfl (by decide) rfl)) hS1 fun ac143 hf162 => ?_
      refine any_val (i := 9) (v := .slice q6 ((c4.lst 0).length) capq6) hf162 rfl rfl rfl rfl rfl rfl (fun _ _ _ h => h) (by kernel_rfl) (by kernel_rfl) (by kernel_rfl) (fun wd11 hS1 => (r_load ag_27 rfl (hS1.at 0 rfl) rfl)) hS1 fun ac144 hf163 => ?_
      refine any_one (i := 6) (by kernel_rfl) ?_
      refine (op_call (R := fun v w' => ∃ S p cap, v = .slice p (d.lst 0).length cap ∧ Sl 3 .i64 S p cap (d.lst 0) ∧ Inv _ S w' ∧ ∀ x ∈ S, Array.size (World.heap _) ≤ x.1) hf163 rfl rfl rfl rfl ca_28 ((list_any (hI31.nd 0 rfl rfl rfl rfl) d (Has.cons (hI31.at 0 rfl) (Has.cons (hI31.at 1 rfl) (Has.cons (hI31.at 2 rfl) (Has.cons (hI31.at 3 rfl) Has.nil)))) 0).mono fun _ _ ⟨S, p, cap, he, h1, h3, h4⟩ => ⟨_, he, S, p, cap, rfl, h1, h3, h4⟩) fun ac145 v wd23 hR hf164 => ?_)
      obtain ⟨Sq10, q10, capq10, rfl, hsq10, hwq10, hzq10⟩ := hR
      have hyq10 := fk_le hI31.size hzq10
      have hI32 : Inv w ([(b1, arr .i64 d.lk, 103), (b2, arr .i64 d.of, 3), (b3, arr .i64 d.mn, 3), (b4, #[.slice (some ⟨b1, 0, none⟩) (20 + 4) (20 + 4), .slice (some ⟨b2, 0, none⟩) 20 20, .slice (some ⟨b3, 0, none⟩) 4 4], 79), (b5, #[.slice q6 ((c4.lst 0).length) capq6, .slice q7 ((c4.lst 1).length) capq7, .slice q8 ((c4.lst 2).length) capq8, .slice q9 ((c4.lst 3).length) capq9], 53)] ++ ((((Sq6 ++ Sq7) ++ Sq8) ++ Sq9) ++ Sq10)) _ := hI31.callN hwq10 hzq10
      refine ⟨?_, ?_⟩
      · exact (Has.cons (hI32.at 4 rfl) Has.nil)
      have hS2 : Has [(b5, #[.slice q6 ((c4.lst 0).length) capq6, .slice q7 ((c4.lst 1).length) capq7, .slice q8 ((c4.lst 2).length) capq8, .slice q9 ((c4.lst 3).length) capq9], 53)] _ := (Has.cons (hI32.at 4 rfl) Has.nil)
      refine any_one (i := 10) (by kernel_rfl) ?_
      refine (op_pureW hf164 rfl rfl rfl rfl ca_19 (ints_walk (xs := (d.lst 0)) (ys := (c4.lst 0)) rfl rfl (Nat.le_trans (Ch.lst_le _ _) (by omega)) (hsq10.rd hI32 (fun x hx => List.mem_append_right _ (List.mem_append_right _ hx))) (hsq6.rd hI32 (fun x hx => List.mem_append_right _ (List.mem_append_left _ (List.mem_append_left _ (List.mem_append_left _ (List.mem_append_left _ hx))))))) hI32 fun ac146 wd24 hI33 hf165 => ⟨?_, ?_⟩)
      · exact (Has.cons (hI33.at 4 rfl) Has.nil)
      have hS3 : Has [(b5, #[.slice q6 ((c4.lst 0).length) capq6, .slice q7 ((c4.lst 1).length) capq7, .slice q8 ((c4.lst 2).length) capq8, .slice q9 ((c4.lst 3).length) capq9], 53)] _ := (Has.cons (hI33.at 4 rfl) Has.nil)
      refine any_val (i := 11) (v := .bool (!((d.lst 0) == (c4.lst 0)))) hf165 rfl rfl rfl rfl rfl rfl (fun _ _ _ h => h) (by kernel_rfl) (by kernel_rfl) (by kernel_rfl) (fun wd24 hS3 => (r_not rfl)) hS3 fun ac147 hf166 => ?_
      refine any_val (i := 12) (v := .bool (!((d.lst 0) == (c4.lst 0)))) hf166 rfl rfl rfl rfl rfl rfl (fun _ _ _ h => h) (by kernel_rfl) (by kernel_rfl) (by kernel_rfl) (fun wd24 hS3 => (r_pickT rfl rfl)) hS3 fun ac148 hf167 => ?_
      refine any_end (by kernel_rfl) ?_
      clear hI17 ac135 hf153 ac136 hf154 ac137 hf155 ac138 hf156 hf157 ac139 hf158 ac140 hf159 ac141 hf160 ac142 hf161 ac143 hf162 ac144 wd11 hf163 hI31 hwq10 hzq10 hS1 ac145 wd23 hI32 hf164 hS2 ac146 hf165 ac147 hf166 hS3
      refine then_normal ?_
      have hf168 := hf167.know 89 (u := .bool false) rfl (congrArg Value.bool (by rw [hx2.2 _ (bne_iff_ne.1 g80_10), beq_self_eq_true]; rfl))
      refine code_if_false hf168 rfl ?_
      refine wp_skip ?_
      refine block_normal ?_
      refine then_normal ?_
      refine seq_start (l := [0, 1]) rfl ?_
      refine seq_one (op_val (v := .int .i64 1) hf168 rfl rfl rfl rfl rfl rfl (r_add (c := 1) rfl rfl (by rfl)) fun ac149 hf169 => ?_)
      refine seq_one (op_val (v := .int .i64 1) hf169 rfl rfl rfl rfl rfl rfl (r_move rfl) fun ac150 hf170 => ?_)
      refine seq_end ?_
      clear hf167 ac148 hf168 ac149 hf169
      refine then_normal ?_
      refine rounds_go ?_
      refine code_seq ?_
      refine seq_start (l := [0]) rfl ?_
      refine seq_one (op_val (v := .bool true) hf170 rfl rfl rfl rfl rfl rfl (r_lssC rfl rfl (by decide)) fun ac151 hf171 => ?_)
      refine seq_end ?_
      clear ac150 hf170
      refine then_normal ?_
      refine code_seq ?_
      refine code_if_true hf171 rfl ?_
      refine wp_skip ?_
      refine then_normal ?_
      refine code_seq ?_
      refine wp_block ?_
      refine code_seq ?_
      refine seq_start (l := [0, 1]) rfl ?_
      refine seq_one (op_val (v := .int .i64 1) hf171 rfl rfl rfl rfl rfl rfl (r_move rfl) fun ac152 hf172 => ?_)
      refine seq_one (op_val (v := .int .i64 1) hf172 rfl rfl rfl rfl rfl rfl (r_assign rfl) fun ac153 hf173 => ?_)
      refine seq_end ?_
      clear ac151 hf171 ac152 hf172
      refine then_normal ?_
      refine code_seq ?_
      refine any_start (fun w => Has [(b5, #[.slice q6 ((c4.lst 0).length) capq6, .slice q7 ((c4.lst 1).length) capq7, .slice q8 ((c4.lst 2).length) capq8, .slice q9 ((c4.lst 3).length) capq9], 53)] w) follows (Has.drew (Has.cons (hI33.at 4 rfl) Has.nil)) ?_
      have hS4 : Has [(b5, #[.slice q6 ((c4.lst 0).length) capq6, .slice q7 ((c4.lst 1).length) capq7, .slice q8 ((c4.lst 2).length) capq8, .slice q9 ((c4.lst 3).length) capq9], 53)] _ := Has.drew (Has.cons (hI33.at 4 rfl) Has.nil)
      have hI34 := hI33.drew
      refine any_val (i := 0) (v := .int .i64 1) hf173 rfl rfl rfl rfl rfl rfl (fun _ _ _ h => h) (by kernel_rfl) (by kernel_rfl) (by kernel_rfl) (fun wd24 hS4 => (r_move rfl)) hS4 fun ac154 hf174 => ?_
      refine any_val (i := 1) (v := .int .i64 k) hf174 rfl rfl rfl rfl rfl rfl (fun _ _ _ h => h) (by kernel_rfl) (by kernel_rfl) (by kernel_rfl) (fun wd24 hS4 => (r_move rfl)) hS4 fun ac155 hf175 => ?_
      refine any_val (i := 2) (v := .bool (1 != k)) hf175 rfl rfl rfl rfl rfl rfl (fun _ _ _ h => h) (by kernel_rfl) (by kernel_rfl) (by kernel_rfl) (fun wd24 hS4 => (r_neq rfl rfl)) hS4 fun ac156 hf176 => ?_
      refine any_val (i := 3) (v := .bool (1 != k)) hf176 rfl rfl rfl rfl rfl rfl (fun _ _ _ h => h) (by kernel_rfl) (by kernel_rfl) (by kernel_rfl) (fun wd24 hS4 => (r_move rfl)) hS4 fun ac157 hf177 => ?_
      rcases Bool.eq_false_or_eq_true (1 != k : Bool) with g80_11 | g80_11
      · have hf178 := hf177.know 80 (u := .bool true) rfl (congrArg Value.bool g80_11)
        refine any_val (i := 4) (v := .pointer (some ⟨b4, 0, none⟩)) hf178 rfl rfl rfl rfl rfl rfl (fun _ _ _ h => h) (by kernel_rfl) (by kernel_rfl) (by kernel_rfl) (fun wd24 hS4 => (r_move rfl)) hS4 fun ac158 hf179 => ?_
        refine any_val (i := 5) (v := .int .i64 1) hf179 rfl rfl rfl rfl rfl rfl (fun _ _ _ h => h) (by kernel_rfl) (by kernel_rfl) (by kernel_rfl) (fun wd24 hS4 => (r_move rfl)) hS4 fun ac159 hf180 => ?_
        refine any_val (i := 7) (v := .int .i64 1) hf180 rfl rfl rfl rfl rfl rfl (fun _ _ _ h => h) (by kernel_rfl) (by kernel_rfl) (by kernel_rfl) (fun wd24 hS4 => (r_move rfl)) hS4 fun ac160 hf181 => ?_
        refine any_val (i := 8) (v := .pointer (some ⟨b5, 1, none⟩)) hf181 rfl rfl rfl rfl rfl rfl (fun _ _ _ h => h) (by kernel_rfl) (by kernel_rfl) (by kernel_rfl) (fun wd24 hS4 => (r_indexAddr (i := 1) ar_53 rfl rfl rfl (by decide) rfl)) hS4 fun ac161 hf182 => ?_
        refine any_val (i := 9) (v := .slice q7 ((c4.lst 1).length) capq7) hf182 rfl rfl rfl rfl rfl rfl (fun _ _ _ h => h) (by kernel_rfl) (by kernel_rfl) (by kernel_rfl) (fun wd24 hS4 => (r_load ag_27 rfl (hS4.at 0 rfl) rfl)) hS4 fun ac162 hf183 => ?_
        refine any_one (i := 6) (by kernel_rfl) ?_
        refine (op_call (R := fun v w' => ∃ S p cap, v = .slice p (d.lst 1).length cap ∧ Sl 3 .i64 S p cap (d.lst 1) ∧ Inv _ S w' ∧ ∀ x ∈ S, Array.size (World.heap _) ≤ x.1) hf183 rfl rfl rfl rfl ca_28 ((list_any (hI34.nd 0 rfl rfl rfl rfl) d (Has.cons (hI34.at 0 rfl) (Has.cons (hI34.at 1 rfl) (Has.cons (hI34.at 2 rfl) (Has.cons (hI34.at 3 rfl) Has.nil)))) 1).mono fun _ _ ⟨S, p, cap, he, h1, h3, h4⟩ => ⟨_, he, S, p, cap, rfl, h1, h3, h4⟩) fun ac163 v wd25 hR hf184 => ?_)
        obtain ⟨Sq11, q11, capq11, rfl, hsq11, hwq11, hzq11⟩ := hR
        have hyq11 := fk_le hI34.size hzq11
        have hI35 : Inv w ([(b1, arr .i64 d.lk, 103), (b2, arr .i64 d.of, 3), (b3, arr .i64 d.mn, 3), (b4, #[.slice (some ⟨b1, 0, none⟩) (20 + 4) (20 + 4), .slice (some ⟨b2, 0, none⟩) 20 20, .slice (some ⟨b3, 0, none⟩) 4 4], 79), (b5, #[.slice q6 ((c4.lst 0).length) capq6, .slice q7 ((c4.lst 1).length) capq7, .slice q8 ((c4.lst 2).length) capq8, .slice q9 ((c4.lst 3).length) capq9], 53)] ++ (((((Sq6 ++ Sq7) ++ Sq8) ++ Sq9) ++ Sq10) ++ Sq11)) _ := hI34.callN hwq11 hzq11
        refine ⟨?_, ?_⟩
        · exact (Has.cons (hI35.at 4 rfl) Has.nil)
        have hS5 : Has [(b5, #[.slice q6 ((c4.lst 0).length) capq6, .slice q7 ((c4.lst 1).length) capq7, .slice q8 ((c4.lst 2).length) capq8, .slice q9 ((c4.lst 3).length) capq9], 53)] _ := (Has.cons (hI35.at 4 rfl) Has.nil)
        refine any_one (i := 10) (by kernel_rfl) ?_
        refine (op_pureW hf184 rfl rfl rfl rfl ca_19 (ints_walk (xs := (d.lst 1)) (ys := (c4.lst 1)) rfl rfl (Nat.le_trans (Ch.lst_le _ _) (by omega)) (hsq11.rd hI35 (fun x hx => List.mem_append_right _ (List.mem_append_right _ hx))) (hsq7.rd hI35 (fun x hx => List.mem_append_right _ (List.mem_append_left _ (List.mem_append_left _ (List.mem_append_left _ (List.mem_append_left _ (List.mem_append_right _ hx)))))))) hI35 fun ac164 wd26 hI36 hf185 => ⟨?_, ?_⟩)
        · exact (Has.cons (hI36.at 4 rfl) Has.nil)
        have hS6 : Has [(b5, #[.slice q6 ((c4.lst 0).length) capq6, .slice q7 ((c4.lst 1).length) capq7, .slice q8 ((c4.lst 2).length) capq8, .slice q9 ((c4.lst 3).length) capq9], 53)] _ := (Has.cons (hI36.at 4 rfl) Has.nil)
        refine any_val (i := 11) (v := .bool (!((d.lst 1) == (c4.lst 1)))) hf185 rfl rfl rfl rfl rfl rfl (fun _ _ _ h => h) (by kernel_rfl) (by kernel_rfl) (by kernel_rfl) (fun wd26 hS6 => (r_not rfl)) hS6 fun ac165 hf186 => ?_
        refine any_val (i := 12) (v := .bool (!((d.lst 1) == (c4.lst 1)))) hf186 rfl rfl rfl rfl rfl rfl (fun _ _ _ h => h) (by kernel_rfl) (by kernel_rfl) (by kernel_rfl) (fun wd26 hS6 => (r_pickT rfl rfl)) hS6 fun ac166 hf187 => ?_
        refine any_end (by kernel_rfl) ?_
        clear hI33 ac153 hf173 ac154 hf174 ac155 hf175 ac156 hf176 hf177 ac157 hf178 ac158 hf179 ac159 hf180 ac160 hf181 ac161 hf182 ac162 wd24 hf183 hI34 hwq11 hzq11 hS4 ac163 wd25 hI35 hf184 hS5 ac164 hf185 ac165 hf186 hS6
        refine then_normal ?_
        have hf188 := hf187.know 89 (u := .bool false) rfl (congrArg Value.bool (by rw [hx2.2 _ (bne_iff_ne.1 g80_11), beq_self_eq_true]; rfl))
        refine code_if_false hf188 rfl ?_
        refine wp_skip ?_
        refine block_normal ?_
        refine then_normal ?_
        refine seq_start (l := [0, 1]) rfl ?_
        refine seq_one (op_val (v := .int .i64 2) hf188 rfl rfl rfl rfl rfl rfl (r_add (c := 2) rfl rfl (by rfl)) fun ac167 hf189 => ?_)
        refine seq_one (op_val (v := .int .i64 2) hf189 rfl rfl rfl rfl rfl rfl (r_move rfl) fun ac168 hf190 => ?_)
        refine seq_end ?_
        clear hf187 ac166 hf188 ac167 hf189
        refine then_normal ?_
        refine rounds_go ?_
        refine code_seq ?_
        refine seq_start (l := [0]) rfl ?_
        refine seq_one (op_val (v := .bool true) hf190 rfl rfl rfl rfl rfl rfl (r_lssC rfl rfl (by decide)) fun ac169 hf191 => ?_)
        refine seq_end ?_
        clear ac168 hf190
        refine then_normal ?_
        refine code_seq ?_
        refine code_if_true hf191 rfl ?_
        refine wp_skip ?_
        refine then_normal ?_
        refine code_seq ?_
        refine wp_block ?_
        refine code_seq ?_
        refine seq_start (l := [0, 1]) rfl ?_
        refine seq_one (op_val (v := .int .i64 2) hf191 rfl rfl rfl rfl rfl rfl (r_move rfl) fun ac170 hf192 => ?_)
        refine seq_one (op_val (v := .int .i64 2) hf192 rfl rfl rfl rfl rfl rfl (r_assign rfl) fun ac171 hf193 => ?_)
        refine seq_end ?_
        clear ac169 hf191 ac170 hf192
        refine then_normal ?_
        refine code_seq ?_
        refine any_start (fun w => Has [(b5, #[.slice q6 ((c4.lst 0).length) capq6, .slice q7 ((c4.lst 1).length) capq7, .slice q8 ((c4.lst 2).length) capq8, .slice q9 ((c4.lst 3).length) capq9], 53)] w) follows (Has.drew (Has.cons (hI36.at 4 rfl) Has.nil)) ?_
        have hS7 : Has [(b5, #[.slice q6 ((c4.lst 0).length) capq6, .slice q7 ((c4.lst 1).length) capq7, .slice q8 ((c4.lst 2).length) capq8, .slice q9 ((c4.lst 3).length) capq9], 53)] _ := Has.drew (Has.cons (hI36.at 4 rfl) Has.nil)
        have hI37 := hI36.drew
        refine any_val (i := 0) (v := .int .i64 2) hf193 rfl rfl rfl rfl rfl rfl (fun _ _ _ h => h) (by kernel_rfl) (by kernel_rfl) (by kernel_rfl) (fun wd26 hS7 => (r_move rfl)) hS7 fun ac172 hf194 => ?_
        refine any_val (i := 1) (v := .int .i64 k) hf194 rfl rfl rfl rfl rfl rfl (fun _ _ _ h => h) (by kernel_rfl) (by kernel_rfl) (by kernel_rfl) (fun wd26 hS7 => (r_move rfl)) hS7 fun ac173 hf195 => ?_
        refine any_val (i := 2) (v := .bool (2 != k)) hf195 rfl rfl rfl rfl rfl rfl (fun _ _ _ h => h) (by kernel_rfl) (by kernel_rfl) (by kernel_rfl) (fun wd26 hS7 => (r_neq rfl rfl)) hS7 fun ac174 hf196 => ?_
        refine any_val (i := 3) (v := .bool (2 != k)) hf196 rfl rfl rfl rfl rfl rfl (fun _ _ _ h => h) (by kernel_rfl) (by kernel_rfl) (by kernel_rfl) (fun wd26 hS7 => (r_move rfl)) hS7 fun ac175 hf197 => ?_
        rcases Bool.eq_false_or_eq_true (2 != k : Bool) with g80_12 | g80_12
        · have hf198 := hf197.know 80 (u := .bool true) rfl (congrArg Value.bool g80_12)
          refine any_val (i := 4) (v := .pointer (some ⟨b4, 0, none⟩)) hf198 rfl rfl rfl rfl rfl rfl (fun _ _ _ h => h) (by kernel_rfl) (by kernel_rfl) (by kernel_rfl) (fun wd26 hS7 => (r_move rfl)) hS7 fun ac176 hf199 => ?_
          refine any_val (i := 5) (v := .int .i64 2) hf199 rfl rfl rfl rfl rfl rfl (fun _ _ _ h => h) (by kernel_rfl) (by kernel_rfl) (by kernel_rfl) (fun wd26 hS7 => (r_move rfl)) hS7 fun ac177 hf200 => ?_
          refine any_val (i := 7) (v := .int .i64 2) hf200 rfl rfl rfl rfl rfl rfl (fun _ _ _ h => h) (by kernel_rfl) (by kernel_rfl) (by kernel_rfl) (fun wd26 hS7 => (r_move rfl)) hS7 fun ac178 hf201 => ?_
          refine any_val (i := 8) (v := .pointer (some ⟨b5, 2, none⟩)) hf201 rfl rfl rfl rfl rfl rfl (fun _ _ _ h => h) (by kernel_rfl) (by kernel_rfl) (by kernel_rfl) (fun wd26 hS7 => (r_indexAddr (i := 2) ar_53 rfl rfl rfl (by decide) rfl)) hS7 fun ac179 hf202 => ?_
          refine any_val (i := 9) (v := .slice q8 ((c4.lst 2).length) capq8) hf202 rfl rfl rfl rfl rfl rfl (fun _ _ _ h => h) (by kernel_rfl) (by kernel_rfl) (by kernel_rfl) (fun wd26 hS7 => (r_load ag_27 rfl (hS7.at 0 rfl) rfl)) hS7 fun ac180 hf203 => ?_
          refine any_one (i := 6) (by kernel_rfl) ?_
          refine (op_call (R := fun v w' => ∃ S p cap, v = .slice p (d.lst 2).length cap ∧ Sl 3 .i64 S p cap (d.lst 2) ∧ Inv _ S w' ∧ ∀ x ∈ S, Array.size (World.heap _) ≤ x.1) hf203 rfl rfl rfl rfl ca_28 ((list_any (hI37.nd 0 rfl rfl rfl rfl) d (Has.cons (hI37.at 0 rfl) (Has.cons (hI37.at 1 rfl) (Has.cons (hI37.at 2 rfl) (Has.cons (hI37.at 3 rfl) Has.nil)))) 2).mono fun _ _ ⟨S, p, cap, he, h1, h3, h4⟩ => ⟨_, he, S, p, cap, rfl, h1, h3, h4⟩) fun ac181 v wd27 hR hf204 => ?_)
          obtain ⟨Sq12, q12, capq12, rfl, hsq12, hwq12, hzq12⟩ := hR
          have hyq12 := fk_le hI37.size hzq12
          have hI38 : Inv w ([(b1, arr .i64 d.lk, 103), (b2, arr .i64 d.of, 3), (b3, arr .i64 d.mn, 3), (b4, #[.slice (some ⟨b1, 0, none⟩) (20 + 4) (20 + 4), .slice (some ⟨b2, 0, none⟩) 20 20, .slice (some ⟨b3, 0, none⟩) 4 4], 79), (b5, #[.slice q6 ((c4.lst 0).length) capq6, .slice q7 ((c4.lst 1).length) capq7, .slice q8 ((c4.lst 2).length) capq8, .slice q9 ((c4.lst 3).length) capq9], 53)] ++ ((((((Sq6 ++ Sq7) ++ Sq8) ++ Sq9) ++ Sq10) ++ Sq11) ++ Sq12)) _ := hI37.callN hwq12 hzq12
          refine ⟨?_, ?_⟩
          · exact (Has.cons (hI38.at 4 rfl) Has.nil)
          have hS8 : Has [(b5, #[.slice q6 ((c4.lst 0).length) capq6, .slice q7 ((c4.lst 1).length) capq7, .slice q8 ((c4.lst 2).length) capq8, .slice q9 ((c4.lst 3).length) capq9], 53)] _ := (Has.cons (hI38.at 4 rfl) Has.nil)
          refine any_one (i := 10) (by kernel_rfl) ?_
          refine (op_pureW hf204 rfl rfl rfl rfl ca_19 (ints_walk (xs := (d.lst 2)) (ys := (c4.lst 2)) rfl rfl (Nat.le_trans (Ch.lst_le _ _) (by omega)) (hsq12.rd hI38 (fun x hx => List.mem_append_right _ (List.mem_append_right _ hx))) (hsq8.rd hI38 (fun x hx => List.mem_append_right _ (List.mem_append_left _ (List.mem_append_left _ (List.mem_append_left _ (List.mem_append_left _ (List.mem_append_right _ hx)))))))) hI38 fun ac182 wd28 hI39 hf205 => ⟨?_, ?_⟩)
          · exact (Has.cons (hI39.at 4 rfl) Has.nil)
          have hS9 : Has [(b5, #[.slice q6 ((c4.lst 0).length) capq6, .slice q7 ((c4.lst 1).length) capq7, .slice q8 ((c4.lst 2).length) capq8, .slice q9 ((c4.lst 3).length) capq9], 53)] _ := (Has.cons (hI39.at 4 rfl) Has.nil)
          refine any_val (i := 11) (v := .bool (!((d.lst 2) == (c4.lst 2)))) hf205 rfl rfl rfl rfl rfl rfl (fun _ _ _ h => h) (by kernel_rfl) (by kernel_rfl) (by kernel_rfl) (fun wd28 hS9 => (r_not rfl)) hS9 fun ac183 hf206 => ?_
          refine any_val (i := 12) (v := .bool (!((d.lst 2) == (c4.lst 2)))) hf206 rfl rfl rfl rfl rfl rfl (fun _ _ _ h => h) (by kernel_rfl) (by kernel_rfl) (by kernel_rfl) (fun wd28 hS9 => (r_pickT rfl rfl)) hS9 fun ac184 hf207 => ?_
          refine any_end (by kernel_rfl) ?_
          clear hI36 ac171 hf193 ac172 hf194 ac173 hf195 ac174 hf196 hf197 ac175 hf198 ac176 hf199 ac177 hf200 ac178 hf201 ac179 hf202 ac180 wd26 hf203 hI37 hwq12 hzq12 hS7 ac181 wd27 hI38 hf204 hS8 ac182 hf205 ac183 hf206 hS9
          refine then_normal ?_
          have hf208 := hf207.know 89 (u := .bool false) rfl (congrArg Value.bool (by rw [hx2.2 _ (bne_iff_ne.1 g80_12), beq_self_eq_true]; rfl))
          refine code_if_false hf208 rfl ?_
          refine wp_skip ?_
          refine block_normal ?_
          refine then_normal ?_
          refine seq_start (l := [0, 1]) rfl ?_
          refine seq_one (op_val (v := .int .i64 3) hf208 rfl rfl rfl rfl rfl rfl (r_add (c := 3) rfl rfl (by rfl)) fun ac185 hf209 => ?_)
          refine seq_one (op_val (v := .int .i64 3) hf209 rfl rfl rfl rfl rfl rfl (r_move rfl) fun ac186 hf210 => ?_)
          refine seq_end ?_
          clear hf207 ac184 hf208 ac185 hf209
          refine then_normal ?_
          refine rounds_go ?_
          refine code_seq ?_
          refine seq_start (l := [0]) rfl ?_
          refine seq_one (op_val (v := .bool true) hf210 rfl rfl rfl rfl rfl rfl (r_lssC rfl rfl (by decide)) fun ac187 hf211 => ?_)
          refine seq_end ?_
          clear ac186 hf210
          refine then_normal ?_
          refine code_seq ?_
          refine code_if_true hf211 rfl ?_
          refine wp_skip ?_
          refine then_normal ?_
          refine code_seq ?_
          refine wp_block ?_
          refine code_seq ?_
          refine seq_start (l := [0, 1]) rfl ?_
          refine seq_one (op_val (v := .int .i64 3) hf211 rfl rfl rfl rfl rfl rfl (r_move rfl) fun ac188 hf212 => ?_)
          refine seq_one (op_val (v := .int .i64 3) hf212 rfl rfl rfl rfl rfl rfl (r_assign rfl) fun ac189 hf213 => ?_)
          refine seq_end ?_
          clear ac187 hf211 ac188 hf212
          refine then_normal ?_
          refine code_seq ?_
          refine any_start (fun w => Has [(b5, #[.slice q6 ((c4.lst 0).length) capq6, .slice q7 ((c4.lst 1).length) capq7, .slice q8 ((c4.lst 2).length) capq8, .slice q9 ((c4.lst 3).length) capq9], 53)] w) follows (Has.drew (Has.cons (hI39.at 4 rfl) Has.nil)) ?_
          have hS10 : Has [(b5, #[.slice q6 ((c4.lst 0).length) capq6, .slice q7 ((c4.lst 1).length) capq7, .slice q8 ((c4.lst 2).length) capq8, .slice q9 ((c4.lst 3).length) capq9], 53)] _ := Has.drew (Has.cons (hI39.at 4 rfl) Has.nil)
          have hI40 := hI39.drew
          refine any_val (i := 0) (v := .int .i64 3) hf213 rfl rfl rfl rfl rfl rfl (fun _ _ _ h => h) (by kernel_rfl) (by kernel_rfl) (by kernel_rfl) (fun wd28 hS10 => (r_move rfl)) hS10 fun ac190 hf214 => ?_
          refine any_val (i := 1) (v := .int .i64 k) hf214 rfl rfl rfl rfl rfl rfl (fun _ _ _ h => h) (by kernel_rfl) (by kernel_rfl) (by kernel_rfl) (fun wd28 hS10 => (r_move rfl)) hS10 fun ac191 hf215 => ?_
          refine any_val (i := 2) (v := .bool (3 != k)) hf215 rfl rfl rfl rfl rfl rfl (fun _ _ _ h => h) (by kernel_rfl) (by kernel_rfl) (by kernel_rfl) (fun wd28 hS10 => (r_neq rfl rfl)) hS10 fun ac192 hf216 => ?_
          refine any_val (i := 3) (v := .bool (3 != k)) hf216 rfl rfl rfl rfl rfl rfl (fun _ _ _ h => h) (by kernel_rfl) (by kernel_rfl) (by kernel_rfl) (fun wd28 hS10 => (r_move rfl)) hS10 fun ac193 hf217 => ?_
          rcases Bool.eq_false_or_eq_true (3 != k : Bool) with g80_13 | g80_13
          · have hf218 := hf217.know 80 (u := .bool true) rfl (congrArg Value.bool g80_13)
            refine any_val (i := 4) (v := .pointer (some ⟨b4, 0, none⟩)) hf218 rfl rfl rfl rfl rfl rfl (fun _ _ _ h => h) (by kernel_rfl) (by kernel_rfl) (by kernel_rfl) (fun wd28 hS10 => (r_move rfl)) hS10 fun ac194 hf219 => ?_
            refine any_val (i := 5) (v := .int .i64 3) hf219 rfl rfl rfl rfl rfl rfl (fun _ _ _ h => h) (by kernel_rfl) (by kernel_rfl) (by kernel_rfl) (fun wd28 hS10 => (r_move rfl)) hS10 fun ac195 hf220 => ?_
            refine any_val (i := 7) (v := .int .i64 3) hf220 rfl rfl rfl rfl rfl rfl (fun _ _ _ h => h) (by kernel_rfl) (by kernel_rfl) (by kernel_rfl) (fun wd28 hS10 => (r_move rfl)) hS10 fun ac196 hf221 => ?_
            refine any_val (i := 8) (v := .pointer (some ⟨b5, 3, none⟩)) hf221 rfl rfl rfl rfl rfl rfl (fun _ _ _ h => h) (by kernel_rfl) (by kernel_rfl) (by kernel_rfl) (fun wd28 hS10 => (r_indexAddr (i := 3) ar_53 rfl rfl rfl (by decide) rfl)) hS10 fun ac197 hf222 => ?_
            refine any_val (i := 9) (v := .slice q9 ((c4.lst 3).length) capq9) hf222 rfl rfl rfl rfl rfl rfl (fun _ _ _ h => h) (by kernel_rfl) (by kernel_rfl) (by kernel_rfl) (fun wd28 hS10 => (r_load ag_27 rfl (hS10.at 0 rfl) rfl)) hS10 fun ac198 hf223 => ?_
            refine any_one (i := 6) (by kernel_rfl) ?_
            refine (op_call (R := fun v w' => ∃ S p cap, v = .slice p (d.lst 3).length cap ∧ Sl 3 .i64 S p cap (d.lst 3) ∧ Inv _ S w' ∧ ∀ x ∈ S, Array.size (World.heap _) ≤ x.1) hf223 rfl rfl rfl rfl ca_28 ((list_any (hI40.nd 0 rfl rfl rfl rfl) d (Has.cons (hI40.at 0 rfl) (Has.cons (hI40.at 1 rfl) (Has.cons (hI40.at 2 rfl) (Has.cons (hI40.at 3 rfl) Has.nil)))) 3).mono fun _ _ ⟨S, p, cap, he, h1, h3, h4⟩ => ⟨_, he, S, p, cap, rfl, h1, h3, h4⟩) fun ac199 v wd29 hR hf224 => ?_)
            obtain ⟨Sq13, q13, capq13, rfl, hsq13, hwq13, hzq13⟩ := hR
            have hyq13 := fk_le hI40.size hzq13
            have hI41 : Inv w ([(b1, arr .i64 d.lk, 103), (b2, arr .i64 d.of, 3), (b3, arr .i64 d.mn, 3), (b4, #[.slice (some ⟨b1, 0, none⟩) (20 + 4) (20 + 4), .slice (some ⟨b2, 0, none⟩) 20 20, .slice (some ⟨b3, 0, none⟩) 4 4], 79), (b5, #[.slice q6 ((c4.lst 0).length) capq6, .slice q7 ((c4.lst 1).length) capq7, .slice q8 ((c4.lst 2).length) capq8, .slice q9 ((c4.lst 3).length) capq9], 53)] ++ (((((((Sq6 ++ Sq7) ++ Sq8) ++ Sq9) ++ Sq10) ++ Sq11) ++ Sq12) ++ Sq13)) _ := hI40.callN hwq13 hzq13
            refine ⟨?_, ?_⟩
            · exact (Has.cons (hI41.at 4 rfl) Has.nil)
            have hS11 : Has [(b5, #[.slice q6 ((c4.lst 0).length) capq6, .slice q7 ((c4.lst 1).length) capq7, .slice q8 ((c4.lst 2).length) capq8, .slice q9 ((c4.lst 3).length) capq9], 53)] _ := (Has.cons (hI41.at 4 rfl) Has.nil)
            refine any_one (i := 10) (by kernel_rfl) ?_
            refine (op_pureW hf224 rfl rfl rfl rfl ca_19 (ints_walk (xs := (d.lst 3)) (ys := (c4.lst 3)) rfl rfl (Nat.le_trans (Ch.lst_le _ _) (by omega)) (hsq13.rd hI41 (fun x hx => List.mem_append_right _ (List.mem_append_right _ hx))) (hsq9.rd hI41 (fun x hx => List.mem_append_right _ (List.mem_append_left _ (List.mem_append_left _ (List.mem_append_left _ (List.mem_append_left _ (List.mem_append_right _ hx)))))))) hI41 fun ac200 wd30 hI42 hf225 => ⟨?_, ?_⟩)
            · exact (Has.cons (hI42.at 4 rfl) Has.nil)
            have hS12 : Has [(b5, #[.slice q6 ((c4.lst 0).length) capq6, .slice q7 ((c4.lst 1).length) capq7, .slice q8 ((c4.lst 2).length) capq8, .slice q9 ((c4.lst 3).length) capq9], 53)] _ := (Has.cons (hI42.at 4 rfl) Has.nil)
            refine any_val (i := 11) (v := .bool (!((d.lst 3) == (c4.lst 3)))) hf225 rfl rfl rfl rfl rfl rfl (fun _ _ _ h => h) (by kernel_rfl) (by kernel_rfl) (by kernel_rfl) (fun wd30 hS12 => (r_not rfl)) hS12 fun ac201 hf226 => ?_
            refine any_val (i := 12) (v := .bool (!((d.lst 3) == (c4.lst 3)))) hf226 rfl rfl rfl rfl rfl rfl (fun _ _ _ h => h) (by kernel_rfl) (by kernel_rfl) (by kernel_rfl) (fun wd30 hS12 => (r_pickT rfl rfl)) hS12 fun ac202 hf227 => ?_
            refine any_end (by kernel_rfl) ?_
            clear hI39 ac189 hf213 ac190 hf214 ac191 hf215 ac192 hf216 hf217 ac193 hf218 ac194 hf219 ac195 hf220 ac196 hf221 ac197 hf222 ac198 wd28 hf223 hI40 hwq13 hzq13 hS10 ac199 wd29 hI41 hf224 hS11 ac200 hf225 ac201 hf226 hS12
            refine then_normal ?_
            have hf228 := hf227.know 89 (u := .bool false) rfl (congrArg Value.bool (by rw [hx2.2 _ (bne_iff_ne.1 g80_13), beq_self_eq_true]; rfl))
            refine code_if_false hf228 rfl ?_
            refine wp_skip ?_
            refine block_normal ?_
            refine then_normal ?_
            refine seq_start (l := [0, 1]) rfl ?_
            refine seq_one (op_val (v := .int .i64 4) hf228 rfl rfl rfl rfl rfl rfl (r_add (c := 4) rfl rfl (by rfl)) fun ac203 hf229 => ?_)
            refine seq_one (op_val (v := .int .i64 4) hf229 rfl rfl rfl rfl rfl rfl (r_move rfl) fun ac204 hf230 => ?_)
            refine seq_end ?_
            clear hf227 ac202 hf228 ac203 hf229
            refine then_normal ?_
            refine rounds_go ?_
            refine code_seq ?_
            refine seq_start (l := [0]) rfl ?_
            refine seq_one (op_val (v := .bool false) hf230 rfl rfl rfl rfl rfl rfl (r_lssC rfl rfl (by decide)) fun ac205 hf231 => ?_)
            refine seq_end ?_
            clear ac204 hf230
            refine then_normal ?_
            refine code_seq ?_
            refine code_if_false hf231 rfl ?_
            refine wp_exit ?_
            refine then_exit ?_
            refine then_exit ?_
            refine block_here ?_
            refine then_normal ?_
            refine code_seq ?_
            refine seq_start (l := [0, 1]) rfl ?_
            refine seq_one (op_pure hf231 rfl rfl rfl rfl ca_33 awake5_pur hI42 fun ac206 wd31 hI43 hf232 => ?_)
            refine seq_one (op_val (v := .bool true) hf232 rfl rfl rfl rfl rfl rfl (r_assign rfl) fun ac207 hf233 => ?_)
            refine seq_end ?_
            clear ac205 wd30 hI42 hf231 ac206 hf232
            refine then_normal ?_
            refine wp_ret ?_
            refine post1 rfl hf233 rfl ⟨?_, hI43.done (fk_app (fresh_keys (ks := [b1, b2, b3, b4, b5]) rfl (fk_cons hb1 (fk_cons hb2 (fk_cons hb3 (fk_cons hb4 (fk_cons hb5 fk_nil)))))) (fk_app (fk_app (fk_app (fk_app (fk_app (fk_app (fk_app hyq6 hyq7) hyq8) hyq9) hyq10) hyq11) hyq12) hyq13))⟩
            rfl
          · have hf234 := hf217.know 80 (u := .bool false) rfl (congrArg Value.bool g80_13)
            refine any_skip (i := 4) hf234 rfl rfl rfl rfl (fun _ _ _ h => h) (by kernel_rfl) (by kernel_rfl) (by kernel_rfl) hS10 fun ac208 hf235 => ?_
            refine any_skip (i := 5) hf235 rfl rfl rfl rfl (fun _ _ _ h => h) (by kernel_rfl) (by kernel_rfl) (by kernel_rfl) hS10 fun ac209 hf236 => ?_
            refine any_skip (i := 6) hf236 rfl rfl rfl rfl (fun _ _ _ h => h) (by kernel_rfl) (by kernel_rfl) (by kernel_rfl) hS10 fun ac210 hf237 => ?_
            refine any_skip (i := 7) hf237 rfl rfl rfl rfl (fun _ _ _ h => h) (by kernel_rfl) (by kernel_rfl) (by kernel_rfl) hS10 fun ac211 hf238 => ?_
            refine any_skip (i := 8) hf238 rfl rfl rfl rfl (fun _ _ _ h => h) (by kernel_rfl) (by kernel_rfl) (by kernel_rfl) hS10 fun ac212 hf239 => ?_
            refine any_skip (i := 9) hf239 rfl rfl rfl rfl (fun _ _ _ h => h) (by kernel_rfl) (by kernel_rfl) (by kernel_rfl) hS10 fun ac213 hf240 => ?_
            refine any_skip (i := 10) hf240 rfl rfl rfl rfl (fun _ _ _ h => h) (by kernel_rfl) (by kernel_rfl) (by kernel_rfl) hS10 fun ac214 hf241 => ?_
            refine any_skip (i := 11) hf241 rfl rfl rfl rfl (fun _ _ _ h => h) (by kernel_rfl) (by kernel_rfl) (by kernel_rfl) hS10 fun ac215 hf242 => ?_
            refine any_val (i := 12) (v := .bool false) hf242 rfl rfl rfl rfl rfl rfl (fun _ _ _ h => h) (by kernel_rfl) (by kernel_rfl) (by kernel_rfl) (fun wd28 hS10 => (r_pickF rfl rfl)) hS10 fun ac216 hf243 => ?_
            refine any_end (by kernel_rfl) ?_
            clear hI39 ac189 hf213 ac190 hf214 ac191 hf215 ac192 hf216 hf217 ac193 hf234 ac208 hf235 ac209 hf236 ac210 hf237 ac211 hf238 ac212 hf239 ac213 hf240 ac214 hf241 ac215 hf242 hS10
            refine then_normal ?_
            refine code_if_false hf243 rfl ?_
            refine wp_skip ?_
            refine block_normal ?_
            refine then_normal ?_
            refine seq_start (l := [0, 1]) rfl ?_
            refine seq_one (op_val (v := .int .i64 4) hf243 rfl rfl rfl rfl rfl rfl (r_add (c := 4) rfl rfl (by rfl)) fun ac217 hf244 => ?_)
            refine seq_one (op_val (v := .int .i64 4) hf244 rfl rfl rfl rfl rfl rfl (r_move rfl) fun ac218 hf245 => ?_)
            refine seq_end ?_
            clear ac216 hf243 ac217 hf244
            refine then_normal ?_
            refine rounds_go ?_
            refine code_seq ?_
            refine seq_start (l := [0]) rfl ?_
            refine seq_one (op_val (v := .bool false) hf245 rfl rfl rfl rfl rfl rfl (r_lssC rfl rfl (by decide)) fun ac219 hf246 => ?_)
            refine seq_end ?_
            clear ac218 hf245
            refine then_normal ?_
            refine code_seq ?_
            refine code_if_false hf246 rfl ?_
            refine wp_exit ?_
            refine then_exit ?_
            refine then_exit ?_
            refine block_here ?_
            refine then_normal ?_
            refine code_seq ?_
            refine seq_start (l := [0, 1]) rfl ?_
            refine seq_one (op_pure hf246 rfl rfl rfl rfl ca_33 awake5_pur hI40 fun ac220 wd32 hI44 hf247 => ?_)
            refine seq_one (op_val (v := .bool true) hf247 rfl rfl rfl rfl rfl rfl (r_assign rfl) fun ac221 hf248 => ?_)
            refine seq_end ?_
            clear ac219 wd28 hI40 hf246 ac220 hf247
            refine then_normal ?_
            refine wp_ret ?_
            refine post1 rfl hf248 rfl ⟨?_, hI44.done (fk_app (fresh_keys (ks := [b1, b2, b3, b4, b5]) rfl (fk_cons hb1 (fk_cons hb2 (fk_cons hb3 (fk_cons hb4 (fk_cons hb5 fk_nil)))))) (fk_app (fk_app (fk_app (fk_app (fk_app (fk_app hyq6 hyq7) hyq8) hyq9) hyq10) hyq11) hyq12))⟩
            rfl
        · have hf249 := hf197.know 80 (u := .bool false) rfl (congrArg Value.bool g80_12)
          refine any_skip (i := 4) hf249 rfl rfl rfl rfl (fun _ _ _ h => h) (by kernel_rfl) (by kernel_rfl) (by kernel_rfl) hS7 fun ac222 hf250 => ?_
          refine any_skip (i := 5) hf250 rfl rfl rfl rfl (fun _ _ _ h => h) (by kernel_rfl) (by kernel_rfl) (by kernel_rfl) hS7 fun ac223 hf251 => ?_
          refine any_skip (i := 6) hf251 rfl rfl rfl rfl (fun _ _ _ h => h) (by kernel_rfl) (by kernel_rfl) (by kernel_rfl) hS7 fun ac224 hf252 => ?_
          refine any_skip (i := 7) hf252 rfl rfl rfl rfl (fun _ _ _ h => h) (by kernel_rfl) (by kernel_rfl) (by kernel_rfl) hS7 fun ac225 hf253 => ?_
          refine any_skip (i := 8) hf253 rfl rfl rfl rfl (fun _ _ _ h => h) (by kernel_rfl) (by kernel_rfl) (by kernel_rfl) hS7 fun ac226 hf254 => ?_
          refine any_skip (i := 9) hf254 rfl rfl rfl rfl (fun _ _ _ h => h) (by kernel_rfl) (by kernel_rfl) (by kernel_rfl) hS7 fun ac227 hf255 => ?_
          refine any_skip (i := 10) hf255 rfl rfl rfl rfl (fun _ _ _ h => h) (by kernel_rfl) (by kernel_rfl) (by kernel_rfl) hS7 fun ac228 hf256 => ?_
          refine any_skip (i := 11) hf256 rfl rfl rfl rfl (fun _ _ _ h => h) (by kernel_rfl) (by kernel_rfl) (by kernel_rfl) hS7 fun ac229 hf257 => ?_
          refine any_val (i := 12) (v := .bool false) hf257 rfl rfl rfl rfl rfl rfl (fun _ _ _ h => h) (by kernel_rfl) (by kernel_rfl) (by kernel_rfl) (fun wd26 hS7 => (r_pickF rfl rfl)) hS7 fun ac230 hf258 => ?_
          refine any_end (by kernel_rfl) ?_
          clear hI36 ac171 hf193 ac172 hf194 ac173 hf195 ac174 hf196 hf197 ac175 hf249 ac222 hf250 ac223 hf251 ac224 hf252 ac225 hf253 ac226 hf254 ac227 hf255 ac228 hf256 ac229 hf257 hS7
          refine then_normal ?_
          refine code_if_false hf258 rfl ?_
          refine wp_skip ?_
          refine block_normal ?_
          refine then_normal ?_
          refine seq_start (l := [0, 1]) rfl ?_
          refine seq_one (op_val (v := .int .i64 3) hf258 rfl rfl rfl rfl rfl rfl (r_add (c := 3) rfl rfl (by rfl)) fun ac231 hf259 => ?_)
          refine seq_one (op_val (v := .int .i64 3) hf259 rfl rfl rfl rfl rfl rfl (r_move rfl) fun ac232 hf260 => ?_)
          refine seq_end ?_
          clear ac230 hf258 ac231 hf259
          refine then_normal ?_
          refine rounds_go ?_
          refine code_seq ?_
          refine seq_start (l := [0]) rfl ?_
          refine seq_one (op_val (v := .bool true) hf260 rfl rfl rfl rfl rfl rfl (r_lssC rfl rfl (by decide)) fun ac233 hf261 => ?_)
          refine seq_end ?_
          clear ac232 hf260
          refine then_normal ?_
          refine code_seq ?_
          refine code_if_true hf261 rfl ?_
          refine wp_skip ?_
          refine then_normal ?_
          refine code_seq ?_
          refine wp_block ?_
          refine code_seq ?_
          refine seq_start (l := [0, 1]) rfl ?_
          refine seq_one (op_val (v := .int .i64 3) hf261 rfl rfl rfl rfl rfl rfl (r_move rfl) fun ac234 hf262 => ?_)
          refine seq_one (op_val (v := .int .i64 3) hf262 rfl rfl rfl rfl rfl rfl (r_assign rfl) fun ac235 hf263 => ?_)
          refine seq_end ?_
          clear ac233 hf261 ac234 hf262
          refine then_normal ?_
          refine code_seq ?_
          refine any_start (fun w => Has [(b5, #[.slice q6 ((c4.lst 0).length) capq6, .slice q7 ((c4.lst 1).length) capq7, .slice q8 ((c4.lst 2).length) capq8, .slice q9 ((c4.lst 3).length) capq9], 53)] w) follows (Has.drew (Has.cons (hI37.at 4 rfl) Has.nil)) ?_
          have hS13 : Has [(b5, #[.slice q6 ((c4.lst 0).length) capq6, .slice q7 ((c4.lst 1).length) capq7, .slice q8 ((c4.lst 2).length) capq8, .slice q9 ((c4.lst 3).length) capq9], 53)] _ := Has.drew (Has.cons (hI37.at 4 rfl) Has.nil)
          have hI45 := hI37.drew
          refine any_val (i := 0) (v := .int .i64 3) hf263 rfl rfl rfl rfl rfl rfl (fun _ _ _ h => h) (by kernel_rfl) (by kernel_rfl) (by kernel_rfl) (fun wd26 hS13 => (r_move rfl)) hS13 fun ac236 hf264 => ?_
          refine any_val (i := 1) (v := .int .i64 k) hf264 rfl rfl rfl rfl rfl rfl (fun _ _ _ h => h) (by kernel_rfl) (by kernel_rfl) (by kernel_rfl) (fun wd26 hS13 => (r_move rfl)) hS13 fun ac237 hf265 => ?_
          refine any_val (i := 2) (v := .bool (3 != k)) hf265 rfl rfl rfl rfl rfl rfl (fun _ _ _ h => h) (by kernel_rfl) (by kernel_rfl) (by kernel_rfl) (fun wd26 hS13 => (r_neq rfl rfl)) hS13 fun ac238 hf266 => ?_
          refine any_val (i := 3) (v := .bool (3 != k)) hf266 rfl rfl rfl rfl rfl rfl (fun _ _ _ h => h) (by kernel_rfl) (by kernel_rfl) (by kernel_rfl) (fun wd26 hS13 => (r_move rfl)) hS13 fun ac239 hf267 => ?_
          rcases Bool.eq_false_or_eq_true (3 != k : Bool) with g80_14 | g80_14
          · have hf268 := hf267.know 80 (u := .bool true) rfl (congrArg Value.bool g80_14)
            refine any_val (i := 4) (v := .pointer (some ⟨b4, 0, none⟩)) hf268 rfl rfl rfl rfl rfl rfl (fun _ _ _ h => h) (by kernel_rfl) (by kernel_rfl) (by kernel_rfl) (fun wd26 hS13 => (r_move rfl)) hS13 fun ac240 hf269 => ?_
            refine any_val (i := 5) (v := .int .i64 3) hf269 rfl rfl rfl rfl rfl rfl (fun _ _ _ h => h) (by kernel_rfl) (by kernel_rfl) (by kernel_rfl) (fun wd26 hS13 => (r_move rfl)) hS13 fun ac241 hf270 => ?_
            refine any_val (i := 7) (v := .int .i64 3) hf270 rfl rfl rfl rfl rfl rfl (fun _ _ _ h => h) (by kernel_rfl) (by kernel_rfl) (by kernel_rfl) (fun wd26 hS13 => (r_move rfl)) hS13 fun ac242 hf271 => ?_
            refine any_val (i := 8) (v := .pointer (some ⟨b5, 3, none⟩)) hf271 rfl rfl rfl rfl rfl rfl (fun _ _ _ h => h) (by kernel_rfl) (by kernel_rfl) (by kernel_rfl) (fun wd26 hS13 => (r_indexAddr (i := 3) ar_53 rfl rfl rfl (by decide) rfl)) hS13 fun ac243 hf272 => ?_
            refine any_val (i := 9) (v := .slice q9 ((c4.lst 3).length) capq9) hf272 rfl rfl rfl rfl rfl rfl (fun _ _ _ h => h) (by kernel_rfl) (by kernel_rfl) (by kernel_rfl) (fun wd26 hS13 => (r_load ag_27 rfl (hS13.at 0 rfl) rfl)) hS13 fun ac244 hf273 => ?_
            refine any_one (i := 6) (by kernel_rfl) ?_
            refine (op_call (R := fun v w' => ∃ S p cap, v = .slice p (d.lst 3).length cap ∧ Sl 3 .i64 S p cap (d.lst 3) ∧ Inv _ S w' ∧ ∀ x ∈ S, Array.size (World.heap _) ≤ x.1) hf273 rfl rfl rfl rfl ca_28 ((list_any (hI45.nd 0 rfl rfl rfl rfl) d (Has.cons (hI45.at 0 rfl) (Has.cons (hI45.at 1 rfl) (Has.cons (hI45.at 2 rfl) (Has.cons (hI45.at 3 rfl) Has.nil)))) 3).mono fun _ _ ⟨S, p, cap, he, h1, h3, h4⟩ => ⟨_, he, S, p, cap, rfl, h1, h3, h4⟩) fun ac245 v wd33 hR hf274 => ?_)
            obtain ⟨Sq12, q12, capq12, rfl, hsq12, hwq12, hzq12⟩ := hR
            have hyq12 := fk_le hI45.size hzq12
            have hI46 : Inv w ([(b1, arr .i64 d.lk, 103), (b2, arr .i64 d.of, 3), (b3, arr .i64 d.mn, 3), (b4, #[.slice (some ⟨b1, 0, none⟩) (20 + 4) (20 + 4), .slice (some ⟨b2, 0, none⟩) 20 20, .slice (some ⟨b3, 0, none⟩) 4 4], 79), (b5, #[.slice q6 ((c4.lst 0).length) capq6, .slice q7 ((c4.lst 1).length) capq7, .slice q8 ((c4.lst 2).length) capq8, .slice q9 ((c4.lst 3).length) capq9], 53)] ++ ((((((Sq6 ++ Sq7) ++ Sq8) ++ Sq9) ++ Sq10) ++ Sq11) ++ Sq12)) _ := hI45.callN hwq12 hzq12
            refine ⟨?_, ?_⟩
            · exact (Has.cons (hI46.at 4 rfl) Has.nil)
            have hS14 : Has [(b5, #[.slice q6 ((c4.lst 0).length) capq6, .slice q7 ((c4.lst 1).length) capq7, .slice q8 ((c4.lst 2).length) capq8, .slice q9 ((c4.lst 3).length) capq9], 53)] _ := (Has.cons (hI46.at 4 rfl) Has.nil)
            refine any_one (i := 10) (by kernel_rfl) ?_
            refine (op_pureW hf274 rfl rfl rfl rfl ca_19 (ints_walk (xs := (d.lst 3)) (ys := (c4.lst 3)) rfl rfl (Nat.le_trans (Ch.lst_le _ _) (by omega)) (hsq12.rd hI46 (fun x hx => List.mem_append_right _ (List.mem_append_right _ hx))) (hsq9.rd hI46 (fun x hx => List.mem_append_right _ (List.mem_append_left _ (List.mem_append_left _ (List.mem_append_left _ (List.mem_append_right _ hx))))))) hI46 fun ac246 wd34 hI47 hf275 => ⟨?_, ?_⟩)
            · exact (Has.cons (hI47.at 4 rfl) Has.nil)
            have hS15 : Has [(b5, #[.slice q6 ((c4.lst 0).length) capq6, .slice q7 ((c4.lst 1).length) capq7, .slice q8 ((c4.lst 2).length) capq8, .slice q9 ((c4.lst 3).length) capq9], 53)] _ := (Has.cons (hI47.at 4 rfl) Has.nil)
            refine any_val (i := 11) (v := .bool (!((d.lst 3) == (c4.lst 3)))) hf275 rfl rfl rfl rfl rfl rfl (fun _ _ _ h => h) (by kernel_rfl) (by kernel_rfl) (by kernel_rfl) (fun wd34 hS15 => (r_not rfl)) hS15 fun ac247 hf276 => ?_
            refine any_val (i := 12) (v := .bool (!((d.lst 3) == (c4.lst 3)))) hf276 rfl rfl rfl rfl rfl rfl (fun _ _ _ h => h) (by kernel_rfl) (by kernel_rfl) (by kernel_rfl) (fun wd34 hS15 => (r_pickT rfl rfl)) hS15 fun ac248 hf277 => ?_
            refine any_end (by kernel_rfl) ?_
            clear hI37 ac235 hf263 ac236 hf264 ac237 hf265 ac238 hf266 hf267 ac239 hf268 ac240 hf269 ac241 hf270 ac242 hf271 ac243 hf272 ac244 wd26 hf273 hI45 hwq12 hzq12 hS13 ac245 wd33 hI46 hf274 hS14 ac246 hf275 ac247 hf276 hS15
            refine then_normal ?_
            have hf278 := hf277.know 89 (u := .bool false) rfl (congrArg Value.bool (by rw [hx2.2 _ (bne_iff_ne.1 g80_14), beq_self_eq_true]; rfl))
            refine code_if_false hf278 rfl ?_
            refine wp_skip ?_
            refine block_normal ?_
            refine then_normal ?_
            refine seq_start (l := [0, 1]) rfl ?_
            refine seq_one (op_val (v := .int .i64 4) hf278 rfl rfl rfl rfl rfl rfl (r_add (c := 4) rfl rfl (by rfl)) fun ac249 hf279 => ?_)
            refine seq_one (op_val (v := .int .i64 4) hf279 rfl rfl rfl rfl rfl rfl (r_move rfl) fun ac250 hf280 => ?_)
            refine seq_end ?_
            clear hf277 ac248 hf278 ac249 hf279
            refine then_normal ?_
            refine rounds_go ?_
            refine code_seq ?_
            refine seq_start (l := [0]) rfl ?_
            refine seq_one (op_val (v := .bool false) hf280 rfl rfl rfl rfl rfl rfl (r_lssC rfl rfl (by decide)) fun ac251 hf281 => ?_)
            refine seq_end ?_
            clear ac250 hf280
            refine then_normal ?_
            refine code_seq ?_
            refine code_if_false hf281 rfl ?_
            refine wp_exit ?_
            refine then_exit ?_
            refine then_exit ?_
            refine block_here ?_
            refine then_normal ?_
            refine code_seq ?_
            refine seq_start (l := [0, 1]) rfl ?_
            refine seq_one (op_pure hf281 rfl rfl rfl rfl ca_33 awake5_pur hI47 fun ac252 wd35 hI48 hf282 => ?_)
            refine seq_one (op_val (v := .bool true) hf282 rfl rfl rfl rfl rfl rfl (r_assign rfl) fun ac253 hf283 => ?_)
            refine seq_end ?_
            clear ac251 wd34 hI47 hf281 ac252 hf282
            refine then_normal ?_
            refine wp_ret ?_
            refine post1 rfl hf283 rfl ⟨?_, hI48.done (fk_app (fresh_keys (ks := [b1, b2, b3, b4, b5]) rfl (fk_cons hb1 (fk_cons hb2 (fk_cons hb3 (fk_cons hb4 (fk_cons hb5 fk_nil)))))) (fk_app (fk_app (fk_app (fk_app (fk_app (fk_app hyq6 hyq7) hyq8) hyq9) hyq10) hyq11) hyq12))⟩
            rfl
          · have hf284 := hf267.know 80 (u := .bool false) rfl (congrArg Value.bool g80_14)
            refine any_skip (i := 4) hf284 rfl rfl rfl rfl (fun _ _ _ h => h) (by kernel_rfl) (by kernel_rfl) (by kernel_rfl) hS13 fun ac254 hf285 => ?_
            refine any_skip (i := 5) hf285 rfl rfl rfl rfl (fun _ _ _ h => h) (by kernel_rfl) (by kernel_rfl) (by kernel_rfl) hS13 fun ac255 hf286 => ?_
            refine any_skip (i := 6) hf286 rfl rfl rfl rfl (fun _ _ _ h => h) (by kernel_rfl) (by kernel_rfl) (by kernel_rfl) hS13 fun ac256 hf287 => ?_
            refine any_skip (i := 7) hf287 rfl rfl rfl rfl (fun _ _ _ h => h) (by kernel_rfl) (by kernel_rfl) (by kernel_rfl) hS13 fun ac257 hf288 => ?_
            refine any_skip (i := 8) hf288 rfl rfl rfl rfl (fun _ _ _ h => h) (by kernel_rfl) (by kernel_rfl) (by kernel_rfl) hS13 fun ac258 hf289 => ?_
            refine any_skip (i := 9) hf289 rfl rfl rfl rfl (fun _ _ _ h => h) (by kernel_rfl) (by kernel_rfl) (by kernel_rfl) hS13 fun ac259 hf290 => ?_
            refine any_skip (i := 10) hf290 rfl rfl rfl rfl (fun _ _ _ h => h) (by kernel_rfl) (by kernel_rfl) (by kernel_rfl) hS13 fun ac260 hf291 => ?_
            refine any_skip (i := 11) hf291 rfl rfl rfl rfl (fun _ _ _ h => h) (by kernel_rfl) (by kernel_rfl) (by kernel_rfl) hS13 fun ac261 hf292 => ?_
            refine any_val (i := 12) (v := .bool false) hf292 rfl rfl rfl rfl rfl rfl (fun _ _ _ h => h) (by kernel_rfl) (by kernel_rfl) (by kernel_rfl) (fun wd26 hS13 => (r_pickF rfl rfl)) hS13 fun ac262 hf293 => ?_
            refine any_end (by kernel_rfl) ?_
            clear hI37 ac235 hf263 ac236 hf264 ac237 hf265 ac238 hf266 hf267 ac239 hf284 ac254 hf285 ac255 hf286 ac256 hf287 ac257 hf288 ac258 hf289 ac259 hf290 ac260 hf291 ac261 hf292 hS13
            refine then_normal ?_
            refine code_if_false hf293 rfl ?_
            refine wp_skip ?_
            refine block_normal ?_
            refine then_normal ?_
            refine seq_start (l := [0, 1]) rfl ?_
            refine seq_one (op_val (v := .int .i64 4) hf293 rfl rfl rfl rfl rfl rfl (r_add (c := 4) rfl rfl (by rfl)) fun ac263 hf294 => ?_)
            refine seq_one (op_val (v := .int .i64 4) hf294 rfl rfl rfl rfl rfl rfl (r_move rfl) fun ac264 hf295 => ?_)
            refine seq_end ?_
            clear ac262 hf293 ac263 hf294
            refine then_normal ?_
            refine rounds_go ?_
            refine code_seq ?_
            refine seq_start (l := [0]) rfl ?_
            refine seq_one (op_val (v := .bool false) hf295 rfl rfl rfl rfl rfl rfl (r_lssC rfl rfl (by decide)) fun ac265 hf296 => ?_)
            refine seq_end ?_
            clear ac264 hf295
            refine then_normal ?_
            refine code_seq ?_
            refine code_if_false hf296 rfl ?_
            refine wp_exit ?_
            refine then_exit ?_
            refine then_exit ?_
            refine block_here ?_
            refine then_normal ?_
            refine code_seq ?_
            refine seq_start (l := [0, 1]) rfl ?_
            refine seq_one (op_pure hf296 rfl rfl rfl rfl ca_33 awake5_pur hI45 fun ac266 wd36 hI49 hf297 => ?_)
            refine seq_one (op_val (v := .bool true) hf297 rfl rfl rfl rfl rfl rfl (r_assign rfl) fun ac267 hf298 => ?_)
            refine seq_end ?_
            clear ac265 wd26 hI45 hf296 ac266 hf297
            refine then_normal ?_
            refine wp_ret ?_
            refine post1 rfl hf298 rfl ⟨?_, hI49.done (fk_app (fresh_keys (ks := [b1, b2, b3, b4, b5]) rfl (fk_cons hb1 (fk_cons hb2 (fk_cons hb3 (fk_cons hb4 (fk_cons hb5 fk_nil)))))) (fk_app (fk_app (fk_app (fk_app (fk_app hyq6 hyq7) hyq8) hyq9) hyq10) hyq11))⟩
            rfl
      · have hf299 := hf177.know 80 (u := .bool false) rfl (congrArg Value.bool g80_11)
        refine any_skip (i := 4) hf299 rfl rfl rfl rfl (fun _ _ _ h => h) (by kernel_rfl) (by kernel_rfl) (by kernel_rfl) hS4 fun ac268 hf300 => ?_
        refine any_skip (i := 5) hf300 rfl rfl rfl rfl (fun _ _ _ h => h) (by kernel_rfl) (by kernel_rfl) (by kernel_rfl) hS4 fun ac269 hf301 => ?_
        refine any_skip (i := 6) hf301 rfl rfl rfl rfl (fun _ _ _ h => h) (by kernel_rfl) (by kernel_rfl) (by kernel_rfl) hS4 fun ac270 hf302 => ?_
        refine any_skip (i := 7) hf302 rfl rfl rfl rfl (fun _ _ _ h => h) (by kernel_rfl) (by kernel_rfl) (by kernel_rfl) hS4 fun ac271 hf303 => ?_
        refine any_skip (i := 8) hf303 rfl rfl rfl rfl (fun _ _ _ h => h) (by kernel_rfl) (by kernel_rfl) (by kernel_rfl) hS4 fun ac272 hf304 => ?_
        refine any_skip (i := 9) hf304 rfl rfl rfl rfl (fun _ _ _ h => h) (by kernel_rfl) (by kernel_rfl) (by kernel_rfl) hS4 fun ac273 hf305 => ?_
        refine any_skip (i := 10) hf305 rfl rfl rfl rfl (fun _ _ _ h => h) (by kernel_rfl) (by kernel_rfl) (by kernel_rfl) hS4 fun ac274 hf306 => ?_
        refine any_skip (i := 11) hf306 rfl rfl rfl rfl (fun _ _ _ h => h) (by kernel_rfl) (by kernel_rfl) (by kernel_rfl) hS4 fun ac275 hf307 => ?_
        refine any_val (i := 12) (v := .bool false) hf307 rfl rfl rfl rfl rfl rfl (fun _ _ _ h => h) (by kernel_rfl) (by kernel_rfl) (by kernel_rfl) (fun wd24 hS4 => (r_pickF rfl rfl)) hS4 fun ac276 hf308 => ?_
        refine any_end (by kernel_rfl) ?_
        clear hI33 ac153 hf173 ac154 hf174 ac155 hf175 ac156 hf176 hf177 ac157 hf299 ac268 hf300 ac269 hf301 ac270 hf302 ac271 hf303 ac272 hf304 ac273 hf305 ac274 hf306 ac275 hf307 hS4
        refine then_normal ?_
        refine code_if_false hf308 rfl ?_
        refine wp_skip ?_
        refine block_normal ?_
        refine then_normal ?_
        refine seq_start (l := [0, 1]) rfl ?_
        refine seq_one (op_val (v := .int .i64 2) hf308 rfl rfl rfl rfl rfl rfl (r_add (c := 2) rfl rfl (by rfl)) fun ac277 hf309 => ?_)
        refine seq_one (op_val (v := .int .i64 2) hf309 rfl rfl rfl rfl rfl rfl (r_move rfl) fun ac278 hf310 => ?_)
        refine seq_end ?_
        clear ac276 hf308 ac277 hf309
        refine then_normal ?_
        refine rounds_go ?_
        refine code_seq ?_
        refine seq_start (l := [0]) rfl ?_
        refine seq_one (op_val (v := .bool true) hf310 rfl rfl rfl rfl rfl rfl (r_lssC rfl rfl (by decide)) fun ac279 hf311 => ?_)
        refine seq_end ?_
        clear ac278 hf310
        refine then_normal ?_
        refine code_seq ?_
        refine code_if_true hf311 rfl ?_
        refine wp_skip ?_
        refine then_normal ?_
        refine code_seq ?_
        refine wp_block ?_
        refine code_seq ?_
        refine seq_start (l := [0, 1]) rfl ?_
        refine seq_one (op_val (v := .int .i64 2) hf311 rfl rfl rfl rfl rfl rfl (r_move rfl) fun ac280 hf312 => ?_)
        refine seq_one (op_val (v := .int .i64 2) hf312 rfl rfl rfl rfl rfl rfl (r_assign rfl) fun ac281 hf313 => ?_)
        refine seq_end ?_
        clear ac279 hf311 ac280 hf312
        refine then_normal ?_
        refine code_seq ?_
        refine any_start (fun w => Has [(b5, #[.slice q6 ((c4.lst 0).length) capq6, .slice q7 ((c4.lst 1).length) capq7, .slice q8 ((c4.lst 2).length) capq8, .slice q9 ((c4.lst 3).length) capq9], 53)] w) follows (Has.drew (Has.cons (hI34.at 4 rfl) Has.nil)) ?_
        have hS16 : Has [(b5, #[.slice q6 ((c4.lst 0).length) capq6, .slice q7 ((c4.lst 1).length) capq7, .slice q8 ((c4.lst 2).length) capq8, .slice q9 ((c4.lst 3).length) capq9], 53)] _ := Has.drew (Has.cons (hI34.at 4 rfl) Has.nil)
        have hI50 := hI34.drew
        refine any_val (i := 0) (v := .int .i64 2) hf313 rfl rfl rfl rfl rfl rfl (fun _ _ _ h => h) (by kernel_rfl) (by kernel_rfl) (by kernel_rfl) (fun wd24 hS16 => (r_move rfl)) hS16 fun ac282 hf314 => ?_
        refine any_val (i := 1) (v := .int .i64 k) hf314 rfl rfl rfl rfl rfl rfl (fun _ _ _ h => h) (by kernel_rfl) (by kernel_rfl) (by kernel_rfl) (fun wd24 hS16 => (r_move rfl)) hS16 fun ac283 hf315 => ?_
        refine any_val (i := 2) (v := .bool (2 != k)) hf315 rfl rfl rfl rfl rfl rfl (fun _ _ _ h => h) (by kernel_rfl) (by kernel_rfl) (by kernel_rfl) (fun wd24 hS16 => (r_neq rfl rfl)) hS16 fun ac284 hf316 => ?_
        refine any_val (i := 3) (v := .bool (2 != k)) hf316 rfl rfl rfl rfl rfl rfl (fun _ _ _ h => h) (by kernel_rfl) (by kernel_rfl) (by kernel_rfl) (fun wd24 hS16 => (r_move rfl)) hS16 fun ac285 hf317 => ?_
        rcases Bool.eq_false_or_eq_true (2 != k : Bool) with g80_15 | g80_15
        · have hf318 := hf317.know 80 (u := .bool true) rfl (congrArg Value.bool g80_15)
          refine any_val (i := 4) (v := .pointer (some ⟨b4, 0, none⟩)) hf318 rfl rfl rfl rfl rfl rfl (fun _ _ _ h => h) (by kernel_rfl) (by kernel_rfl) (by kernel_rfl) (fun wd24 hS16 => (r_move rfl)) hS16 fun ac286 hf319 => ?_
          refine any_val (i := 5) (v := .int .i64 2) hf319 rfl rfl rfl rfl rfl rfl (fun _ _ _ h => h) (by kernel_rfl) (by kernel_rfl) (by kernel_rfl) (fun wd24 hS16 => (r_move rfl)) hS16 fun ac287 hf320 => ?_
          refine any_val (i := 7) (v := .int .i64 2) hf320 rfl rfl rfl rfl rfl rfl (fun _ _ _ h => h) (by kernel_rfl) (by kernel_rfl) (by kernel_rfl) (fun wd24 hS16 => (r_move rfl)) hS16 fun ac288 hf321 => ?_
          refine any_val (i := 8) (v := .pointer (some ⟨b5, 2, none⟩)) hf321 rfl rfl rfl rfl rfl rfl (fun _ _ _ h => h) (by kernel_rfl) (by kernel_rfl) (by kernel_rfl) (fun wd24 hS16 => (r_indexAddr (i := 2) ar_53 rfl rfl rfl (by decide) rfl)) hS16 fun ac289 hf322 => ?_
          refine any_val (i := 9) (v := .slice q8 ((c4.lst 2).length) capq8) hf322 rfl rfl rfl rfl rfl rfl (fun _ _ _ h => h) (by kernel_rfl) (by kernel_rfl) (by kernel_rfl) (fun wd24 hS16 => (r_load ag_27 rfl (hS16.at 0 rfl) rfl)) hS16 fun ac290 hf323 => ?_
          refine any_one (i := 6) (by kernel_rfl) ?_
          refine (op_call (R := fun v w' => ∃ S p cap, v = .slice p (d.lst 2).length cap ∧ Sl 3 .i64 S p cap (d.lst 2) ∧ Inv _ S w' ∧ ∀ x ∈ S, Array.size (World.heap _) ≤ x.1) hf323 rfl rfl rfl rfl ca_28 ((list_any (hI50.nd 0 rfl rfl rfl rfl) d (Has.cons (hI50.at 0 rfl) (Has.cons (hI50.at 1 rfl) (Has.cons (hI50.at 2 rfl) (Has.cons (hI50.at 3 rfl) Has.nil)))) 2).mono fun _ _ ⟨S, p, cap, he, h1, h3, h4⟩ => ⟨_, he, S, p, cap, rfl, h1, h3, h4⟩) fun ac291 v wd37 hR hf324 => ?_)
          obtain ⟨Sq11, q11, capq11, rfl, hsq11, hwq11, hzq11⟩ := hR
          have hyq11 := fk_le hI50.size hzq11
          have hI51 : Inv w ([(b1, arr .i64 d.lk, 103), (b2, arr .i64 d.of, 3), (b3, arr .i64 d.mn, 3), (b4, #[.slice (some ⟨b1, 0, none⟩) (20 + 4) (20 + 4), .slice (some ⟨b2, 0, none⟩) 20 20, .slice (some ⟨b3, 0, none⟩) 4 4], 79), (b5, #[.slice q6 ((c4.lst 0).length) capq6, .slice q7 ((c4.lst 1).length) capq7, .slice q8 ((c4.lst 2).length) capq8, .slice q9 ((c4.lst 3).length) capq9], 53)] ++ (((((Sq6 ++ Sq7) ++ Sq8) ++ Sq9) ++ Sq10) ++ Sq11)) _ := hI50.callN hwq11 hzq11
          refine ⟨?_, ?_⟩
          · exact (Has.cons (hI51.at 4 rfl) Has.nil)
          have hS17 : Has [(b5, #[.slice q6 ((c4.lst 0).length) capq6, .slice q7 ((c4.lst 1).length) capq7, .slice q8 ((c4.lst 2).length) capq8, .slice q9 ((c4.lst 3).length) capq9], 53)] _ := (Has.cons (hI51.at 4 rfl) Has.nil)
          refine any_one (i := 10) (by kernel_rfl) ?_
          refine (op_pureW hf324 rfl rfl rfl rfl ca_19 (ints_walk (xs := (d.lst 2)) (ys := (c4.lst 2)) rfl rfl (Nat.le_trans (Ch.lst_le _ _) (by omega)) (hsq11.rd hI51 (fun x hx => List.mem_append_right _ (List.mem_append_right _ hx))) (hsq8.rd hI51 (fun x hx => List.mem_append_right _ (List.mem_append_left _ (List.mem_append_left _ (List.mem_append_left _ (List.mem_append_right _ hx))))))) hI51 fun ac292 wd38 hI52 hf325 => ⟨?_, ?_⟩)
          · exact (Has.cons (hI52.at 4 rfl) Has.nil)
          have hS18 : Has [(b5, #[.slice q6 ((c4.lst 0).length) capq6, .slice q7 ((c4.lst 1).length) capq7, .slice q8 ((c4.lst 2).length) capq8, .slice q9 ((c4.lst 3).length) capq9], 53)] _ := (Has.cons (hI52.at 4 rfl) Has.nil)
          refine any_val (i := 11) (v := .bool (!((d.lst 2) == (c4.lst 2)))) hf325 rfl rfl rfl rfl rfl rfl (fun _ _ _ h => h) (by kernel_rfl) (by kernel_rfl) (by kernel_rfl) (fun wd38 hS18 => (r_not rfl)) hS18 fun ac293 hf326 => ?_
          refine any_val (i := 12) (v := .bool (!((d.lst 2) == (c4.lst 2)))) hf326 rfl rfl rfl rfl rfl rfl (fun _ _ _ h => h) (by kernel_rfl) (by kernel_rfl) (by kernel_rfl) (fun wd38 hS18 => (r_pickT rfl rfl)) hS18 fun ac294 hf327 => ?_
          refine any_end (by kernel_rfl) ?_
          clear hI34 ac281 hf313 ac282 hf314 ac283 hf315 ac284 hf316 hf317 ac285 hf318 ac286 hf319 ac287 hf320 ac288 hf321 ac289 hf322 ac290 wd24 hf323 hI50 hwq11 hzq11 hS16 ac291 wd37 hI51 hf324 hS17 ac292 hf325 ac293 hf326 hS18
          refine then_normal ?_
          have hf328 := hf327.know 89 (u := .bool false) rfl (congrArg Value.bool (by rw [hx2.2 _ (bne_iff_ne.1 g80_15), beq_self_eq_true]; rfl))
          refine code_if_false hf328 rfl ?_
          refine wp_skip ?_
          refine block_normal ?_
          refine then_normal ?_
          refine seq_start (l := [0, 1]) rfl ?_
          refine seq_one (op_val (v := .int .i64 3) hf328 rfl rfl rfl rfl rfl rfl (r_add (c := 3) rfl rfl (by rfl)) fun ac295 hf329 => ?_)
          refine seq_one (op_val (v := .int .i64 3) hf329 rfl rfl rfl rfl rfl rfl (r_move rfl) fun ac296 hf330 => ?_)
          refine seq_end ?_
          clear hf327 ac294 hf328 ac295 hf329
          refine then_normal ?_
          refine rounds_go ?_
          refine code_seq ?_
          refine seq_start (l := [0]) rfl ?_
          refine seq_one (op_val (v := .bool true) hf330 rfl rfl rfl rfl rfl rfl (r_lssC rfl rfl (by decide)) fun ac297 hf331 => ?_)
          refine seq_end ?_
          clear ac296 hf330
          refine then_normal ?_
          refine code_seq ?_
          refine code_if_true hf331 rfl ?_
          refine wp_skip ?_
          refine then_normal ?_
          refine code_seq ?_
          refine wp_block ?_
          refine code_seq ?_
          refine seq_start (l := [0, 1]) rfl ?_
          refine seq_one (op_val (v := .int .i64 3) hf331 rfl rfl rfl rfl rfl rfl (r_move rfl) fun ac298 hf332 => ?_)
          refine seq_one (op_val (v := .int .i64 3) hf332 rfl rfl rfl rfl rfl rfl (r_assign rfl) fun ac299 hf333 => ?_)
          refine seq_end ?_
          clear ac297 hf331 ac298 hf332
          refine then_normal ?_
          refine code_seq ?_
          refine any_start (fun w => Has [(b5, #[.slice q6 ((c4.lst 0).length) capq6, .slice q7 ((c4.lst 1).length) capq7, .slice q8 ((c4.lst 2).length) capq8, .slice q9 ((c4.lst 3).length) capq9], 53)] w) follows (Has.drew (Has.cons (hI52.at 4 rfl) Has.nil)) ?_
          have hS19 : Has [(b5, #[.slice q6 ((c4.lst 0).length) capq6, .slice q7 ((c4.lst 1).length) capq7, .slice q8 ((c4.lst 2).length) capq8, .slice q9 ((c4.lst 3).length) capq9], 53)] _ := Has.drew (Has.cons (hI52.at 4 rfl) Has.nil)
          have hI53 := hI52.drew
          refine any_val (i := 0) (v := .int .i64 3) hf333 rfl rfl rfl rfl rfl rfl (fun _ _ _ h => h) (by kernel_rfl) (by kernel_rfl) (by kernel_rfl) (fun wd38 hS19 => (r_move rfl)) hS19 fun ac300 hf334 => ?_
          refine any_val (i := 1) (v := .int .i64 k) hf334 rfl rfl rfl rfl rfl rfl (fun _ _ _ h => h) (by kernel_rfl) (by kernel_rfl) (by kernel_rfl) (fun wd38 hS19 => (r_move rfl)) hS19 fun ac301 hf335 => ?_
          refine any_val (i := 2) (v := .bool (3 != k)) hf335 rfl rfl rfl rfl rfl rfl (fun _ _ _ h => h) (by kernel_rfl) (by kernel_rfl) (by kernel_rfl) (fun wd38 hS19 => (r_neq rfl rfl)) hS19 fun ac302 hf336 => ?_
          refine any_val (i := 3) (v := .bool (3 != k)) hf336 rfl rfl rfl rfl rfl rfl (fun _ _ _ h => h) (by kernel_rfl) (by kernel_rfl) (by kernel_rfl) (fun wd38 hS19 => (r_move rfl)) hS19 fun ac303 hf337 => ?_
          rcases Bool.eq_false_or_eq_true (3 != k : Bool) with g80_16 | g80_16
          · have hf338 := hf337.know 80 (u := .bool true) rfl (congrArg Value.bool g80_16)
            refine any_val (i := 4) (v := .pointer (some ⟨b4, 0, none⟩)) hf338 rfl rfl rfl rfl rfl rfl (fun _ _ _ h => h) (by kernel_rfl) (by kernel_rfl) (by kernel_rfl) (fun wd38 hS19 => (r_move rfl)) hS19 fun ac304 hf339 => ?_
            refine any_val (i := 5) (v := .int .i64 3) hf339 rfl rfl rfl rfl rfl rfl (fun _ _ _ h => h) (by kernel_rfl) (by kernel_rfl) (by kernel_rfl) (fun wd38 hS19 => (r_move rfl)) hS19 fun ac305 hf340 => ?_
            refine any_val (i := 7) (v := .int .i64 3) hf340 rfl rfl rfl rfl rfl rfl (fun _ _ _ h => h) (by kernel_rfl) (by kernel_rfl) (by kernel_rfl) (fun wd38 hS19 => (r_move rfl)) hS19 fun ac306 hf341 => ?_
            refine any_val (i := 8) (v := .pointer (some ⟨b5, 3, none⟩)) hf341 rfl rfl rfl rfl rfl rfl (fun _ _ _ h => h) (by kernel_rfl) (by kernel_rfl) (by kernel_rfl) (fun wd38 hS19 => (r_indexAddr (i := 3) ar_53 rfl rfl rfl (by decide) rfl)) hS19 fun ac307 hf342 => ?_
            refine any_val (i := 9) (v := .slice q9 ((c4.lst 3).length) capq9) hf342 rfl rfl rfl rfl rfl rfl (fun _ _ _ h => h) (by kernel_rfl) (by kernel_rfl) (by kernel_rfl) (fun wd38 hS19 => (r_load ag_27 rfl (hS19.at 0 rfl) rfl)) hS19 fun ac308 hf343 => ?_
            refine any_one (i := 6) (by kernel_rfl) ?_
            refine (op_call (R := fun v w' => ∃ S p cap, v = .slice p (d.lst 3).length cap ∧ Sl 3 .i64 S p cap (d.lst 3) ∧ Inv _ S w' ∧ ∀ x ∈ S, Array.size (World.heap _) ≤ x.1) hf343 rfl rfl rfl rfl ca_28 ((list_any (hI53.nd 0 rfl rfl rfl rfl) d (Has.cons (hI53.at 0 rfl) (Has.cons (hI53.at 1 rfl) (Has.cons (hI53.at 2 rfl) (Has.cons (hI53.at 3 rfl) Has.nil)))) 3).mono fun _ _ ⟨S, p, cap, he, h1, h3, h4⟩ => ⟨_, he, S, p, cap, rfl, h1, h3, h4⟩) fun ac309 v wd39 hR hf344 => ?_)
            obtain ⟨Sq12, q12, capq12, rfl, hsq12, hwq12, hzq12⟩ := hR
            have hyq12 := fk_le hI53.size hzq12
            have hI54 : Inv w ([(b1, arr .i64 d.lk, 103), (b2, arr .i64 d.of, 3), (b3, arr .i64 d.mn, 3), (b4, #[.slice (some ⟨b1, 0, none⟩) (20 + 4) (20 + 4), .slice (some ⟨b2, 0, none⟩) 20 20, .slice (some ⟨b3, 0, none⟩) 4 4], 79), (b5, #[.slice q6 ((c4.lst 0).length) capq6, .slice q7 ((c4.lst 1).length) capq7, .slice q8 ((c4.lst 2).length) capq8, .slice q9 ((c4.lst 3).length) capq9], 53)] ++ ((((((Sq6 ++ Sq7) ++ Sq8) ++ Sq9) ++ Sq10) ++ Sq11) ++ Sq12)) _ := hI53.callN hwq12 hzq12
            refine ⟨?_, ?_⟩
            · exact (Has.cons (hI54.at 4 rfl) Has.nil)
            have hS20 : Has [(b5, #[.slice q6 ((c4.lst 0).length) capq6, .slice q7 ((c4.lst 1).length) capq7, .slice q8 ((c4.lst 2).length) capq8, .slice q9 ((c4.lst 3).length) capq9], 53)] _ := (Has.cons (hI54.at 4 rfl) Has.nil)
            refine any_one (i := 10) (by kernel_rfl) ?_
            refine (op_pureW hf344 rfl rfl rfl rfl ca_19 (ints_walk (xs := (d.lst 3)) (ys := (c4.lst 3)) rfl rfl (Nat.le_trans (Ch.lst_le _ _) (by omega)) (hsq12.rd hI54 (fun x hx => List.mem_append_right _ (List.mem_append_right _ hx))) (hsq9.rd hI54 (fun x hx => List.mem_append_right _ (List.mem_append_left _ (List.mem_append_left _ (List.mem_append_left _ (List.mem_append_right _ hx))))))) hI54 fun ac310 wd40 hI55 hf345 => ⟨?_, ?_⟩)
            · exact (Has.cons (hI55.at 4 rfl) Has.nil)
            have hS21 : Has [(b5, #[.slice q6 ((c4.lst 0).length) capq6, .slice q7 ((c4.lst 1).length) capq7, .slice q8 ((c4.lst 2).length) capq8, .slice q9 ((c4.lst 3).length) capq9], 53)] _ := (Has.cons (hI55.at 4 rfl) Has.nil)
            refine any_val (i := 11) (v := .bool (!((d.lst 3) == (c4.lst 3)))) hf345 rfl rfl rfl rfl rfl rfl (fun _ _ _ h => h) (by kernel_rfl) (by kernel_rfl) (by kernel_rfl) (fun wd40 hS21 => (r_not rfl)) hS21 fun ac311 hf346 => ?_
            refine any_val (i := 12) (v := .bool (!((d.lst 3) == (c4.lst 3)))) hf346 rfl rfl rfl rfl rfl rfl (fun _ _ _ h => h) (by kernel_rfl) (by kernel_rfl) (by kernel_rfl) (fun wd40 hS21 => (r_pickT rfl rfl)) hS21 fun ac312 hf347 => ?_
            refine any_end (by kernel_rfl) ?_
            clear hI52 ac299 hf333 ac300 hf334 ac301 hf335 ac302 hf336 hf337 ac303 hf338 ac304 hf339 ac305 hf340 ac306 hf341 ac307 hf342 ac308 wd38 hf343 hI53 hwq12 hzq12 hS19 ac309 wd39 hI54 hf344 hS20 ac310 hf345 ac311 hf346 hS21
            refine then_normal ?_
            have hf348 := hf347.know 89 (u := .bool false) rfl (congrArg Value.bool (by rw [hx2.2 _ (bne_iff_ne.1 g80_16), beq_self_eq_true]; rfl))
            refine code_if_false hf348 rfl ?_
            refine wp_skip ?_
            refine block_normal ?_
            refine then_normal ?_
            refine seq_start (l := [0, 1]) rfl ?_
            refine seq_one (op_val (v := .int .i64 4) hf348 rfl rfl rfl rfl rfl rfl (r_add (c := 4) rfl rfl (by rfl)) fun ac313 hf349 => ?_)
            refine seq_one (op_val (v := .int .i64 4) hf349 rfl rfl rfl rfl rfl rfl (r_move rfl) fun ac314 hf350 => ?_)
            refine seq_end ?_
            clear hf347 ac312 hf348 ac313 hf349
            refine then_normal ?_
            refine rounds_go ?_
            refine code_seq ?_
            refine seq_start (l := [0]) rfl ?_
            refine seq_one (op_val (v := .bool false) hf350 rfl rfl rfl rfl rfl rfl (r_lssC rfl rfl (by decide)) fun ac315 hf351 => ?_)
            refine seq_end ?_
            clear ac314 hf350
            refine then_normal ?_
            refine code_seq ?_
            refine code_if_false hf351 rfl ?_
            refine wp_exit ?_
            refine then_exit ?_
            refine then_exit ?_
            refine block_here ?_
            refine then_normal ?_
            refine code_seq ?_
            refine seq_start (l := [0, 1]) rfl ?_
            refine seq_one (op_pure hf351 rfl rfl rfl rfl ca_33 awake5_pur hI55 fun ac316 wd41 hI56 hf352 => ?_)
            refine seq_one (op_val (v := .bool true) hf352 rfl rfl rfl rfl rfl rfl (r_assign rfl) fun ac317 hf353 => ?_)
            refine seq_end ?_
            clear ac315 wd40 hI55 hf351 ac316 hf352
            refine then_normal ?_
            refine wp_ret ?_
            refine post1 rfl hf353 rfl ⟨?_, hI56.done (fk_app (fresh_keys (ks := [b1, b2, b3, b4, b5]) rfl (fk_cons hb1 (fk_cons hb2 (fk_cons hb3 (fk_cons hb4 (fk_cons hb5 fk_nil)))))) (fk_app (fk_app (fk_app (fk_app (fk_app (fk_app hyq6 hyq7) hyq8) hyq9) hyq10) hyq11) hyq12))⟩
            rfl
          · have hf354 := hf337.know 80 (u := .bool false) rfl (congrArg Value.bool g80_16)
            refine any_skip (i := 4) hf354 rfl rfl rfl rfl (fun _ _ _ h => h) (by kernel_rfl) (by kernel_rfl) (by kernel_rfl) hS19 fun ac318 hf355 => ?_
            refine any_skip (i := 5) hf355 rfl rfl rfl rfl (fun _ _ _ h => h) (by kernel_rfl) (by kernel_rfl) (by kernel_rfl) hS19 fun ac319 hf356 => ?_
            refine any_skip (i := 6) hf356 rfl rfl rfl rfl (fun _ _ _ h => h) (by kernel_rfl) (by kernel_rfl) (by kernel_rfl) hS19 fun ac320 hf357 => ?_
            refine any_skip (i := 7) hf357 rfl rfl rfl rfl (fun _ _ _ h => h) (by kernel_rfl) (by kernel_rfl) (by kernel_rfl) hS19 fun ac321 hf358 => ?_
            refine any_skip (i := 8) hf358 rfl rfl rfl rfl (fun _ _ _ h => h) (by kernel_rfl) (by kernel_rfl) (by kernel_rfl) hS19 fun ac322 hf359 => ?_
            refine any_skip (i := 9) hf359 rfl rfl rfl rfl (fun _ _ _ h => h) (by kernel_rfl) (by kernel_rfl) (by kernel_rfl) hS19 fun ac323 hf360 => ?_
            refine any_skip (i := 10) hf360 rfl rfl rfl rfl (fun _ _ _ h => h) (by kernel_rfl) (by kernel_rfl) (by kernel_rfl) hS19 fun ac324 hf361 => ?_
            refine any_skip (i := 11) hf361 rfl rfl rfl rfl (fun _ _ _ h => h) (by kernel_rfl) (by kernel_rfl) (by kernel_rfl) hS19 fun ac325 hf362 => ?_
            refine any_val (i := 12) (v := .bool false) hf362 rfl rfl rfl rfl rfl rfl (fun _ _ _ h => h) (by kernel_rfl) (by kernel_rfl) (by kernel_rfl) (fun wd38 hS19 => (r_pickF rfl rfl)) hS19 fun ac326 hf363 => ?_
            refine any_end (by kernel_rfl) ?_
            clear hI52 ac299 hf333 ac300 hf334 ac301 hf335 ac302 hf336 hf337 ac303 hf354 ac318 hf355 ac319 hf356 ac320 hf357 ac321 hf358 ac322 hf359 ac323 hf360 ac324 hf361 ac325 hf362 hS19
            refine then_normal ?_
            refine code_if_false hf363 rfl ?_
            refine wp_skip ?_
            refine block_normal ?_
            refine then_normal ?_
            refine seq_start (l := [0, 1]) rfl ?_
            refine seq_one (op_val (v := .int .i64 4) hf363 rfl rfl rfl rfl rfl rfl (r_add (c := 4) rfl rfl (by rfl)) fun ac327 hf364 => ?_)
            refine seq_one (op_val (v := .int .i64 4) hf364 rfl rfl rfl rfl rfl rfl (r_move rfl) fun ac328 hf365 => ?_)
            refine seq_end ?_
            clear ac326 hf363 ac327 hf364
            refine then_normal ?_
            refine rounds_go ?_
            refine code_seq ?_
            refine seq_start (l := [0]) rfl ?_
            refine seq_one (op_val (v := .bool false) hf365 rfl rfl rfl rfl rfl rfl (r_lssC rfl rfl (by decide)) fun ac329 hf366 => ?_)
            refine seq_end ?_
            clear ac328 hf365
            refine then_normal ?_
            refine code_seq ?_
            refine code_if_false hf366 rfl ?_
            refine wp_exit ?_
            refine then_exit ?_
            refine then_exit ?_
            refine block_here ?_
            refine then_normal ?_
            refine code_seq ?_
            refine seq_start (l := [0, 1]) rfl ?_
            refine seq_one (op_pure hf366 rfl rfl rfl rfl ca_33 awake5_pur hI53 fun ac330 wd42 hI57 hf367 => ?_)
            refine seq_one (op_val (v := .bool true) hf367 rfl rfl rfl rfl rfl rfl (r_assign rfl) fun ac331 hf368 => ?_)
            refine seq_end ?_
            clear ac329 wd38 hI53 hf366 ac330 hf367
            refine then_normal ?_
            refine wp_ret ?_
            refine post1 rfl hf368 rfl ⟨?_, hI57.done (fk_app (fresh_keys (ks := [b1, b2, b3, b4, b5]) rfl (fk_cons hb1 (fk_cons hb2 (fk_cons hb3 (fk_cons hb4 (fk_cons hb5 fk_nil)))))) (fk_app (fk_app (fk_app (fk_app (fk_app hyq6 hyq7) hyq8) hyq9) hyq10) hyq11))⟩
            rfl
        · have hf369 := hf317.know 80 (u := .bool false) rfl (congrArg Value.bool g80_15)
          refine any_skip (i := 4) hf369 rfl rfl rfl rfl (fun _ _ _ h => h) (by kernel_rfl) (by kernel_rfl) (by kernel_rfl) hS16 fun ac332 hf370 => ?_
          refine any_skip (i := 5) hf370 rfl rfl rfl rfl (fun _ _ _ h => h) (by kernel_rfl) (by kernel_rfl) (by kernel_rfl) hS16 fun ac333 hf371 => ?_
          refine any_skip (i := 6) hf371 rfl rfl rfl rfl (fun _ _ _ h => h) (by kernel_rfl) (by kernel_rfl) (by kernel_rfl) hS16 fun ac334 hf372 => ?_
          refine any_skip (i := 7) hf372 rfl rfl rfl rfl (fun _ _ _ h => h) (by kernel_rfl) (by kernel_rfl) (by kernel_rfl) hS16 fun ac335 hf373 => ?_
          refine any_skip (i := 8) hf373 rfl rfl rfl rfl (fun _ _ _ h => h) (by kernel_rfl) (by kernel_rfl) (by kernel_rfl) hS16 fun ac336 hf374 => ?_
          refine any_skip (i := 9) hf374 rfl rfl rfl rfl (fun _ _ _ h => h) (by kernel_rfl) (by kernel_rfl) (by kernel_rfl) hS16 fun ac337 hf375 => ?_
          refine any_skip (i := 10) hf375 rfl rfl rfl rfl (fun _ _ _ h => h) (by kernel_rfl) (by kernel_rfl) (by kernel_rfl) hS16 fun ac338 hf376 => ?_
          refine any_skip (i := 11) hf376 rfl rfl rfl rfl (fun _ _ _ h => h) (by kernel_rfl) (by kernel_rfl) (by kernel_rfl) hS16 fun ac339 hf377 => ?_
          refine any_val (i := 12) (v := .bool false) hf377 rfl rfl rfl rfl rfl rfl (fun _ _ _ h => h) (by kernel_rfl) (by kernel_rfl) (by kernel_rfl) (fun wd24 hS16 => (r_pickF rfl rfl)) hS16 fun ac340 hf378 => ?_
          refine any_end (by kernel_rfl) ?_
          clear hI34 ac281 hf313 ac282 hf314 ac283 hf315 ac284 hf316 hf317 ac285 hf369 ac332 hf370 ac333 hf371 ac334 hf372 ac335 hf373 ac336 hf374 ac337 hf375 ac338 hf376 ac339 hf377 hS16
          refine then_normal ?_
          refine code_if_false hf378 rfl ?_
          refine wp_skip ?_
          refine block_normal ?_
          refine then_normal ?_
          refine seq_start (l := [0, 1]) rfl ?_
          refine seq_one (op_val (v := .int .i64 3) hf378 rfl rfl rfl rfl rfl rfl (r_add (c := 3) rfl rfl (by rfl)) fun ac341 hf379 => ?_)
          refine seq_one (op_val (v := .int .i64 3) hf379 rfl rfl rfl rfl rfl rfl (r_move rfl) fun ac342 hf380 => ?_)
          refine seq_end ?_
          clear ac340 hf378 ac341 hf379
          refine then_normal ?_
          refine rounds_go ?_
          refine code_seq ?_
          refine seq_start (l := [0]) rfl ?_
          refine seq_one (op_val (v := .bool true) hf380 rfl rfl rfl rfl rfl rfl (r_lssC rfl rfl (by decide)) fun ac343 hf381 => ?_)
          refine seq_end ?_
          clear ac342 hf380
          refine then_normal ?_
          refine code_seq ?_
          refine code_if_true hf381 rfl ?_
          refine wp_skip ?_
          refine then_normal ?_
          refine code_seq ?_
          refine wp_block ?_
          refine code_seq ?_
          refine seq_start (l := [0, 1]) rfl ?_
          refine seq_one (op_val (v := .int .i64 3) hf381 rfl rfl rfl rfl rfl rfl (r_move rfl) fun ac344 hf382 => ?_)
          refine seq_one (op_val (v := .int .i64 3) hf382 rfl rfl rfl rfl rfl rfl (r_assign rfl) fun ac345 hf383 => ?_)
          refine seq_end ?_
          clear ac343 hf381 ac344 hf382
          refine then_normal ?_
          refine code_seq ?_
          refine any_start (fun w => Has [(b5, #[.slice q6 ((c4.lst 0).length) capq6, .slice q7 ((c4.lst 1).length) capq7, .slice q8 ((c4.lst 2).length) capq8, .slice q9 ((c4.lst 3).length) capq9], 53)] w) follows (Has.drew (Has.cons (hI50.at 4 rfl) Has.nil)) ?_
          have hS22 : Has [(b5, #[.slice q6 ((c4.lst 0).length) capq6, .slice q7 ((c4.lst 1).length) capq7, .slice q8 ((c4.lst 2).length) capq8, .slice q9 ((c4.lst 3).length) capq9], 53)] _ := Has.drew (Has.cons (hI50.at 4 rfl) Has.nil)
          have hI58 := hI50.drew
          refine any_val (i := 0) (v := .int .i64 3) hf383 rfl rfl rfl rfl rfl rfl (fun _ _ _ h => h) (by kernel_rfl) (by kernel_rfl) (by kernel_rfl) (fun wd24 hS22 => (r_move rfl)) hS22 fun ac346 hf384 => ?_
          refine any_val (i := 1) (v := .int .i64 k) hf384 rfl rfl rfl rfl rfl rfl (fun _ _ _ h => h) (by kernel_rfl) (by kernel_rfl) (by kernel_rfl) (fun wd24 hS22 => (r_move rfl)) hS22 fun ac347 hf385 => ?_
          refine any_val (i := 2) (v := .bool (3 != k)) hf385 rfl rfl rfl rfl rfl rfl (fun _ _ _ h => h) (by kernel_rfl) (by kernel_rfl) (by kernel_rfl) (fun wd24 hS22 => (r_neq rfl rfl)) hS22 fun ac348 hf386 => ?_
          refine any_val (i := 3) (v := .bool (3 != k)) hf386 rfl rfl rfl rfl rfl rfl (fun _ _ _ h => h) (by kernel_rfl) (by kernel_rfl) (by kernel_rfl) (fun wd24 hS22 => (r_move rfl)) hS22 fun ac349 hf387 => ?_
          rcases Bool.eq_false_or_eq_true (3 != k : Bool) with g80_17 | g80_17
          · have hf388 := hf387.know 80 (u := .bool true) rfl (congrArg Value.bool g80_17)
            refine any_val (i := 4) (v := .pointer (some ⟨b4, 0, none⟩)) hf388 rfl rfl rfl rfl rfl rfl (fun _ _ _ h => h) (by kernel_rfl) (by kernel_rfl) (by kernel_rfl) (fun wd24 hS22 => (r_move rfl)) hS22 fun ac350 hf389 => ?_
            refine any_val (i := 5) (v := .int .i64 3) hf389 rfl rfl rfl rfl rfl rfl (fun _ _ _ h => h) (by kernel_rfl) (by kernel_rfl) (by kernel_rfl) (fun wd24 hS22 => (r_move rfl)) hS22 fun ac351 hf390 => ?_
            refine any_val (i := 7) (v := .int .i64 3) hf390 rfl rfl rfl rfl rfl rfl (fun _ _ _ h => h) (by kernel_rfl) (by kernel_rfl) (by kernel_rfl) (fun wd24 hS22 => (r_move rfl)) hS22 fun ac352 hf391 => ?_
            refine any_val (i := 8) (v := .pointer (some ⟨b5, 3, none⟩)) hf391 rfl rfl rfl rfl rfl rfl (fun _ _ _ h => h) (by kernel_rfl) (by kernel_rfl) (by kernel_rfl) (fun wd24 hS22 => (r_indexAddr (i := 3) ar_53 rfl rfl rfl (by decide) rfl)) hS22 fun ac353 hf392 => ?_
            refine any_val (i := 9) (v := .slice q9 ((c4.lst 3).length) capq9) hf392 rfl rfl rfl rfl rfl rfl (fun _ _ _ h => h) (by kernel_rfl) (by kernel_rfl) (by kernel_rfl) (fun wd24 hS22 => (r_load ag_27 rfl (hS22.at 0 rfl) rfl)) hS22 fun ac354 hf393 => ?_
            refine any_one (i := 6) (by kernel_rfl) ?_
            refine (op_call (R := fun v w' => ∃ S p cap, v = .slice p (d.lst 3).length cap ∧ Sl 3 .i64 S p cap (d.lst 3) ∧ Inv _ S w' ∧ ∀ x ∈ S, Array.size (World.heap _) ≤ x.1) hf393 rfl rfl rfl rfl ca_28 ((list_any (hI58.nd 0 rfl rfl rfl rfl) d (Has.cons (hI58.at 0 rfl) (Has.cons (hI58.at 1 rfl) (Has.cons (hI58.at 2 rfl) (Has.cons (hI58.at 3 rfl) Has.nil)))) 3).mono fun _ _ ⟨S, p, cap, he, h1, h3, h4⟩ => ⟨_, he, S, p, cap, rfl, h1, h3, h4⟩) fun ac355 v wd43 hR hf394 => ?_)
            obtain ⟨Sq11, q11, capq11, rfl, hsq11, hwq11, hzq11⟩ := hR
            have hyq11 := fk_le hI58.size hzq11
            have hI59 : Inv w ([(b1, arr .i64 d.lk, 103), (b2, arr .i64 d.of, 3), (b3, arr .i64 d.mn, 3), (b4, #[.slice (some ⟨b1, 0, none⟩) (20 + 4) (20 + 4), .slice (some ⟨b2, 0, none⟩) 20 20, .slice (some ⟨b3, 0, none⟩) 4 4], 79), (b5, #[.slice q6 ((c4.lst 0).length) capq6, .slice q7 ((c4.lst 1).length) capq7, .slice q8 ((c4.lst 2).length) capq8, .slice q9 ((c4.lst 3).length) capq9], 53)] ++ (((((Sq6 ++ Sq7) ++ Sq8) ++ Sq9) ++ Sq10) ++ Sq11)) _ := hI58.callN hwq11 hzq11
            refine ⟨?_, ?_⟩
            · exact (Has.cons (hI59.at 4 rfl) Has.nil)
            have hS23 : Has [(b5, #[.slice q6 ((c4.lst 0).length) capq6, .slice q7 ((c4.lst 1).length) capq7, .slice q8 ((c4.lst 2).length) capq8, .slice q9 ((c4.lst 3).length) capq9], 53)] _ := (Has.cons (hI59.at 4 rfl) Has.nil)
            refine any_one (i := 10) (by kernel_rfl) ?_
            refine (op_pureW hf394 rfl rfl rfl rfl ca_19 (ints_walk (xs := (d.lst 3)) (ys := (c4.lst 3)) rfl rfl (Nat.le_trans (Ch.lst_le _ _) (by omega)) (hsq11.rd hI59 (fun x hx => List.mem_append_right _ (List.mem_append_right _ hx))) (hsq9.rd hI59 (fun x hx => List.mem_append_right _ (List.mem_append_left _ (List.mem_append_left _ (List.mem_append_right _ hx)))))) hI59 fun ac356 wd44 hI60 hf395 => ⟨?_, ?_⟩)
            · exact (Has.cons (hI60.at 4 rfl) Has.nil)
            have hS24 : Has [(b5, #[.slice q6 ((c4.lst 0).length) capq6, .slice q7 ((c4.lst 1).length) capq7, .slice q8 ((c4.lst 2).length) capq8, .slice q9 ((c4.lst 3).length) capq9], 53)] _ := (Has.cons (hI60.at 4 rfl) Has.nil)
            refine any_val (i := 11) (v := .bool (!((d.lst 3) == (c4.lst 3)))) hf395 rfl rfl rfl rfl rfl rfl (fun _ _ _ h => h) (by kernel_rfl) (by kernel_rfl) (by kernel_rfl) (fun wd44 hS24 => (r_not rfl)) hS24 fun ac357 hf396 => ?_
            refine any_val (i := 12) (v := .bool (!((d.lst 3) == (c4.lst 3)))) hf396 rfl rfl rfl rfl rfl rfl (fun _ _ _ h => h) (by kernel_rfl) (by kernel_rfl) (by kernel_rfl) (fun wd44 hS24 => (r_pickT rfl rfl)) hS24 fun ac358 hf397 => ?_
            refine any_end (by kernel_rfl) ?_
            clear hI50 ac345 hf383 ac346 hf384 ac347 hf385 ac348 hf386 hf387 ac349 hf388 ac350 hf389 ac351 hf390 ac352 hf391 ac353 hf392 ac354 wd24 hf393 hI58 hwq11 hzq11 hS22 ac355 wd43 hI59 hf394 hS23 ac356 hf395 ac357 hf396 hS24
            refine then_normal ?_
            have hf398 := hf397.know 89 (u := .bool false) rfl (congrArg Value.bool (by rw [hx2.2 _ (bne_iff_ne.1 g80_17), beq_self_eq_true]; rfl))
            refine code_if_false hf398 rfl ?_
            refine wp_skip ?_
            refine block_normal ?_
            refine then_normal ?_
            refine seq_start (l := [0, 1]) rfl ?_
            refine seq_one (op_val (v := .int .i64 4) hf398 rfl rfl rfl rfl rfl rfl (r_add (c := 4) rfl rfl (by rfl)) fun ac359 hf399 => ?_)
            refine seq_one (op_val (v := .int .i64 4) hf399 rfl rfl rfl rfl rfl rfl (r_move rfl) fun ac360 hf400 => ?_)
            refine seq_end ?_
            clear hf397 ac358 hf398 ac359 hf399
            refine then_normal ?_
            refine rounds_go ?_
            refine code_seq ?_
            refine seq_start (l := [0]) rfl ?_
            refine seq_one (op_val (v := .bool false) hf400 rfl rfl rfl rfl rfl rfl (r_lssC rfl rfl (by decide)) fun ac361 hf401 => ?_)
            refine seq_end ?_
            clear ac360 hf400
            refine then_normal ?_
            refine code_seq ?_
            refine code_if_false hf401 rfl ?_
            refine wp_exit ?_
            refine then_exit ?_
            refine then_exit ?_
            refine block_here ?_
            refine then_normal ?_
            refine code_seq ?_
            refine seq_start (l := [0, 1]) rfl ?_
            refine seq_one (op_pure hf401 rfl rfl rfl rfl ca_33 awake5_pur hI60 fun ac362 wd45 hI61 hf402 => ?_)
            refine seq_one (op_val (v := .bool true) hf402 rfl rfl rfl rfl rfl rfl (r_assign rfl) fun ac363 hf403 => ?_)
            refine seq_end ?_
            clear ac361 wd44 hI60 hf401 ac362 hf402
            refine then_normal ?_
            refine wp_ret ?_
            refine post1 rfl hf403 rfl ⟨?_, hI61.done (fk_app (fresh_keys (ks := [b1, b2, b3, b4, b5]) rfl (fk_cons hb1 (fk_cons hb2 (fk_cons hb3 (fk_cons hb4 (fk_cons hb5 fk_nil)))))) (fk_app (fk_app (fk_app (fk_app (fk_app hyq6 hyq7) hyq8) hyq9) hyq10) hyq11))⟩
            rfl
          · have hf404 := hf387.know 80 (u := .bool false) rfl (congrArg Value.bool g80_17)
            refine any_skip (i := 4) hf404 rfl rfl rfl rfl (fun _ _ _ h => h) (by kernel_rfl) (by kernel_rfl) (by kernel_rfl) hS22 fun ac364 hf405 => ?_
            refine any_skip (i := 5) hf405 rfl rfl rfl rfl (fun _ _ _ h => h) (by kernel_rfl) (by kernel_rfl) (by kernel_rfl) hS22 fun ac365 hf406 => ?_
            refine any_skip (i := 6) hf406 rfl rfl rfl rfl (fun _ _ _ h => h) (by kernel_rfl) (by kernel_rfl) (by kernel_rfl) hS22 fun ac366 hf407 => ?_
            refine any_skip (i := 7) hf407 rfl rfl rfl rfl (fun _ _ _ h => h) (by kernel_rfl) (by kernel_rfl) (by kernel_rfl) hS22 fun ac367 hf408 => ?_
            refine any_skip (i := 8) hf408 rfl rfl rfl rfl (fun _ _ _ h => h) (by kernel_rfl) (by kernel_rfl) (by kernel_rfl) hS22 fun ac368 hf409 => ?_
            refine any_skip (i := 9) hf409 rfl rfl rfl rfl (fun _ _ _ h => h) (by kernel_rfl) (by kernel_rfl) (by kernel_rfl) hS22 fun ac369 hf410 => ?_
            refine any_skip (i := 10) hf410 rfl rfl rfl rfl (fun _ _ _ h => h) (by kernel_rfl) (by kernel_rfl) (by kernel_rfl) hS22 fun ac370 hf411 => ?_
            refine any_skip (i := 11) hf411 rfl rfl rfl rfl (fun _ _ _ h => h) (by kernel_rfl) (by kernel_rfl) (by kernel_rfl) hS22 fun ac371 hf412 => ?_
            refine any_val (i := 12) (v := .bool false) hf412 rfl rfl rfl rfl rfl rfl (fun _ _ _ h => h) (by kernel_rfl) (by kernel_rfl) (by kernel_rfl) (fun wd24 hS22 => (r_pickF rfl rfl)) hS22 fun ac372 hf413 => ?_
            refine any_end (by kernel_rfl) ?_
            clear hI50 ac345 hf383 ac346 hf384 ac347 hf385 ac348 hf386 hf387 ac349 hf404 ac364 hf405 ac365 hf406 ac366 hf407 ac367 hf408 ac368 hf409 ac369 hf410 ac370 hf411 ac371 hf412 hS22
            refine then_normal ?_
            refine code_if_false hf413 rfl ?_
            refine wp_skip ?_
            refine block_normal ?_
            refine then_normal ?_
            refine seq_start (l := [0, 1]) rfl ?_
            refine seq_one (op_val (v := .int .i64 4) hf413 rfl rfl rfl rfl rfl rfl (r_add (c := 4) rfl rfl (by rfl)) fun ac373 hf414 => ?_)
            refine seq_one (op_val (v := .int .i64 4) hf414 rfl rfl rfl rfl rfl rfl (r_move rfl) fun ac374 hf415 => ?_)
            refine seq_end ?_
            clear ac372 hf413 ac373 hf414
            refine then_normal ?_
            refine rounds_go ?_
            refine code_seq ?_
            refine seq_start (l := [0]) rfl ?_
            refine seq_one (op_val (v := .bool false) hf415 rfl rfl rfl rfl rfl rfl (r_lssC rfl rfl (by decide)) fun ac375 hf416 => ?_)
            refine seq_end ?_
            clear ac374 hf415
            refine then_normal ?_
            refine code_seq ?_
            refine code_if_false hf416 rfl ?_
            refine wp_exit ?_
            refine then_exit ?_
            refine then_exit ?_
            refine block_here ?_
            refine then_normal ?_
            refine code_seq ?_
            refine seq_start (l := [0, 1]) rfl ?_
            refine seq_one (op_pure hf416 rfl rfl rfl rfl ca_33 awake5_pur hI58 fun ac376 wd46 hI62 hf417 => ?_)
            refine seq_one (op_val (v := .bool true) hf417 rfl rfl rfl rfl rfl rfl (r_assign rfl) fun ac377 hf418 => ?_)
            refine seq_end ?_
            clear ac375 wd24 hI58 hf416 ac376 hf417
            refine then_normal ?_
            refine wp_ret ?_
            refine post1 rfl hf418 rfl ⟨?_, hI62.done (fk_app (fresh_keys (ks := [b1, b2, b3, b4, b5]) rfl (fk_cons hb1 (fk_cons hb2 (fk_cons hb3 (fk_cons hb4 (fk_cons hb5 fk_nil)))))) (fk_app (fk_app (fk_app (fk_app hyq6 hyq7) hyq8) hyq9) hyq10))⟩
            rfl
    · have hf419 := hf157.know 80 (u := .bool false) rfl (congrArg Value.bool g80_10)
      refine any_skip (i := 4) hf419 rfl rfl rfl rfl (fun _ _ _ h => h) (by kernel_rfl) (by kernel_rfl) (by kernel_rfl) hS1 fun ac378 hf420 => ?_
      refine any_skip (i := 5) hf420 rfl rfl rfl rfl (fun _ _ _ h => h) (by kernel_rfl) (by kernel_rfl) (by kernel_rfl) hS1 fun ac379 hf421 => ?_
      refine any_skip (i := 6) hf421 rfl rfl rfl rfl (fun _ _ _ h => h) (by kernel_rfl) (by kernel_rfl) (by kernel_rfl) hS1 fun ac380 hf422 => ?_
      refine any_skip (i := 7) hf422 rfl rfl rfl rfl (fun _ _ _ h => h) (by kernel_rfl) (by kernel_rfl) (by kernel_rfl) hS1 fun ac381 hf423 => ?_
      refine any_skip (i := 8) hf423 rfl rfl rfl rfl (fun _ _ _ h => h) (by kernel_rfl) (by kernel_rfl) (by kernel_rfl) hS1 fun ac382 hf424 => ?_
      refine any_skip (i := 9) hf424 rfl rfl rfl rfl (fun _ _ _ h => h) (by kernel_rfl) (by kernel_rfl) (by kernel_rfl) hS1 fun ac383 hf425 => ?_
      refine any_skip (i := 10) hf425 rfl rfl rfl rfl (fun _ _ _ h => h) (by kernel_rfl) (by kernel_rfl) (by kernel_rfl) hS1 fun ac384 hf426 => ?_
      refine any_skip (i := 11) hf426 rfl rfl rfl rfl (fun _ _ _ h => h) (by kernel_rfl) (by kernel_rfl) (by kernel_rfl) hS1 fun ac385 hf427 => ?_
      refine any_val (i := 12) (v := .bool false) hf427 rfl rfl rfl rfl rfl rfl (fun _ _ _ h => h) (by kernel_rfl) (by kernel_rfl) (by kernel_rfl) (fun wd11 hS1 => (r_pickF rfl rfl)) hS1 fun ac386 hf428 => ?_
      refine any_end (by kernel_rfl) ?_
      clear hI17 ac135 hf153 ac136 hf154 ac137 hf155 ac138 hf156 hf157 ac139 hf419 ac378 hf420 ac379 hf421 ac380 hf422 ac381 hf423 ac382 hf424 ac383 hf425 ac384 hf426 ac385 hf427 hS1
      refine then_normal ?_
      refine code_if_false hf428 rfl ?_
      refine wp_skip ?_
      refine block_normal ?_
      refine then_normal ?_
      refine seq_start (l := [0, 1]) rfl ?_
      refine seq_one (op_val (v := .int .i64 1) hf428 rfl rfl rfl rfl rfl rfl (r_add (c := 1) rfl rfl (by rfl)) fun ac387 hf429 => ?_)
      refine seq_one (op_val (v := .int .i64 1) hf429 rfl rfl rfl rfl rfl rfl (r_move rfl) fun ac388 hf430 => ?_)
      refine seq_end ?_
      clear ac386 hf428 ac387 hf429
      refine then_normal ?_
      refine rounds_go ?_
      refine code_seq ?_
      refine seq_start (l := [0]) rfl ?_
      refine seq_one (op_val (v := .bool true) hf430 rfl rfl rfl rfl rfl rfl (r_lssC rfl rfl (by decide)) fun ac389 hf431 => ?_)
      refine seq_end ?_
      clear ac388 hf430
      refine then_normal ?_
      refine code_seq ?_
      refine code_if_true hf431 rfl ?_
      refine wp_skip ?_
      refine then_normal ?_
      refine code_seq ?_
      refine wp_block ?_
      refine code_seq ?_
      refine seq_start (l := [0, 1]) rfl ?_
      refine seq_one (op_val (v := .int .i64 1) hf431 rfl rfl rfl rfl rfl rfl (r_move rfl) fun ac390 hf432 => ?_)
      refine seq_one (op_val (v := .int .i64 1) hf432 rfl rfl rfl rfl rfl rfl (r_assign rfl) fun ac391 hf433 => ?_)
      refine seq_end ?_
      clear ac389 hf431 ac390 hf432
      refine then_normal ?_
      refine code_seq ?_
      refine any_start (fun w => Has [(b5, #[.slice q6 ((c4.lst 0).length) capq6, .slice q7 ((c4.lst 1).length) capq7, .slice q8 ((c4.lst 2).length) capq8, .slice q9 ((c4.lst 3).length) capq9], 53)] w) follows (Has.drew (Has.cons (hI31.at 4 rfl) Has.nil)) ?_
      have hS25 : Has [(b5, #[.slice q6 ((c4.lst 0).length) capq6, .slice q7 ((c4.lst 1).length) capq7, .slice q8 ((c4.lst 2).length) capq8, .slice q9 ((c4.lst 3).length) capq9], 53)] _ := Has.drew (Has.cons (hI31.at 4 rfl) Has.nil)
      have hI63 := hI31.drew
      refine any_val (i := 0) (v := .int .i64 1) hf433 rfl rfl rfl rfl rfl rfl (fun _ _ _ h => h) (by kernel_rfl) (by kernel_rfl) (by kernel_rfl) (fun wd11 hS25 => (r_move rfl)) hS25 fun ac392 hf434 => ?_
      refine any_val (i := 1) (v := .int .i64 k) hf434 rfl rfl rfl rfl rfl rfl (fun _ _ _ h => h) (by kernel_rfl) (by kernel_rfl) (by kernel_rfl) (fun wd11 hS25 => (r_move rfl)) hS25 fun ac393 hf435 => ?_
      refine any_val (i := 2) (v := .bool (1 != k)) hf435 rfl rfl rfl rfl rfl rfl (fun _ _ _ h => h) (by kernel_rfl) (by kernel_rfl) (by kernel_rfl) (fun wd11 hS25 => (r_neq rfl rfl)) hS25 fun ac394 hf436 => ?_
      refine any_val (i := 3) (v := .bool (1 != k)) hf436 rfl rfl rfl rfl rfl rfl (fun _ _ _ h => h) (by kernel_rfl) (by kernel_rfl) (by kernel_rfl) (fun wd11 hS25 => (r_move rfl)) hS25 fun ac395 hf437 => ?_
      rcases Bool.eq_false_or_eq_true (1 != k : Bool) with g80_18 | g80_18
      · have hf438 := hf437.know 80 (u := .bool true) rfl (congrArg Value.bool g80_18)
        refine any_val (i := 4) (v := .pointer (some ⟨b4, 0, none⟩)) hf438 rfl rfl rfl rfl rfl rfl (fun _ _ _ h => h) (by kernel_rfl) (by kernel_rfl) (by kernel_rfl) (fun wd11 hS25 => (r_move rfl)) hS25 fun ac396 hf439 => ?_
        refine any_val (i := 5) (v := .int .i64 1) hf439 rfl rfl rfl rfl rfl rfl (fun _ _ _ h => h) (by kernel_rfl) (by kernel_rfl) (by kernel_rfl) (fun wd11 hS25 => (r_move rfl)) hS25 fun ac397 hf440 => ?_
        refine any_val (i := 7) (v := .int .i64 1) hf440 rfl rfl rfl rfl rfl rfl (fun _ _ _ h => h) (by kernel_rfl) (by kernel_rfl) (by kernel_rfl) (fun wd11 hS25 => (r_move rfl)) hS25 fun ac398 hf441 => ?_
        refine any_val (i := 8) (v := .pointer (some ⟨b5, 1, none⟩)) hf441 rfl rfl rfl rfl rfl rfl (fun _ _ _ h => h) (by kernel_rfl) (by kernel_rfl) (by kernel_rfl) (fun wd11 hS25 => (r_indexAddr (i := 1) ar_53 rfl rfl rfl (by decide) rfl)) hS25 fun ac399 hf442 => ?_
        refine any_val (i := 9) (v := .slice q7 ((c4.lst 1).length) capq7) hf442 rfl rfl rfl rfl rfl rfl (fun _ _ _ h => h) (by kernel_rfl) (by kernel_rfl) (by kernel_rfl) (fun wd11 hS25 => (r_load ag_27 rfl (hS25.at 0 rfl) rfl)) hS25 fun ac400 hf443 => ?_
        refine any_one (i := 6) (by kernel_rfl) ?_
        refine (op_call (R := fun v w' => ∃ S p cap, v = .slice p (d.lst 1).length cap ∧ Sl 3 .i64 S p cap (d.lst 1) ∧ Inv _ S w' ∧ ∀ x ∈ S, Array.size (World.heap _) ≤ x.1) hf443 rfl rfl rfl rfl ca_28 ((list_any (hI63.nd 0 rfl rfl rfl rfl) d (Has.cons (hI63.at 0 rfl) (Has.cons (hI63.at 1 rfl) (Has.cons (hI63.at 2 rfl) (Has.cons (hI63.at 3 rfl) Has.nil)))) 1).mono fun _ _ ⟨S, p, cap, he, h1, h3, h4⟩ => ⟨_, he, S, p, cap, rfl, h1, h3, h4⟩) fun ac401 v wd47 hR hf444 => ?_)
        obtain ⟨Sq10, q10, capq10, rfl, hsq10, hwq10, hzq10⟩ := hR
        have hyq10 := fk_le hI63.size hzq10
        have hI64 : Inv w ([(b1, arr .i64 d.lk, 103), (b2, arr .i64 d.of, 3), (b3, arr .i64 d.mn, 3), (b4, #[.slice (some ⟨b1, 0, none⟩) (20 + 4) (20 + 4), .slice (some ⟨b2, 0, none⟩) 20 20, .slice (some ⟨b3, 0, none⟩) 4 4], 79), (b5, #[.slice q6 ((c4.lst 0).length) capq6, .slice q7 ((c4.lst 1).length) capq7, .slice q8 ((c4.lst 2).length) capq8, .slice q9 ((c4.lst 3).length) capq9], 53)] ++ ((((Sq6 ++ Sq7) ++ Sq8) ++ Sq9) ++ Sq10)) _ := hI63.callN hwq10 hzq10
        refine ⟨?_, ?_⟩
        · exact (Has.cons (hI64.at 4 rfl) Has.nil)
        have hS26 : Has [(b5, #[.slice q6 ((c4.lst 0).length) capq6, .slice q7 ((c4.lst 1).length) capq7, .slice q8 ((c4.lst 2).length) capq8, .slice q9 ((c4.lst 3).length) capq9], 53)] _ := (Has.cons (hI64.at 4 rfl) Has.nil)
        refine any_one (i := 10) (by kernel_rfl) ?_
        refine (op_pureW hf444 rfl rfl rfl rfl ca_19 (ints_walk (xs := (d.lst 1)) (ys := (c4.lst 1)) rfl rfl (Nat.le_trans (Ch.lst_le _ _) (by omega)) (hsq10.rd hI64 (fun x hx => List.mem_append_right _ (List.mem_append_right _ hx))) (hsq7.rd hI64 (fun x hx => List.mem_append_right _ (List.mem_append_left _ (List.mem_append_left _ (List.mem_append_left _ (List.mem_append_right _ hx))))))) hI64 fun ac402 wd48 hI65 hf445 => ⟨?_, ?_⟩)
        · exact (Has.cons (hI65.at 4 rfl) Has.nil)
        have hS27 : Has [(b5, #[.slice q6 ((c4.lst 0).length) capq6, .slice q7 ((c4.lst 1).length) capq7, .slice q8 ((c4.lst 2).length) capq8, .slice q9 ((c4.lst 3).length) capq9], 53)] _ := (Has.cons (hI65.at 4 rfl) Has.nil)
        refine any_val (i := 11) (v := .bool (!((d.lst 1) == (c4.lst 1)))) hf445 rfl rfl rfl rfl rfl rfl (fun _ _ _ h => h) (by kernel_rfl) (by kernel_rfl) (by kernel_rfl) (fun wd48 hS27 => (r_not rfl)) hS27 fun ac403 hf446 => ?_
        refine any_val (i := 12) (v := .bool (!((d.lst 1) == (c4.lst 1)))) hf446 rfl rfl rfl rfl rfl rfl (fun _ _ _ h => h) (by kernel_rfl) (by kernel_rfl) (by kernel_rfl) (fun wd48 hS27 => (r_pickT rfl rfl)) hS27 fun ac404 hf447 => ?_
        refine any_end (by kernel_rfl) ?_
        clear hI31 ac391 hf433 ac392 hf434 ac393 hf435 ac394 hf436 hf437 ac395 hf438 ac396 hf439 ac397 hf440 ac398 hf441 ac399 hf442 ac400 wd11 hf443 hI63 hwq10 hzq10 hS25 ac401 wd47 hI64 hf444 hS26 ac402 hf445 ac403 hf446 hS27
        refine then_normal ?_
        have hf448 := hf447.know 89 (u := .bool false) rfl (congrArg Value.bool (by rw [hx2.2 _ (bne_iff_ne.1 g80_18), beq_self_eq_true]; rfl))
        refine code_if_false hf448 rfl ?_
        refine wp_skip ?_
        refine block_normal ?_
        refine then_normal ?_
        refine seq_start (l := [0, 1]) rfl ?_
        refine seq_one (op_val (v := .int .i64 2) hf448 rfl rfl rfl rfl rfl rfl (r_add (c := 2) rfl rfl (by rfl)) fun ac405 hf449 => ?_)
        refine seq_one (op_val (v := .int .i64 2) hf449 rfl rfl rfl rfl rfl rfl (r_move rfl) fun ac406 hf450 => ?_)
        refine seq_end ?_
        clear hf447 ac404 hf448 ac405 hf449
        refine then_normal ?_
        refine rounds_go ?_
        refine code_seq ?_
        refine seq_start (l := [0]) rfl ?_
        refine seq_one (op_val (v := .bool true) hf450 rfl rfl rfl rfl rfl rfl (r_lssC rfl rfl (by decide)) fun ac407 hf451 => ?_)
        refine seq_end ?_
        clear ac406 hf450
        refine then_normal ?_
        refine code_seq ?_
        refine code_if_true hf451 rfl ?_
        refine wp_skip ?_
        refine then_normal ?_
        refine code_seq ?_
        refine wp_block ?_
        refine code_seq ?_
        refine seq_start (l := [0, 1]) rfl ?_
        refine seq_one (op_val (v := .int .i64 2) hf451 rfl rfl rfl rfl rfl rfl (r_move rfl) fun ac408 hf452 => ?_)
        refine seq_one (op_val (v := .int .i64 2) hf452 rfl rfl rfl rfl rfl rfl (r_assign rfl) fun ac409 hf453 => ?_)
        refine seq_end ?_
        clear ac407 hf451 ac408 hf452
        refine then_normal ?_
        refine code_seq ?_
        refine any_start (fun w => Has [(b5, #[.slice q6 ((c4.lst 0).length) capq6, .slice q7 ((c4.lst 1).length) capq7, .slice q8 ((c4.lst 2).length) capq8, .slice q9 ((c4.lst 3).length) capq9], 53)] w) follows (Has.drew (Has.cons (hI65.at 4 rfl) Has.nil)) ?_
        have hS28 : Has [(b5, #[.slice q6 ((c4.lst 0).length) capq6, .slice q7 ((c4.lst 1).length) capq7, .slice q8 ((c4.lst 2).length) capq8, .slice q9 ((c4.lst 3).length) capq9], 53)] _ := Has.drew (Has.cons (hI65.at 4 rfl) Has.nil)
        have hI66 := hI65.drew
        refine any_val (i := 0) (v := .int .i64 2) hf453 rfl rfl rfl rfl rfl rfl (fun _ _ _ h => h) (by kernel_rfl) (by kernel_rfl) (by kernel_rfl) (fun wd48 hS28 => (r_move rfl)) hS28 fun ac410 hf454 => ?_
        refine any_val (i := 1) (v := .int .i64 k) hf454 rfl rfl rfl rfl rfl rfl (fun _ _ _ h => h) (by kernel_rfl) (by kernel_rfl) (by kernel_rfl) (fun wd48 hS28 => (r_move rfl)) hS28 fun ac411 hf455 => ?_
        refine any_val (i := 2) (v := .bool (2 != k)) hf455 rfl rfl rfl rfl rfl rfl (fun _ _ _ h => h) (by kernel_rfl) (by kernel_rfl) (by kernel_rfl) (fun wd48 hS28 => (r_neq rfl rfl)) hS28 fun ac412 hf456 => ?_
        refine any_val (i := 3) (v := .bool (2 != k)) hf456 rfl rfl rfl rfl rfl rfl (fun _ _ _ h => h) (by kernel_rfl) (by kernel_rfl) (by kernel_rfl) (fun wd48 hS28 => (r_move rfl)) hS28 fun ac413 hf457 => ?_
        rcases Bool.eq_false_or_eq_true (2 != k : Bool) with g80_19 | g80_19
        · have hf458 := hf457.know 80 (u := .bool true) rfl (congrArg Value.bool g80_19)
          refine any_val (i := 4) (v := .pointer (some ⟨b4, 0, none⟩)) hf458 rfl rfl rfl rfl rfl rfl (fun _ _ _ h => h) (by kernel_rfl) (by kernel_rfl) (by kernel_rfl) (fun wd48 hS28 => (r_move rfl)) hS28 fun ac414 hf459 => ?_
          refine any_val (i := 5) (v := .int .i64 2) hf459 rfl rfl rfl rfl rfl rfl (fun _ _ _ h => h) (by kernel_rfl) (by kernel_rfl) (by kernel_rfl) (fun wd48 hS28 => (r_move rfl)) hS28 fun ac415 hf460 => ?_
          refine any_val (i := 7) (v := .int .i64 2) hf460 rfl rfl rfl rfl rfl rfl (fun _ _ _ h => h) (by kernel_rfl) (by kernel_rfl) (by kernel_rfl) (fun wd48 hS28 => (r_move rfl)) hS28 fun ac416 hf461 => ?_
          refine any_val (i := 8) (v := .pointer (some ⟨b5, 2, none⟩)) hf461 rfl rfl rfl rfl rfl rfl (fun _ _ _ h => h) (by kernel_rfl) (by kernel_rfl) (by kernel_rfl) (fun wd48 hS28 => (r_indexAddr (i := 2) ar_53 rfl rfl rfl (by decide) rfl)) hS28 fun ac417 hf462 => ?_
          refine any_val (i := 9) (v := .slice q8 ((c4.lst 2).length) capq8) hf462 rfl rfl rfl rfl rfl rfl (fun _ _ _ h => h) (by kernel_rfl) (by kernel_rfl) (by kernel_rfl) (fun wd48 hS28 => (r_load ag_27 rfl (hS28.at 0 rfl) rfl)) hS28 fun ac418 hf463 => ?_
          refine any_one (i := 6) (by kernel_rfl) ?_
          refine (op_call (R := fun v w' => ∃ S p cap, v = .slice p (d.lst 2).length cap ∧ Sl 3 .i64 S p cap (d.lst 2) ∧ Inv _ S w' ∧ ∀ x ∈ S, Array.size (World.heap _) ≤ x.1) hf463 rfl rfl rfl rfl ca_28 ((list_any (hI66.nd 0 rfl rfl rfl rfl) d (Has.cons (hI66.at 0 rfl) (Has.cons (hI66.at 1 rfl) (Has.cons (hI66.at 2 rfl) (Has.cons (hI66.at 3 rfl) Has.nil)))) 2).mono fun _ _ ⟨S, p, cap, he, h1, h3, h4⟩ => ⟨_, he, S, p, cap, rfl, h1, h3, h4⟩) fun ac419 v wd49 hR hf464 => ?_)
          obtain ⟨Sq11, q11, capq11, rfl, hsq11, hwq11, hzq11⟩ := hR
          have hyq11 := fk_le hI66.size hzq11
          have hI67 : Inv w ([(b1, arr .i64 d.lk, 103), (b2, arr .i64 d.of, 3), (b3, arr .i64 d.mn, 3), (b4, #[.slice (some ⟨b1, 0, none⟩) (20 + 4) (20 + 4), .slice (some ⟨b2, 0, none⟩) 20 20, .slice (some ⟨b3, 0, none⟩) 4 4], 79), (b5, #[.slice q6 ((c4.lst 0).length) capq6, .slice q7 ((c4.lst 1).length) capq7, .slice q8 ((c4.lst 2).length) capq8, .slice q9 ((c4.lst 3).length) capq9], 53)] ++ (((((Sq6 ++ Sq7) ++ Sq8) ++ Sq9) ++ Sq10) ++ Sq11)) _ := hI66.callN hwq11 hzq11
          refine ⟨?_, ?_⟩
          · exact (Has.cons (hI67.at 4 rfl) Has.nil)
          have hS29 : Has [(b5, #[.slice q6 ((c4.lst 0).length) capq6, .slice q7 ((c4.lst 1).length) capq7, .slice q8 ((c4.lst 2).length) capq8, .slice q9 ((c4.lst 3).length) capq9], 53)] _ := (Has.cons (hI67.at 4 rfl) Has.nil)
          refine any_one (i := 10) (by kernel_rfl) ?_
          refine (op_pureW hf464 rfl rfl rfl rfl ca_19 (ints_walk (xs := (d.lst 2)) (ys := (c4.lst 2)) rfl rfl (Nat.le_trans (Ch.lst_le _ _) (by omega)) (hsq11.rd hI67 (fun x hx => List.mem_append_right _ (List.mem_append_right _ hx))) (hsq8.rd hI67 (fun x hx => List.mem_append_right _ (List.mem_append_left _ (List.mem_append_left _ (List.mem_append_left _ (List.mem_append_right _ hx))))))) hI67 fun ac420 wd50 hI68 hf465 => ⟨?_, ?_⟩)
          · exact (Has.cons (hI68.at 4 rfl) Has.nil)
          have hS30 : Has [(b5, #[.slice q6 ((c4.lst 0).length) capq6, .slice q7 ((c4.lst 1).length) capq7, .slice q8 ((c4.lst 2).length) capq8, .slice q9 ((c4.lst 3).length) capq9], 53)] _ := (Has.cons (hI68.at 4 rfl) Has.nil)
          refine any_val (i := 11) (v := .bool (!((d.lst 2) == (c4.lst 2)))) hf465 rfl rfl rfl rfl rfl rfl (fun _ _ _ h => h) (by kernel_rfl) (by kernel_rfl) (by kernel_rfl) (fun wd50 hS30 => (r_not rfl)) hS30 fun ac421 hf466 => ?_
          refine any_val (i := 12) (v := .bool (!((d.lst 2) == (c4.lst 2)))) hf466 rfl rfl rfl rfl rfl rfl (fun _ _ _ h => h) (by kernel_rfl) (by kernel_rfl) (by kernel_rfl) (fun wd50 hS30 => (r_pickT rfl rfl)) hS30 fun ac422 hf467 => ?_
          refine any_end (by kernel_rfl) ?_
          clear hI65 ac409 hf453 ac410 hf454 ac411 hf455 ac412 hf456 hf457 ac413 hf458 ac414 hf459 ac415 hf460 ac416 hf461 ac417 hf462 ac418 wd48 hf463 hI66 hwq11 hzq11 hS28 ac419 wd49 hI67 hf464 hS29 ac420 hf465 ac421 hf466 hS30
          refine then_normal ?_
          have hf468 := hf467.know 89 (u := .bool false) rfl (congrArg Value.bool (by rw [hx2.2 _ (bne_iff_ne.1 g80_19), beq_self_eq_true]; rfl))
          refine code_if_false hf468 rfl ?_
          refine wp_skip ?_
          refine block_normal ?_
          refine then_normal ?_
          refine seq_start (l := [0, 1]) rfl ?_
          refine seq_one (op_val (v := .int .i64 3) hf468 rfl rfl rfl rfl rfl rfl (r_add (c := 3) rfl rfl (by rfl)) fun ac423 hf469 => ?_)
          refine seq_one (op_val (v := .int .i64 3) hf469 rfl rfl rfl rfl rfl rfl (r_move rfl) fun ac424 hf470 => ?_)
          refine seq_end ?_
          clear hf467 ac422 hf468 ac423 hf469
          refine then_normal ?_
          refine rounds_go ?_
          refine code_seq ?_
          refine seq_start (l := [0]) rfl ?_
          refine seq_one (op_val (v := .bool true) hf470 rfl rfl rfl rfl rfl rfl (r_lssC rfl rfl (by decide)) fun ac425 hf471 => ?_)
          refine seq_end ?_
          clear ac424 hf470
          refine then_normal ?_
          refine code_seq ?_
          refine code_if_true hf471 rfl ?_
          refine wp_skip ?_
          refine then_normal ?_
          refine code_seq ?_
          refine wp_block ?_
          refine code_seq ?_
          refine seq_start (l := [0, 1]) rfl ?_
          refine seq_one (op_val (v := .int .i64 3) hf471 rfl rfl rfl rfl rfl rfl (r_move rfl) fun ac426 hf472 => ?_)
          refine seq_one (op_val (v := .int .i64 3) hf472 rfl rfl rfl rfl rfl rfl (r_assign rfl) fun ac427 hf473 => ?_)
          refine seq_end ?_
          clear ac425 hf471 ac426 hf472
          refine then_normal ?_
          refine code_seq ?_
          refine any_start (fun w => Has [(b5, #[.slice q6 ((c4.lst 0).length) capq6, .slice q7 ((c4.lst 1).length) capq7, .slice q8 ((c4.lst 2).length) capq8, .slice q9 ((c4.lst 3).length) capq9], 53)] w) follows (Has.drew (Has.cons (hI68.at 4 rfl) Has.nil)) ?_
          have hS31 : Has [(b5, #[.slice q6 ((c4.lst 0).length) capq6, .slice q7 ((c4.lst 1).length) capq7, .slice q8 ((c4.lst 2).length) capq8, .slice q9 ((c4.lst 3).length) capq9], 53)] _ := Has.drew (Has.cons (hI68.at 4 rfl) Has.nil)
          have hI69 := hI68.drew
          refine any_val (i := 0) (v := .int .i64 3) hf473 rfl rfl rfl rfl rfl rfl (fun _ _ _ h => h) (by kernel_rfl) (by kernel_rfl) (by kernel_rfl) (fun wd50 hS31 => (r_move rfl)) hS31 fun ac428 hf474 => ?_
          refine any_val (i := 1) (v := .int .i64 k) hf474 rfl rfl rfl rfl rfl rfl (fun _ _ _ h => h) (by kernel_rfl) (by kernel_rfl) (by kernel_rfl) (fun wd50 hS31 => (r_move rfl)) hS31 fun ac429 hf475 => ?_
          refine any_val (i := 2) (v := .bool (3 != k)) hf475 rfl rfl rfl rfl rfl rfl (fun _ _ _ h => h) (by kernel_rfl) (by kernel_rfl) (by kernel_rfl) (fun wd50 hS31 => (r_neq rfl rfl)) hS31 fun ac430 hf476 => ?_
          refine any_val (i := 3) (v := .bool (3 != k)) hf476 rfl rfl rfl rfl rfl rfl (fun _ _ _ h => h) (by kernel_rfl) (by kernel_rfl) (by kernel_rfl) (fun wd50 hS31 => (r_move rfl)) hS31 fun ac431 hf477 => ?_
          rcases Bool.eq_false_or_eq_true (3 != k : Bool) with g80_20 | g80_20
          · have hf478 := hf477.know 80 (u := .bool true) rfl (congrArg Value.bool g80_20)
            refine any_val (i := 4) (v := .pointer (some ⟨b4, 0, none⟩)) hf478 rfl rfl rfl rfl rfl rfl (fun _ _ _ h => h) (by kernel_rfl) (by kernel_rfl) (by kernel_rfl) (fun wd50 hS31 => (r_move rfl)) hS31 fun ac432 hf479 => ?_
            refine any_val (i := 5) (v := .int .i64 3) hf479 rfl rfl rfl rfl rfl rfl (fun _ _ _ h => h) (by kernel_rfl) (by kernel_rfl) (by kernel_rfl) (fun wd50 hS31 => (r_move rfl)) hS31 fun ac433 hf480 => ?_
            refine any_val (i := 7) (v := .int .i64 3) hf480 rfl rfl rfl rfl rfl rfl (fun _ _ _ h => h) (by kernel_rfl) (by kernel_rfl) (by kernel_rfl) (fun wd50 hS31 => (r_move rfl)) hS31 fun ac434 hf481 => ?_
            refine any_val (i := 8) (v := .pointer (some ⟨b5, 3, none⟩)) hf481 rfl rfl rfl rfl rfl rfl (fun _ _ _ h => h) (by kernel_rfl) (by kernel_rfl) (by kernel_rfl) (fun wd50 hS31 => (r_indexAddr (i := 3) ar_53 rfl rfl rfl (by decide) rfl)) hS31 fun ac435 hf482 => ?_
            refine any_val (i := 9) (v := .slice q9 ((c4.lst 3).length) capq9) hf482 rfl rfl rfl rfl rfl rfl (fun _ _ _ h => h) (by kernel_rfl) (by kernel_rfl) (by kernel_rfl) (fun wd50 hS31 => (r_load ag_27 rfl (hS31.at 0 rfl) rfl)) hS31 fun ac436 hf483 => ?_
            refine any_one (i := 6) (by kernel_rfl) ?_
            refine (op_call (R := fun v w' => ∃ S p cap, v = .slice p (d.lst 3).length cap ∧ Sl 3 .i64 S p cap (d.lst 3) ∧ Inv _ S w' ∧ ∀ x ∈ S, Array.size (World.heap _) ≤ x.1) hf483 rfl rfl rfl rfl ca_28 ((list_any (hI69.nd 0 rfl rfl rfl rfl) d (Has.cons (hI69.at 0 rfl) (Has.cons (hI69.at 1 rfl) (Has.cons (hI69.at 2 rfl) (Has.cons (hI69.at 3 rfl) Has.nil)))) 3).mono fun _ _ ⟨S, p, cap, he, h1, h3, h4⟩ => ⟨_, he, S, p, cap, rfl, h1, h3, h4⟩) fun ac437 v wd51 hR hf484 => ?_)
            obtain ⟨Sq12, q12, capq12, rfl, hsq12, hwq12, hzq12⟩ := hR
            have hyq12 := fk_le hI69.size hzq12
            have hI70 : Inv w ([(b1, arr .i64 d.lk, 103), (b2, arr .i64 d.of, 3), (b3, arr .i64 d.mn, 3), (b4, #[.slice (some ⟨b1, 0, none⟩) (20 + 4) (20 + 4), .slice (some ⟨b2, 0, none⟩) 20 20, .slice (some ⟨b3, 0, none⟩) 4 4], 79), (b5, #[.slice q6 ((c4.lst 0).length) capq6, .slice q7 ((c4.lst 1).length) capq7, .slice q8 ((c4.lst 2).length) capq8, .slice q9 ((c4.lst 3).length) capq9], 53)] ++ ((((((Sq6 ++ Sq7) ++ Sq8) ++ Sq9) ++ Sq10) ++ Sq11) ++ Sq12)) _ := hI69.callN hwq12 hzq12
            refine ⟨?_, ?_⟩
            · exact (Has.cons (hI70.at 4 rfl) Has.nil)
            have hS32 : Has [(b5, #[.slice q6 ((c4.lst 0).length) capq6, .slice q7 ((c4.lst 1).length) capq7, .slice q8 ((c4.lst 2).length) capq8, .slice q9 ((c4.lst 3).length) capq9], 53)] _ := (Has.cons (hI70.at 4 rfl) Has.nil)
            refine any_one (i := 10) (by kernel_rfl) ?_
            refine (op_pureW hf484 rfl rfl rfl rfl ca_19 (ints_walk (xs := (d.lst 3)) (ys := (c4.lst 3)) rfl rfl (Nat.le_trans (Ch.lst_le _ _) (by omega)) (hsq12.rd hI70 (fun x hx => List.mem_append_right _ (List.mem_append_right _ hx))) (hsq9.rd hI70 (fun x hx => List.mem_append_right _ (List.mem_append_left _ (List.mem_append_left _ (List.mem_append_left _ (List.mem_append_right _ hx))))))) hI70 fun ac438 wd52 hI71 hf485 => ⟨?_, ?_⟩)
            · exact (Has.cons (hI71.at 4 rfl) Has.nil)
            have hS33 : Has [(b5, #[.slice q6 ((c4.lst 0).length) capq6, .slice q7 ((c4.lst 1).length) capq7, .slice q8 ((c4.lst 2).length) capq8, .slice q9 ((c4.lst 3).length) capq9], 53)] _ := (Has.cons (hI71.at 4 rfl) Has.nil)
            refine any_val (i := 11) (v := .bool (!((d.lst 3) == (c4.lst 3)))) hf485 rfl rfl rfl rfl rfl rfl (fun _ _ _ h => h) (by kernel_rfl) (by kernel_rfl) (by kernel_rfl) (fun wd52 hS33 => (r_not rfl)) hS33 fun ac439 hf486 => ?_
            refine any_val (i := 12) (v := .bool (!((d.lst 3) == (c4.lst 3)))) hf486 rfl rfl rfl rfl rfl rfl (fun _ _ _ h => h) (by kernel_rfl) (by kernel_rfl) (by kernel_rfl) (fun wd52 hS33 => (r_pickT rfl rfl)) hS33 fun ac440 hf487 => ?_
            refine any_end (by kernel_rfl) ?_
            clear hI68 ac427 hf473 ac428 hf474 ac429 hf475 ac430 hf476 hf477 ac431 hf478 ac432 hf479 ac433 hf480 ac434 hf481 ac435 hf482 ac436 wd50 hf483 hI69 hwq12 hzq12 hS31 ac437 wd51 hI70 hf484 hS32 ac438 hf485 ac439 hf486 hS33
            refine then_normal ?_
            have hf488 := hf487.know 89 (u := .bool false) rfl (congrArg Value.bool (by rw [hx2.2 _ (bne_iff_ne.1 g80_20), beq_self_eq_true]; rfl))
            refine code_if_false hf488 rfl ?_
            refine wp_skip ?_
            refine block_normal ?_
            refine then_normal ?_
            refine seq_start (l := [0, 1]) rfl ?_
            refine seq_one (op_val (v := .int .i64 4) hf488 rfl rfl rfl rfl rfl rfl (r_add (c := 4) rfl rfl (by rfl)) fun ac441 hf489 => ?_)
            refine seq_one (op_val (v := .int .i64 4) hf489 rfl rfl rfl rfl rfl rfl (r_move rfl) fun ac442 hf490 => ?_)
            refine seq_end ?_
            clear hf487 ac440 hf488 ac441 hf489
            refine then_normal ?_
            refine rounds_go ?_
            refine code_seq ?_
            refine seq_start (l := [0]) rfl ?_
            refine seq_one (op_val (v := .bool false) hf490 rfl rfl rfl rfl rfl rfl (r_lssC rfl rfl (by decide)) fun ac443 hf491 => ?_)
            refine seq_end ?_
            clear ac442 hf490
            refine then_normal ?_
            refine code_seq ?_
            refine code_if_false hf491 rfl ?_
            refine wp_exit ?_
            refine then_exit ?_
            refine then_exit ?_
            refine block_here ?_
            refine then_normal ?_
            refine code_seq ?_
            refine seq_start (l := [0, 1]) rfl ?_
            refine seq_one (op_pure hf491 rfl rfl rfl rfl ca_33 awake5_pur hI71 fun ac444 wd53 hI72 hf492 => ?_)
            refine seq_one (op_val (v := .bool true) hf492 rfl rfl rfl rfl rfl rfl (r_assign rfl) fun ac445 hf493 => ?_)
            refine seq_end ?_
            clear ac443 wd52 hI71 hf491 ac444 hf492
            refine then_normal ?_
            refine wp_ret ?_
            refine post1 rfl hf493 rfl ⟨?_, hI72.done (fk_app (fresh_keys (ks := [b1, b2, b3, b4, b5]) rfl (fk_cons hb1 (fk_cons hb2 (fk_cons hb3 (fk_cons hb4 (fk_cons hb5 fk_nil)))))) (fk_app (fk_app (fk_app (fk_app (fk_app (fk_app hyq6 hyq7) hyq8) hyq9) hyq10) hyq11) hyq12))⟩
            rfl
          · have hf494 := hf477.know 80 (u := .bool false) rfl (congrArg Value.bool g80_20)
            refine any_skip (i := 4) hf494 rfl rfl rfl rfl (fun _ _ _ h => h) (by kernel_rfl) (by kernel_rfl) (by kernel_rfl) hS31 fun ac446 hf495 => ?_
            refine any_skip (i := 5) hf495 rfl rfl rfl rfl (fun _ _ _ h => h) (by kernel_rfl) (by kernel_rfl) (by kernel_rfl) hS31 fun ac447 hf496 => ?_
            refine any_skip (i := 6) hf496 rfl rfl rfl rfl (fun _ _ _ h => h) (by kernel_rfl) (by kernel_rfl) (by kernel_rfl) hS31 fun ac448 hf497 => ?_
            refine any_skip (i := 7) hf497 rfl rfl rfl rfl (fun _ _ _ h => h) (by kernel_rfl) (by kernel_rfl) (by kernel_rfl) hS31 fun ac449 hf498 => ?_
            refine any_skip (i := 8) hf498 rfl rfl rfl rfl (fun _ _ _ h => h) (by kernel_rfl) (by kernel_rfl) (by kernel_rfl) hS31 fun ac450 hf499 => ?_
            refine any_skip (i := 9) hf499 rfl rfl rfl rfl (fun _ _ _ h => h) (by kernel_rfl) (by kernel_rfl) (by kernel_rfl) hS31 fun ac451 hf500 => ?_
            refine any_skip (i := 10) hf500 rfl rfl rfl rfl (fun _ _ _ h => h) (by kernel_rfl) (by kernel_rfl) (by kernel_rfl) hS31 fun ac452 hf501 => ?_
            refine any_skip (i := 11) hf501 rfl rfl rfl rfl (fun _ _ _ h => h) (by kernel_rfl) (by kernel_rfl) (by kernel_rfl) hS31 fun ac453 hf502 => ?_
            refine any_val (i := 12) (v := .bool false) hf502 rfl rfl rfl rfl rfl rfl (fun _ _ _ h => h) (by kernel_rfl) (by kernel_rfl) (by kernel_rfl) (fun wd50 hS31 => (r_pickF rfl rfl)) hS31 fun ac454 hf503 => ?_
            refine any_end (by kernel_rfl) ?_
            clear hI68 ac427 hf473 ac428 hf474 ac429 hf475 ac430 hf476 hf477 ac431 hf494 ac446 hf495 ac447 hf496 ac448 hf497 ac449 hf498 ac450 hf499 ac451 hf500 ac452 hf501 ac453 hf502 hS31
            refine then_normal ?_
            refine code_if_false hf503 rfl ?_
            refine wp_skip ?_
            refine block_normal ?_
            refine then_normal ?_
            refine seq_start (l := [0, 1]) rfl ?_
            refine seq_one (op_val (v := .int .i64 4) hf503 rfl rfl rfl rfl rfl rfl (r_add (c := 4) rfl rfl (by rfl)) fun ac455 hf504 => ?_)
            refine seq_one (op_val (v := .int .i64 4) hf504 rfl rfl rfl rfl rfl rfl (r_move rfl) fun ac456 hf505 => ?_)
            refine seq_end ?_
            clear ac454 hf503 ac455 hf504
            refine then_normal ?_
            refine rounds_go ?_
            refine code_seq ?_
            refine seq_start (l := [0]) rfl ?_
            refine seq_one (op_val (v := .bool false) hf505 rfl rfl rfl rfl rfl rfl (r_lssC rfl rfl (by decide)) fun ac457 hf506 => ?_)
            refine seq_end ?_
            clear ac456 hf505
            refine then_normal ?_
            refine code_seq ?_
            refine code_if_false hf506 rfl ?_
            refine wp_exit ?_
            refine then_exit ?_
            refine then_exit ?_
            refine block_here ?_
            refine then_normal ?_
            refine code_seq ?_
            refine seq_start (l := [0, 1]) rfl ?_
            refine seq_one (op_pure hf506 rfl rfl rfl rfl ca_33 awake5_pur hI69 fun ac458 wd54 hI73 hf507 => ?_)
            refine seq_one (op_val (v := .bool true) hf507 rfl rfl rfl rfl rfl rfl (r_assign rfl) fun ac459 hf508 => ?_)
            refine seq_end ?_
            clear ac457 wd50 hI69 hf506 ac458 hf507
            refine then_normal ?_
            refine wp_ret ?_
            refine post1 rfl hf508 rfl ⟨?_, hI73.done (fk_app (fresh_keys (ks := [b1, b2, b3, b4, b5]) rfl (fk_cons hb1 (fk_cons hb2 (fk_cons hb3 (fk_cons hb4 (fk_cons hb5 fk_nil)))))) (fk_app (fk_app (fk_app (fk_app (fk_app hyq6 hyq7) hyq8) hyq9) hyq10) hyq11))⟩
            rfl
        · have hf509 := hf457.know 80 (u := .bool false) rfl (congrArg Value.bool g80_19)
          refine any_skip (i := 4) hf509 rfl rfl rfl rfl (fun _ _ _ h => h) (by kernel_rfl) (by kernel_rfl) (by kernel_rfl) hS28 fun ac460 hf510 => ?_
          refine any_skip (i := 5) hf510 rfl rfl rfl rfl (fun _ _ _ h => h) (by kernel_rfl) (by kernel_rfl) (by kernel_rfl) hS28 fun ac461 hf511 => ?_
          refine any_skip (i := 6) hf511 rfl rfl rfl rfl (fun _ _ _ h => h) (by kernel_rfl) (by kernel_rfl) (by kernel_rfl) hS28 fun ac462 hf512 => ?_
          refine any_skip (i := 7) hf512 rfl rfl rfl rfl (fun _ _ _ h => h) (by kernel_rfl) (by kernel_rfl) (by kernel_rfl) hS28 fun ac463 hf513 => ?_
          refine any_skip (i := 8) hf513 rfl rfl rfl rfl (fun _ _ _ h => h) (by kernel_rfl) (by kernel_rfl) (by kernel_rfl) hS28 fun ac464 hf514 => ?_
          refine any_skip (i := 9) hf514 rfl rfl rfl rfl (fun _ _ _ h => h) (by kernel_rfl) (by kernel_rfl) (by kernel_rfl) hS28 fun ac465 hf515 => ?_
          refine any_skip (i := 10) hf515 rfl rfl rfl rfl (fun _ _ _ h => h) (by kernel_rfl) (by kernel_rfl) (by kernel_rfl) hS28 fun ac466 hf516 => ?_
          refine any_skip (i := 11) hf516 rfl rfl rfl rfl (fun _ _ _ h => h) (by kernel_rfl) (by kernel_rfl) (by kernel_rfl) hS28 fun ac467 hf517 => ?_
          refine any_val (i := 12) (v := .bool false) hf517 rfl rfl rfl rfl rfl rfl (fun _ _ _ h => h) (by kernel_rfl) (by kernel_rfl) (by kernel_rfl) (fun wd48 hS28 => (r_pickF rfl rfl)) hS28 fun ac468 hf518 => ?_
          refine any_end (by kernel_rfl) ?_
          clear hI65 ac409 hf453 ac410 hf454 ac411 hf455 ac412 hf456 hf457 ac413 hf509 ac460 hf510 ac461 hf511 ac462 hf512 ac463 hf513 ac464 hf514 ac465 hf515 ac466 hf516 ac467 hf517 hS28
          refine then_normal ?_
          refine code_if_false hf518 rfl ?_
          refine wp_skip ?_
          refine block_normal ?_
          refine then_normal ?_
          refine seq_start (l := [0, 1]) rfl ?_
          refine seq_one (op_val (v := .int .i64 3) hf518 rfl rfl rfl rfl rfl rfl (r_add (c := 3) rfl rfl (by rfl)) fun ac469 hf519 => ?_)
          refine seq_one (op_val (v := .int .i64 3) hf519 rfl rfl rfl rfl rfl rfl (r_move rfl) fun ac470 hf520 => ?_)
          refine seq_end ?_
          clear ac468 hf518 ac469 hf519
          refine then_normal ?_
          refine rounds_go ?_
          refine code_seq ?_
          refine seq_start (l := [0]) rfl ?_
          refine seq_one (op_val (v := .bool true) hf520 rfl rfl rfl rfl rfl rfl (r_lssC rfl rfl (by decide)) fun ac471 hf521 => ?_)
          refine seq_end ?_
          clear ac470 hf520
          refine then_normal ?_
          refine code_seq ?_
          refine code_if_true hf521 rfl ?_
          refine wp_skip ?_
          refine then_normal ?_
          refine code_seq ?_
          refine wp_block ?_
          refine code_seq ?_
          refine seq_start (l := [0, 1]) rfl ?_
          refine seq_one (op_val (v := .int .i64 3) hf521 rfl rfl rfl rfl rfl rfl (r_move rfl) fun ac472 hf522 => ?_)
          refine seq_one (op_val (v := .int .i64 3) hf522 rfl rfl rfl rfl rfl rfl (r_assign rfl) fun ac473 hf523 => ?_)
          refine seq_end ?_
          clear ac471 hf521 ac472 hf522
          refine then_normal ?_
          refine code_seq ?_
          refine any_start (fun w => Has [(b5, #[.slice q6 ((c4.lst 0).length) capq6, .slice q7 ((c4.lst 1).length) capq7, .slice q8 ((c4.lst 2).length) capq8, .slice q9 ((c4.lst 3).length) capq9], 53)] w) follows (Has.drew (Has.cons (hI66.at 4 rfl) Has.nil)) ?_
          have hS34 : Has [(b5, #[.slice q6 ((c4.lst 0).length) capq6, .slice q7 ((c4.lst 1).length) capq7, .slice q8 ((c4.lst 2).length) capq8, .slice q9 ((c4.lst 3).length) capq9], 53)] _ := Has.drew (Has.cons (hI66.at 4 rfl) Has.nil)
          have hI74 := hI66.drew
          refine any_val (i := 0) (v := .int .i64 3) hf523 rfl rfl rfl rfl rfl rfl (fun _ _ _ h => h) (by kernel_rfl) (by kernel_rfl) (by kernel_rfl) (fun wd48 hS34 => (r_move rfl)) hS34 fun ac474 hf524 => ?_
          refine any_val (i := 1) (v := .int .i64 k) hf524 rfl rfl rfl rfl rfl rfl (fun _ _ _ h => h) (by kernel_rfl) (by kernel_rfl) (by kernel_rfl) (fun wd48 hS34 => (r_move rfl)) hS34 fun ac475 hf525 => ?_
          refine any_val (i := 2) (v := .bool (3 != k)) hf525 rfl rfl rfl rfl rfl rfl (fun _ _ _ h => h) (by kernel_rfl) (by kernel_rfl) (by kernel_rfl) (fun wd48 hS34 => (r_neq rfl rfl)) hS34 fun ac476 hf526 => ?_
          refine any_val (i := 3) (v := .bool (3 != k)) hf526 rfl rfl rfl rfl rfl rfl (fun _ _ _ h => h) (by kernel_rfl) (by kernel_rfl) (by kernel_rfl) (fun wd48 hS34 => (r_move rfl)) hS34 fun ac477 hf527 => ?_
          rcases Bool.eq_false_or_eq_true (3 != k : Bool) with g80_21 | g80_21
          · have hf528 := hf527.know 80 (u := .bool true) rfl (congrArg Value.bool g80_21)
            refine any_val (i := 4) (v := .pointer (some ⟨b4, 0, none⟩)) hf528 rfl rfl rfl rfl rfl rfl (fun _ _ _ h => h) (by kernel_rfl) (by kernel_rfl) (by kernel_rfl) (fun wd48 hS34 => (r_move rfl)) hS34 fun ac478 hf529 => ?_
            refine any_val (i := 5) (v := .int .i64 3) hf529 rfl rfl rfl rfl rfl rfl (fun _ _ _ h => h) (by kernel_rfl) (by kernel_rfl) (by kernel_rfl) (fun wd48 hS34 => (r_move rfl)) hS34 fun ac479 hf530 => ?_
            refine any_val (i := 7) (v := .int .i64 3) hf530 rfl rfl rfl rfl rfl rfl (fun _ _ _ h => h) (by kernel_rfl) (by kernel_rfl) (by kernel_rfl) (fun wd48 hS34 => (r_move rfl)) hS34 fun ac480 hf531 => ?_
            refine any_val (i := 8) (v := .pointer (some ⟨b5, 3, none⟩)) hf531 rfl rfl rfl rfl rfl rfl (fun _ _ _ h => h) (by kernel_rfl) (by kernel_rfl) (by kernel_rfl) (fun wd48 hS34 => (r_indexAddr (i := 3) ar_53 rfl rfl rfl (by decide) rfl)) hS34 fun ac481 hf532 => ?_
            refine any_val (i := 9) (v := .slice q9 ((c4.lst 3).length) capq9) hf532 rfl rfl rfl rfl rfl rfl (fun _ _ _ h => h) (by kernel_rfl) (by kernel_rfl) (by kernel_rfl) (fun wd48 hS34 => (r_load ag_27 rfl (hS34.at 0 rfl) rfl)) hS34 fun ac482 hf533 => ?_
            refine any_one (i := 6) (by kernel_rfl) ?_
            refine (op_call (R := fun v w' => ∃ S p cap, v = .slice p (d.lst 3).length cap ∧ Sl 3 .i64 S p cap (d.lst 3) ∧ Inv _ S w' ∧ ∀ x ∈ S, Array.size (World.heap _) ≤ x.1) hf533 rfl rfl rfl rfl ca_28 ((list_any (hI74.nd 0 rfl rfl rfl rfl) d (Has.cons (hI74.at 0 rfl) (Has.cons (hI74.at 1 rfl) (Has.cons (hI74.at 2 rfl) (Has.cons (hI74.at 3 rfl) Has.nil)))) 3).mono fun _ _ ⟨S, p, cap, he, h1, h3, h4⟩ => ⟨_, he, S, p, cap, rfl, h1, h3, h4⟩) fun ac483 v wd55 hR hf534 => ?_)
            obtain ⟨Sq11, q11, capq11, rfl, hsq11, hwq11, hzq11⟩ := hR
            have hyq11 := fk_le hI74.size hzq11
            have hI75 : Inv w ([(b1, arr .i64 d.lk, 103), (b2, arr .i64 d.of, 3), (b3, arr .i64 d.mn, 3), (b4, #[.slice (some ⟨b1, 0, none⟩) (20 + 4) (20 + 4), .slice (some ⟨b2, 0, none⟩) 20 20, .slice (some ⟨b3, 0, none⟩) 4 4], 79), (b5, #[.slice q6 ((c4.lst 0).length) capq6, .slice q7 ((c4.lst 1).length) capq7, .slice q8 ((c4.lst 2).length) capq8, .slice q9 ((c4.lst 3).length) capq9], 53)] ++ (((((Sq6 ++ Sq7) ++ Sq8) ++ Sq9) ++ Sq10) ++ Sq11)) _ := hI74.callN hwq11 hzq11
            refine ⟨?_, ?_⟩
            · exact (Has.cons (hI75.at 4 rfl) Has.nil)
            have hS35 : Has [(b5, #[.slice q6 ((c4.lst 0).length) capq6, .slice q7 ((c4.lst 1).length) capq7, .slice q8 ((c4.lst 2).length) capq8, .slice q9 ((c4.lst 3).length) capq9], 53)] _ := (Has.cons (hI75.at 4 rfl) Has.nil)
            refine any_one (i := 10) (by kernel_rfl) ?_
            refine (op_pureW hf534 rfl rfl rfl rfl ca_19 (ints_walk (xs := (d.lst 3)) (ys := (c4.lst 3)) rfl rfl (Nat.le_trans (Ch.lst_le _ _) (by omega)) (hsq11.rd hI75 (fun x hx => List.mem_append_right _ (List.mem_append_right _ hx))) (hsq9.rd hI75 (fun x hx => List.mem_append_right _ (List.mem_append_left _ (List.mem_append_left _ (List.mem_append_right _ hx)))))) hI75 fun ac484 wd56 hI76 hf535 => ⟨?_, ?_⟩)
            · exact (Has.cons (hI76.at 4 rfl) Has.nil)
            have hS36 : Has [(b5, #[.slice q6 ((c4.lst 0).length) capq6, .slice q7 ((c4.lst 1).length) capq7, .slice q8 ((c4.lst 2).length) capq8, .slice q9 ((c4.lst 3).length) capq9], 53)] _ := (Has.cons (hI76.at 4 rfl) Has.nil)
            refine any_val (i := 11) (v := .bool (!((d.lst 3) == (c4.lst 3)))) hf535 rfl rfl rfl rfl rfl rfl (fun _ _ _ h => h) (by kernel_rfl) (by kernel_rfl) (by kernel_rfl) (fun wd56 hS36 => (r_not rfl)) hS36 fun ac485 hf536 => ?_
            refine any_val (i := 12) (v := .bool (!((d.lst 3) == (c4.lst 3)))) hf536 rfl rfl rfl rfl rfl rfl (fun _ _ _ h => h) (by kernel_rfl) (by kernel_rfl) (by kernel_rfl) (fun wd56 hS36 => (r_pickT rfl rfl)) hS36 fun ac486 hf537 => ?_
            refine any_end (by kernel_rfl) ?_
            clear hI66 ac473 hf523 ac474 hf524 ac475 hf525 ac476 hf526 hf527 ac477 hf528 ac478 hf529 ac479 hf530 ac480 hf531 ac481 hf532 ac482 wd48 hf533 hI74 hwq11 hzq11 hS34 ac483 wd55 hI75 hf534 hS35 ac484 hf535 ac485 hf536 hS36
            refine then_normal ?_
            have hf538 := hf537.know 89 (u := .bool false) rfl (congrArg Value.bool (by rw [hx2.2 _ (bne_iff_ne.1 g80_21), beq_self_eq_true]; rfl))
            refine code_if_false hf538 rfl ?_
            refine wp_skip ?_
            refine block_normal ?_
            refine then_normal ?_
            refine seq_start (l := [0, 1]) rfl ?_
            refine seq_one (op_val (v := .int .i64 4) hf538 rfl rfl rfl rfl rfl rfl (r_add (c := 4) rfl rfl (by rfl)) fun ac487 hf539 => ?_)
            refine seq_one (op_val (v := .int .i64 4) hf539 rfl rfl rfl rfl rfl rfl (r_move rfl) fun ac488 hf540 => ?_)
            refine seq_end ?_
            clear hf537 ac486 hf538 ac487 hf539
            refine then_normal ?_
            refine rounds_go ?_
            refine code_seq ?_
            refine seq_start (l := [0]) rfl ?_
            refine seq_one (op_val (v := .bool false) hf540 rfl rfl rfl rfl rfl rfl (r_lssC rfl rfl (by decide)) fun ac489 hf541 => ?_)
            refine seq_end ?_
            clear ac488 hf540
            refine then_normal ?_
            refine code_seq ?_
            refine code_if_false hf541 rfl ?_
            refine wp_exit ?_
            refine then_exit ?_
            refine then_exit ?_
            refine block_here ?_
            refine then_normal ?_
            refine code_seq ?_
            refine seq_start (l := [0, 1]) rfl ?_
            refine seq_one (op_pure hf541 rfl rfl rfl rfl ca_33 awake5_pur hI76 fun ac490 wd57 hI77 hf542 => ?_)
            refine seq_one (op_val (v := .bool true) hf542 rfl rfl rfl rfl rfl rfl (r_assign rfl) fun ac491 hf543 => ?_)
            refine seq_end ?_
            clear ac489 wd56 hI76 hf541 ac490 hf542
            refine then_normal ?_
            refine wp_ret ?_
            refine post1 rfl hf543 rfl ⟨?_, hI77.done (fk_app (fresh_keys (ks := [b1, b2, b3, b4, b5]) rfl (fk_cons hb1 (fk_cons hb2 (fk_cons hb3 (fk_cons hb4 (fk_cons hb5 fk_nil)))))) (fk_app (fk_app (fk_app (fk_app (fk_app hyq6 hyq7) hyq8) hyq9) hyq10) hyq11))⟩
            rfl
          · have hf544 := hf527.know 80 (u := .bool false) rfl (congrArg Value.bool g80_21)
            refine any_skip (i := 4) hf544 rfl rfl rfl rfl (fun _ _ _ h => h) (by kernel_rfl) (by kernel_rfl) (by kernel_rfl) hS34 fun ac492 hf545 => ?_
            refine any_skip (i := 5) hf545 rfl rfl rfl rfl (fun _ _ _ h => h) (by kernel_rfl) (by kernel_rfl) (by kernel_rfl) hS34 fun ac493 hf546 => ?_
            refine any_skip (i := 6) hf546 rfl rfl rfl rfl (fun _ _ _ h => h) (by kernel_rfl) (by kernel_rfl) (by kernel_rfl) hS34 fun ac494 hf547 => ?_
            refine any_skip (i := 7) hf547 rfl rfl rfl rfl (fun _ _ _ h => h) (by kernel_rfl) (by kernel_rfl) (by kernel_rfl) hS34 fun ac495 hf548 => ?_
            refine any_skip (i := 8) hf548 rfl rfl rfl rfl (fun _ _ _ h => h) (by kernel_rfl) (by kernel_rfl) (by kernel_rfl) hS34 fun ac496 hf549 => ?_
            refine any_skip (i := 9) hf549 rfl rfl rfl rfl (fun _ _ _ h => h) (by kernel_rfl) (by kernel_rfl) (by kernel_rfl) hS34 fun ac497 hf550 => ?_
            refine any_skip (i := 10) hf550 rfl rfl rfl rfl (fun _ _ _ h => h) (by kernel_rfl) (by kernel_rfl) (by kernel_rfl) hS34 fun ac498 hf551 => ?_
            refine any_skip (i := 11) hf551 rfl rfl rfl rfl (fun _ _ _ h => h) (by kernel_rfl) (by kernel_rfl) (by kernel_rfl) hS34 fun ac499 hf552 => ?_
            refine any_val (i := 12) (v := .bool false) hf552 rfl rfl rfl rfl rfl rfl (fun _ _ _ h => h) (by kernel_rfl) (by kernel_rfl) (by kernel_rfl) (fun wd48 hS34 => (r_pickF rfl rfl)) hS34 fun ac500 hf553 => ?_
            refine any_end (by kernel_rfl) ?_
            clear hI66 ac473 hf523 ac474 hf524 ac475 hf525 ac476 hf526 hf527 ac477 hf544 ac492 hf545 ac493 hf546 ac494 hf547 ac495 hf548 ac496 hf549 ac497 hf550 ac498 hf551 ac499 hf552 hS34
            refine then_normal ?_
            refine code_if_false hf553 rfl ?_
            refine wp_skip ?_
            refine block_normal ?_
            refine then_normal ?_
            refine seq_start (l := [0, 1]) rfl ?_
            refine seq_one (op_val (v := .int .i64 4) hf553 rfl rfl rfl rfl rfl rfl (r_add (c := 4) rfl rfl (by rfl)) fun ac501 hf554 => ?_)
            refine seq_one (op_val (v := .int .i64 4) hf554 rfl rfl rfl rfl rfl rfl (r_move rfl) fun ac502 hf555 => ?_)
            refine seq_end ?_
            clear ac500 hf553 ac501 hf554
            refine then_normal ?_
            refine rounds_go ?_
            refine code_seq ?_
            refine seq_start (l := [0]) rfl ?_
            refine seq_one (op_val (v := .bool false) hf555 rfl rfl rfl rfl rfl rfl (r_lssC rfl rfl (by decide)) fun ac503 hf556 => ?_)
            refine seq_end ?_
            clear ac502 hf555
            refine then_normal ?_
            refine code_seq ?_
            refine code_if_false hf556 rfl ?_
            refine wp_exit ?_
            refine then_exit ?_
            refine then_exit ?_
            refine block_here ?_
            refine then_normal ?_
            refine code_seq ?_
            refine seq_start (l := [0, 1]) rfl ?_
            refine seq_one (op_pure hf556 rfl rfl rfl rfl ca_33 awake5_pur hI74 fun ac504 wd58 hI78 hf557 => ?_)
            refine seq_one (op_val (v := .bool true) hf557 rfl rfl rfl rfl rfl rfl (r_assign rfl) fun ac505 hf558 => ?_)
            refine seq_end ?_
            clear ac503 wd48 hI74 hf556 ac504 hf557
            refine then_normal ?_
            refine wp_ret ?_
            refine post1 rfl hf558 rfl ⟨?_, hI78.done (fk_app (fresh_keys (ks := [b1, b2, b3, b4, b5]) rfl (fk_cons hb1 (fk_cons hb2 (fk_cons hb3 (fk_cons hb4 (fk_cons hb5 fk_nil)))))) (fk_app (fk_app (fk_app (fk_app hyq6 hyq7) hyq8) hyq9) hyq10))⟩
            rfl
      · have hf559 := hf437.know 80 (u := .bool false) rfl (congrArg Value.bool g80_18)
        refine any_skip (i := 4) hf559 rfl rfl rfl rfl (fun _ _ _ h => h) (by kernel_rfl) (by kernel_rfl) (by kernel_rfl) hS25 fun ac506 hf560 => ?_
        refine any_skip (i := 5) hf560 rfl rfl rfl rfl (fun _ _ _ h => h) (by kernel_rfl) (by kernel_rfl) (by kernel_rfl) hS25 fun ac507 hf561 => ?_
        refine any_skip (i := 6) hf561 rfl rfl rfl rfl (fun _ _ _ h => h) (by kernel_rfl) (by kernel_rfl) (by kernel_rfl) hS25 fun ac508 hf562 => ?_
        refine any_skip (i := 7) hf562 rfl rfl rfl rfl (fun _ _ _ h => h) (by kernel_rfl) (by kernel_rfl) (by kernel_rfl) hS25 fun ac509 hf563 => ?_
        refine any_skip (i := 8) hf563 rfl rfl rfl rfl (fun _ _ _ h => h) (by kernel_rfl) (by kernel_rfl) (by kernel_rfl) hS25 fun ac510 hf564 => ?_
        refine any_skip (i := 9) hf564 rfl rfl rfl rfl (fun _ _ _ h => h) (by kernel_rfl) (by kernel_rfl) (by kernel_rfl) hS25 fun ac511 hf565 => ?_
        refine any_skip (i := 10) hf565 rfl rfl rfl rfl (fun _ _ _ h => h) (by kernel_rfl) (by kernel_rfl) (by kernel_rfl) hS25 fun ac512 hf566 => ?_
        refine any_skip (i := 11) hf566 rfl rfl rfl rfl (fun _ _ _ h => h) (by kernel_rfl) (by kernel_rfl) (by kernel_rfl) hS25 fun ac513 hf567 => ?_
        refine any_val (i := 12) (v := .bool false) hf567 rfl rfl rfl rfl rfl rfl (fun _ _ _ h => h) (by kernel_rfl) (by kernel_rfl) (by kernel_rfl) (fun wd11 hS25 => (r_pickF rfl rfl)) hS25 fun ac514 hf568 => ?_
        refine any_end (by kernel_rfl) ?_
        clear hI31 ac391 hf433 ac392 hf434 ac393 hf435 ac394 hf436 hf437 ac395 hf559 ac506 hf560 ac507 hf561 ac508 hf562 ac509 hf563 ac510 hf564 ac511 hf565 ac512 hf566 ac513 hf567 hS25
        refine then_normal ?_
        refine code_if_false hf568 rfl ?_
        refine wp_skip ?_
        refine block_normal ?_
        refine then_normal ?_
        refine seq_start (l := [0, 1]) rfl ?_
        refine seq_one (op_val (v := .int .i64 2) hf568 rfl rfl rfl rfl rfl rfl (r_add (c := 2) rfl rfl (by rfl)) fun ac515 hf569 => ?_)
        refine seq_one (op_val (v := .int .i64 2) hf569 rfl rfl rfl rfl rfl rfl (r_move rfl) fun ac516 hf570 => ?_)
        refine seq_end ?_
        clear ac514 hf568 ac515 hf569
        refine then_normal ?_
        refine rounds_go ?_
        refine code_seq ?_
        refine seq_start (l := [0]) rfl ?_
        refine seq_one (op_val (v := .bool true) hf570 rfl rfl rfl rfl rfl rfl (r_lssC rfl rfl (by decide)) fun ac517 hf571 => ?_)
        refine seq_end ?_
        clear ac516 hf570
        refine then_normal ?_
        refine code_seq ?_
        refine code_if_true hf571 rfl ?_
        refine wp_skip ?_
        refine then_normal ?_
        refine code_seq ?_
        refine wp_block ?_
        refine code_seq ?_
        refine seq_start (l := [0, 1]) rfl ?_
        refine seq_one (op_val (v := .int .i64 2) hf571 rfl rfl rfl rfl rfl rfl (r_move rfl) fun ac518 hf572 => ?_)
        refine seq_one (op_val (v := .int .i64 2) hf572 rfl rfl rfl rfl rfl rfl (r_assign rfl) fun ac519 hf573 => ?_)
        refine seq_end ?_
        clear ac517 hf571 ac518 hf572
        refine then_normal ?_
        refine code_seq ?_
        refine any_start (fun w => Has [(b5, #[.slice q6 ((c4.lst 0).length) capq6, .slice q7 ((c4.lst 1).length) capq7, .slice q8 ((c4.lst 2).length) capq8, .slice q9 ((c4.lst 3).length) capq9], 53)] w) follows (Has.drew (Has.cons (hI63.at 4 rfl) Has.nil)) ?_
        have hS37 : Has [(b5, #[.slice q6 ((c4.lst 0).length) capq6, .slice q7 ((c4.lst 1).length) capq7, .slice q8 ((c4.lst 2).length) capq8, .slice q9 ((c4.lst 3).length) capq9], 53)] _ := Has.drew (Has.cons (hI63.at 4 rfl) Has.nil)
        have hI79 := hI63.drew
        refine any_val (i := 0) (v := .int .i64 2) hf573 rfl rfl rfl rfl rfl rfl (fun _ _ _ h => h) (by kernel_rfl) (by kernel_rfl) (by kernel_rfl) (fun wd11 hS37 => (r_move rfl)) hS37 fun ac520 hf574 => ?_
        refine any_val (i := 1) (v := .int .i64 k) hf574 rfl rfl rfl rfl rfl rfl (fun _ _ _ h => h) (by kernel_rfl) (by kernel_rfl) (by kernel_rfl) (fun wd11 hS37 => (r_move rfl)) hS37 fun ac521 hf575 => ?_
        refine any_val (i := 2) (v := .bool (2 != k)) hf575 rfl rfl rfl rfl rfl rfl (fun _ _ _ h => h) (by kernel_rfl) (by kernel_rfl) (by kernel_rfl) (fun wd11 hS37 => (r_neq rfl rfl)) hS37 fun ac522 hf576 => ?_
        refine any_val (i := 3) (v := .bool (2 != k)) hf576 rfl rfl rfl rfl rfl rfl (fun _ _ _ h => h) (by kernel_rfl) (by kernel_rfl) (by kernel_rfl) (fun wd11 hS37 => (r_move rfl)) hS37 fun ac523 hf577 => ?_
        rcases Bool.eq_false_or_eq_true (2 != k : Bool) with g80_22 | g80_22
        · have hf578 := hf577.know 80 (u := .bool true) rfl (congrArg Value.bool g80_22)
          refine any_val (i := 4) (v := .pointer (some ⟨b4, 0, none⟩)) hf578 rfl rfl rfl rfl rfl rfl (fun _ _ _ h => h) (by kernel_rfl) (by kernel_rfl) (by kernel_rfl) (fun wd11 hS37 => (r_move rfl)) hS37 fun ac524 hf579 => ?_
          refine any_val (i := 5) (v := .int .i64 2) hf579 rfl rfl rfl rfl rfl rfl (fun _ _ _ h => h) (by kernel_rfl) (by kernel_rfl) (by kernel_rfl) (fun wd11 hS37 => (r_move rfl)) hS37 fun ac525 hf580 => ?_
          refine any_val (i := 7) (v := .int .i64 2) hf580 rfl rfl rfl rfl rfl rfl (fun _ _ _ h => h) (by kernel_rfl) (by kernel_rfl) (by kernel_rfl) (fun wd11 hS37 => (r_move rfl)) hS37 fun ac526 hf581 => ?_
          refine any_val (i := 8) (v := .pointer (some ⟨b5, 2, none⟩)) hf581 rfl rfl rfl rfl rfl rfl (fun _ _ _ h => h) (by kernel_rfl) (by kernel_rfl) (by kernel_rfl) (fun wd11 hS37 => (r_indexAddr (i := 2) ar_53 rfl rfl rfl (by decide) rfl)) hS37 fun ac527 hf582 => ?_
          refine any_val (i := 9) (v := .slice q8 ((c4.lst 2).length) capq8) hf582 rfl rfl rfl rfl rfl rfl (fun _ _ _ h => h) (by kernel_rfl) (by kernel_rfl) (by kernel_rfl) (fun wd11 hS37 => (r_load ag_27 rfl (hS37.at 0 rfl) rfl)) hS37 fun ac528 hf583 => ?_
          refine any_one (i := 6) (by kernel_rfl) ?_
          refine (op_call (R := fun v w' => ∃ S p cap, v = .slice p (d.lst 2).length cap ∧ Sl 3 .i64 S p cap (d.lst 2) ∧ Inv _ S w' ∧ ∀ x ∈ S, Array.size (World.heap _) ≤ x.1) hf583 rfl rfl rfl rfl ca_28 ((list_any (hI79.nd 0 rfl rfl rfl rfl) d (Has.cons (hI79.at 0 rfl) (Has.cons (hI79.at 1 rfl) (Has.cons (hI79.at 2 rfl) (Has.cons (hI79.at 3 rfl) Has.nil)))) 2).mono fun _ _ ⟨S, p, cap, he, h1, h3, h4⟩ => ⟨_, he, S, p, cap, rfl, h1, h3, h4⟩) fun ac529 v wd59 hR hf584 => ?_)
          obtain ⟨Sq10, q10, capq10, rfl, hsq10, hwq10, hzq10⟩ := hR
          have hyq10 := fk_le hI79.size hzq10
          have hI80 : Inv w ([(b1, arr .i64 d.lk, 103), (b2, arr .i64 d.of, 3), (b3, arr .i64 d.mn, 3), (b4, #[.slice (some ⟨b1, 0, none⟩) (20 + 4) (20 + 4), .slice (some ⟨b2, 0, none⟩) 20 20, .slice (some ⟨b3, 0, none⟩) 4 4], 79), (b5, #[.slice q6 ((c4.lst 0).length) capq6, .slice q7 ((c4.lst 1).length) capq7, .slice q8 ((c4.lst 2).length) capq8, .slice q9 ((c4.lst 3).length) capq9], 53)] ++ ((((Sq6 ++ Sq7) ++ Sq8) ++ Sq9) ++ Sq10)) _ := hI79.callN hwq10 hzq10
          refine ⟨?_, ?_⟩
          · exact (Has.cons (hI80.at 4 rfl) Has.nil)
          have hS38 : Has [(b5, #[.slice q6 ((c4.lst 0).length) capq6, .slice q7 ((c4.lst 1).length) capq7, .slice q8 ((c4.lst 2).length) capq8, .slice q9 ((c4.lst 3).length) capq9], 53)] _ := (Has.cons (hI80.at 4 rfl) Has.nil)
          refine any_one (i := 10) (by kernel_rfl) ?_
          refine (op_pureW hf584 rfl rfl rfl rfl ca_19 (ints_walk (xs := (d.lst 2)) (ys := (c4.lst 2)) rfl rfl (Nat.le_trans (Ch.lst_le _ _) (by omega)) (hsq10.rd hI80 (fun x hx => List.mem_append_right _ (List.mem_append_right _ hx))) (hsq8.rd hI80 (fun x hx => List.mem_append_right _ (List.mem_append_left _ (List.mem_append_left _ (List.mem_append_right _ hx)))))) hI80 fun ac530 wd60 hI81 hf585 => ⟨?_, ?_⟩)
          · exact (Has.cons (hI81.at 4 rfl) Has.nil)
          have hS39 : Has [(b5, #[.slice q6 ((c4.lst 0).length) capq6, .slice q7 ((c4.lst 1).length) capq7, .slice q8 ((c4.lst 2).length) capq8, .slice q9 ((c4.lst 3).length) capq9], 53)] _ := (Has.cons (hI81.at 4 rfl) Has.nil)
          refine any_val (i := 11) (v := .bool (!((d.lst 2) == (c4.lst 2)))) hf585 rfl rfl rfl rfl rfl rfl (fun _ _ _ h => h) (by kernel_rfl) (by kernel_rfl) (by kernel_rfl) (fun wd60 hS39 => (r_not rfl)) hS39 fun ac531 hf586 => ?_
          refine any_val (i := 12) (v := .bool (!((d.lst 2) == (c4.lst 2)))) hf586 rfl rfl rfl rfl rfl rfl (fun _ _ _ h => h) (by kernel_rfl) (by kernel_rfl) (by kernel_rfl) (fun wd60 hS39 => (r_pickT rfl rfl)) hS39 fun ac532 hf587 => ?_
          refine any_end (by kernel_rfl) ?_
          clear hI63 ac519 hf573 ac520 hf574 ac521 hf575 ac522 hf576 hf577 ac523 hf578 ac524 hf579 ac525 hf580 ac526 hf581 ac527 hf582 ac528 wd11 hf583 hI79 hwq10 hzq10 hS37 ac529 wd59 hI80 hf584 hS38 ac530 hf585 ac531 hf586 hS39
          refine then_normal ?_
          have hf588 := hf587.know 89 (u := .bool false) rfl (congrArg Value.bool (by rw [hx2.2 _ (bne_iff_ne.1 g80_22), beq_self_eq_true]; rfl))
          refine code_if_false hf588 rfl ?_
          refine wp_skip ?_
          refine block_normal ?_
          refine then_normal ?_
          refine seq_start (l := [0, 1]) rfl ?_
          refine seq_one (op_val (v := .int .i64 3) hf588 rfl rfl rfl rfl rfl rfl (r_add (c := 3) rfl rfl (by rfl)) fun ac533 hf589 => ?_)
          refine seq_one (op_val (v := .int .i64 3) hf589 rfl rfl rfl rfl rfl rfl (r_move rfl) fun ac534 hf590 => ?_)
          refine seq_end ?_
          clear hf587 ac532 hf588 ac533 hf589
          refine then_normal ?_
          refine rounds_go ?_
          refine code_seq ?_
          refine seq_start (l := [0]) rfl ?_
          refine seq_one (op_val (v := .bool true) hf590 rfl rfl rfl rfl rfl rfl (r_lssC rfl rfl (by decide)) fun ac535 hf591 => ?_)
          refine seq_end ?_
          clear ac534 hf590
          refine then_normal ?_
          refine code_seq ?_
          refine code_if_true hf591 rfl ?_
          refine wp_skip ?_
          refine then_normal ?_
          refine code_seq ?_
          refine wp_block ?_
          refine code_seq ?_
          refine seq_start (l := [0, 1]) rfl ?_
          refine seq_one (op_val (v := .int .i64 3) hf591 rfl rfl rfl rfl rfl rfl (r_move rfl) fun ac536 hf592 => ?_)
          refine seq_one (op_val (v := .int .i64 3) hf592 rfl rfl rfl rfl rfl rfl (r_assign rfl) fun ac537 hf593 => ?_)
          refine seq_end ?_
          clear ac535 hf591 ac536 hf592
          refine then_normal ?_
          refine code_seq ?_
          refine any_start (fun w => Has [(b5, #[.slice q6 ((c4.lst 0).length) capq6, .slice q7 ((c4.lst 1).length) capq7, .slice q8 ((c4.lst 2).length) capq8, .slice q9 ((c4.lst 3).length) capq9], 53)] w) follows (Has.drew (Has.cons (hI81.at 4 rfl) Has.nil)) ?_
          have hS40 : Has [(b5, #[.slice q6 ((c4.lst 0).length) capq6, .slice q7 ((c4.lst 1).length) capq7, .slice q8 ((c4.lst 2).length) capq8, .slice q9 ((c4.lst 3).length) capq9], 53)] _ := Has.drew (Has.cons (hI81.at 4 rfl) Has.nil)
          have hI82 := hI81.drew
          refine any_val (i := 0) (v := .int .i64 3) hf593 rfl rfl rfl rfl rfl rfl (fun _ _ _ h => h) (by kernel_rfl) (by kernel_rfl) (by kernel_rfl) (fun wd60 hS40 => (r_move rfl)) hS40 fun ac538 hf594 => ?_
          refine any_val (i := 1) (v := .int .i64 k) hf594 rfl rfl rfl rfl rfl rfl (fun _ _ _ h => h) (by kernel_rfl) (by kernel_rfl) (by kernel_rfl) (fun wd60 hS40 => (r_move rfl)) hS40 fun ac539 hf595 => ?_
          refine any_val (i := 2) (v := .bool (3 != k)) hf595 rfl rfl rfl rfl rfl rfl (fun _ _ _ h => h) (by kernel_rfl) (by kernel_rfl) (by kernel_rfl) (fun wd60 hS40 => (r_neq rfl rfl)) hS40 fun ac540 hf596 => ?_
          refine any_val (i := 3) (v := .bool (3 != k)) hf596 rfl rfl rfl rfl rfl rfl (fun _ _ _ h => h) (by kernel_rfl) (by kernel_rfl) (by kernel_rfl) (fun wd60 hS40 => (r_move rfl)) hS40 fun ac541 hf597 => ?_
          rcases Bool.eq_false_or_eq_true (3 != k : Bool) with g80_23 | g80_23
          · have hf598 := hf597.know 80 (u := .bool true) rfl (congrArg Value.bool g80_23)
            refine any_val (i := 4) (v := .pointer (some ⟨b4, 0, none⟩)) hf598 rfl rfl rfl rfl rfl rfl (fun _ _ _ h => h) (by kernel_rfl) (by kernel_rfl) (by kernel_rfl) (fun wd60 hS40 => (r_move rfl)) hS40 fun ac542 hf599 => ?_
            refine any_val (i := 5) (v := .int .i64 3) hf599 rfl rfl rfl rfl rfl rfl (fun _ _ _ h => h) (by kernel_rfl) (by kernel_rfl) (by kernel_rfl) (fun wd60 hS40 => (r_move rfl)) hS40 fun ac543 hf600 => ?_
            refine any_val (i := 7) (v := .int .i64 3) hf600 rfl rfl rfl rfl rfl rfl (fun _ _ _ h => h) (by kernel_rfl) (by kernel_rfl) (by kernel_rfl) (fun wd60 hS40 => (r_move rfl)) hS40 fun ac544 hf601 => ?_
            refine any_val (i := 8) (v := .pointer (some ⟨b5, 3, none⟩)) hf601 rfl rfl rfl rfl rfl rfl (fun _ _ _ h => h) (by kernel_rfl) (by kernel_rfl) (by kernel_rfl) (fun wd60 hS40 => (r_indexAddr (i := 3) ar_53 rfl rfl rfl (by decide) rfl)) hS40 fun ac545 hf602 => ?_
            refine any_val (i := 9) (v := .slice q9 ((c4.lst 3).length) capq9) hf602 rfl rfl rfl rfl rfl rfl (fun _ _ _ h => h) (by kernel_rfl) (by kernel_rfl) (by kernel_rfl) (fun wd60 hS40 => (r_load ag_27 rfl (hS40.at 0 rfl) rfl)) hS40 fun ac546 hf603 => ?_
            refine any_one (i := 6) (by kernel_rfl) ?_
            refine (op_call (R := fun v w' => ∃ S p cap, v = .slice p (d.lst 3).length cap ∧ Sl 3 .i64 S p cap (d.lst 3) ∧ Inv _ S w' ∧ ∀ x ∈ S, Array.size (World.heap _) ≤ x.1) hf603 rfl rfl rfl rfl ca_28 ((list_any (hI82.nd 0 rfl rfl rfl rfl) d (Has.cons (hI82.at 0 rfl) (Has.cons (hI82.at 1 rfl) (Has.cons (hI82.at 2 rfl) (Has.cons (hI82.at 3 rfl) Has.nil)))) 3).mono fun _ _ ⟨S, p, cap, he, h1, h3, h4⟩ => ⟨_, he, S, p, cap, rfl, h1, h3, h4⟩) fun ac547 v wd61 hR hf604 => ?_)
            obtain ⟨Sq11, q11, capq11, rfl, hsq11, hwq11, hzq11⟩ := hR
            have hyq11 := fk_le hI82.size hzq11
            have hI83 : Inv w ([(b1, arr .i64 d.lk, 103), (b2, arr .i64 d.of, 3), (b3, arr .i64 d.mn, 3), (b4, #[.slice (some ⟨b1, 0, none⟩) (20 + 4) (20 + 4), .slice (some ⟨b2, 0, none⟩) 20 20, .slice (some ⟨b3, 0, none⟩) 4 4], 79), (b5, #[.slice q6 ((c4.lst 0).length) capq6, .slice q7 ((c4.lst 1).length) capq7, .slice q8 ((c4.lst 2).length) capq8, .slice q9 ((c4.lst 3).length) capq9], 53)] ++ (((((Sq6 ++ Sq7) ++ Sq8) ++ Sq9) ++ Sq10) ++ Sq11)) _ := hI82.callN hwq11 hzq11
            refine ⟨?_, ?_⟩
            · exact (Has.cons (hI83.at 4 rfl) Has.nil)
            have hS41 : Has [(b5, #[.slice q6 ((c4.lst 0).length) capq6, .slice q7 ((c4.lst 1).length) capq7, .slice q8 ((c4.lst 2).length) capq8, .slice q9 ((c4.lst 3).length) capq9], 53)] _ := (Has.cons (hI83.at 4 rfl) Has.nil)
            refine any_one (i := 10) (by kernel_rfl) ?_
            refine (op_pureW hf604 rfl rfl rfl rfl ca_19 (ints_walk (xs := (d.lst 3)) (ys := (c4.lst 3)) rfl rfl (Nat.le_trans (Ch.lst_le _ _) (by omega)) (hsq11.rd hI83 (fun x hx => List.mem_append_right _ (List.mem_append_right _ hx))) (hsq9.rd hI83 (fun x hx => List.mem_append_right _ (List.mem_append_left _ (List.mem_append_left _ (List.mem_append_right _ hx)))))) hI83 fun ac548 wd62 hI84 hf605 => ⟨?_, ?_⟩)
            · exact (Has.cons (hI84.at 4 rfl) Has.nil)
            have hS42 : Has [(b5, #[.slice q6 ((c4.lst 0).length) capq6, .slice q7 ((c4.lst 1).length) capq7, .slice q8 ((c4.lst 2).length) capq8, .slice q9 ((c4.lst 3).length) capq9], 53)] _ := (Has.cons (hI84.at 4 rfl) Has.nil)
            refine any_val (i := 11) (v := .bool (!((d.lst 3) == (c4.lst 3)))) hf605 rfl rfl rfl rfl rfl rfl (fun _ _ _ h => h) (by kernel_rfl) (by kernel_rfl) (by kernel_rfl) (fun wd62 hS42 => (r_not rfl)) hS42 fun ac549 hf606 => ?_
            refine any_val (i := 12) (v := .bool (!((d.lst 3) == (c4.lst 3)))) hf606 rfl rfl rfl rfl rfl rfl (fun _ _ _ h => h) (by kernel_rfl) (by kernel_rfl) (by kernel_rfl) (fun wd62 hS42 => (r_pickT rfl rfl)) hS42 fun ac550 hf607 => ?_
            refine any_end (by kernel_rfl) ?_
            clear hI81 ac537 hf593 ac538 hf594 ac539 hf595 ac540 hf596 hf597 ac541 hf598 ac542 hf599 ac543 hf600 ac544 hf601 ac545 hf602 ac546 wd60 hf603 hI82 hwq11 hzq11 hS40 ac547 wd61 hI83 hf604 hS41 ac548 hf605 ac549 hf606 hS42
            refine then_normal ?_
            have hf608 := hf607.know 89 (u := .bool false) rfl (congrArg Value.bool (by rw [hx2.2 _ (bne_iff_ne.1 g80_23), beq_self_eq_true]; rfl))
            refine code_if_false hf608 rfl ?_
            refine wp_skip ?_
            refine block_normal ?_
            refine then_normal ?_
            refine seq_start (l := [0, 1]) rfl ?_
            refine seq_one (op_val (v := .int .i64 4) hf608 rfl rfl rfl rfl rfl rfl (r_add (c := 4) rfl rfl (by rfl)) fun ac551 hf609 => ?_)
            refine seq_one (op_val (v := .int .i64 4) hf609 rfl rfl rfl rfl rfl rfl (r_move rfl) fun ac552 hf610 => ?_)
            refine seq_end ?_
            clear hf607 ac550 hf608 ac551 hf609
            refine then_normal ?_
            refine rounds_go ?_
            refine code_seq ?_
            refine seq_start (l := [0]) rfl ?_
            refine seq_one (op_val (v := .bool false) hf610 rfl rfl rfl rfl rfl rfl (r_lssC rfl rfl (by decide)) fun ac553 hf611 => ?_)
            refine seq_end ?_
            clear ac552 hf610
            refine then_normal ?_
            refine code_seq ?_
            refine code_if_false hf611 rfl ?_
            refine wp_exit ?_
            refine then_exit ?_
            refine then_exit ?_
            refine block_here ?_
            refine then_normal ?_
            refine code_seq ?_
            refine seq_start (l := [0, 1]) rfl ?_
            refine seq_one (op_pure hf611 rfl rfl rfl rfl ca_33 awake5_pur hI84 fun ac554 wd63 hI85 hf612 => ?_)
            refine seq_one (op_val (v := .bool true) hf612 rfl rfl rfl rfl rfl rfl (r_assign rfl) fun ac555 hf613 => ?_)
            refine seq_end ?_
            clear ac553 wd62 hI84 hf611 ac554 hf612
            refine then_normal ?_
            refine wp_ret ?_
            refine post1 rfl hf613 rfl ⟨?_, hI85.done (fk_app (fresh_keys (ks := [b1, b2, b3, b4, b5]) rfl (fk_cons hb1 (fk_cons hb2 (fk_cons hb3 (fk_cons hb4 (fk_cons hb5 fk_nil)))))) (fk_app (fk_app (fk_app (fk_app (fk_app hyq6 hyq7) hyq8) hyq9) hyq10) hyq11))⟩
            rfl
          · have hf614 := hf597.know 80 (u := .bool false) rfl (congrArg Value.bool g80_23)
            refine any_skip (i := 4) hf614 rfl rfl rfl rfl (fun _ _ _ h => h) (by kernel_rfl) (by kernel_rfl) (by kernel_rfl) hS40 fun ac556 hf615 => ?_
            refine any_skip (i := 5) hf615 rfl rfl rfl rfl (fun _ _ _ h => h) (by kernel_rfl) (by kernel_rfl) (by kernel_rfl) hS40 fun ac557 hf616 => ?_
            refine any_skip (i := 6) hf616 rfl rfl rfl rfl (fun _ _ _ h => h) (by kernel_rfl) (by kernel_rfl) (by kernel_rfl) hS40 fun ac558 hf617 => ?_
            refine any_skip (i := 7) hf617 rfl rfl rfl rfl (fun _ _ _ h => h) (by kernel_rfl) (by kernel_rfl) (by kernel_rfl) hS40 fun ac559 hf618 => ?_
            refine any_skip (i := 8) hf618 rfl rfl rfl rfl (fun _ _ _ h => h) (by kernel_rfl) (by kernel_rfl) (by kernel_rfl) hS40 fun ac560 hf619 => ?_
            refine any_skip (i := 9) hf619 rfl rfl rfl rfl (fun _ _ _ h => h) (by kernel_rfl) (by kernel_rfl) (by kernel_rfl) hS40 fun ac561 hf620 => ?_
            refine any_skip (i := 10) hf620 rfl rfl rfl rfl (fun _ _ _ h => h) (by kernel_rfl) (by kernel_rfl) (by kernel_rfl) hS40 fun ac562 hf621 => ?_
            refine any_skip (i := 11) hf621 rfl rfl rfl rfl (fun _ _ _ h => h) (by kernel_rfl) (by kernel_rfl) (by kernel_rfl) hS40 fun ac563 hf622 => ?_
            refine any_val (i := 12) (v := .bool false) hf622 rfl rfl rfl rfl rfl rfl (fun _ _ _ h => h) (by kernel_rfl) (by kernel_rfl) (by kernel_rfl) (fun wd60 hS40 => (r_pickF rfl rfl)) hS40 fun ac564 hf623 => ?_
            refine any_end (by kernel_rfl) ?_
            clear hI81 ac537 hf593 ac538 hf594 ac539 hf595 ac540 hf596 hf597 ac541 hf614 ac556 hf615 ac557 hf616 ac558 hf617 ac559 hf618 ac560 hf619 ac561 hf620 ac562 hf621 ac563 hf622 hS40
            refine then_normal ?_
            refine code_if_false hf623 rfl ?_
            refine wp_skip ?_
            refine block_normal ?_
            refine then_normal ?_
            refine seq_start (l := [0, 1]) rfl ?_
            refine seq_one (op_val (v := .int .i64 4) hf623 rfl rfl rfl rfl rfl rfl (r_add (c := 4) rfl rfl (by rfl)) fun ac565 hf624 => ?_)
            refine seq_one (op_val (v := .int .i64 4) hf624 rfl rfl rfl rfl rfl rfl (r_move rfl) fun ac566 hf625 => ?_)
            refine seq_end ?_
            clear ac564 hf623 ac565 hf624
            refine then_normal ?_
            refine rounds_go ?_
            refine code_seq ?_
            refine seq_start (l := [0]) rfl ?_
            refine seq_one (op_val (v := .bool false) hf625 rfl rfl rfl rfl rfl rfl (r_lssC rfl rfl (by decide)) fun ac567 hf626 => ?_)
            refine seq_end ?_
            clear ac566 hf625
            refine then_normal ?_
            refine code_seq ?_
            refine code_if_false hf626 rfl ?_
            refine wp_exit ?_
            refine then_exit ?_
            refine then_exit ?_
            refine block_here ?_
            refine then_normal ?_
            refine code_seq ?_
            refine seq_start (l := [0, 1]) rfl ?_
            refine seq_one (op_pure hf626 rfl rfl rfl rfl ca_33 awake5_pur hI82 fun ac568 wd64 hI86 hf627 => ?_)
            refine seq_one (op_val (v := .bool true) hf627 rfl rfl rfl rfl rfl rfl (r_assign rfl) fun ac569 hf628 => ?_)
            refine seq_end ?_
            clear ac567 wd60 hI82 hf626 ac568 hf627
            refine then_normal ?_
            refine wp_ret ?_
            refine post1 rfl hf628 rfl ⟨?_, hI86.done (fk_app (fresh_keys (ks := [b1, b2, b3, b4, b5]) rfl (fk_cons hb1 (fk_cons hb2 (fk_cons hb3 (fk_cons hb4 (fk_cons hb5 fk_nil)))))) (fk_app (fk_app (fk_app (fk_app hyq6 hyq7) hyq8) hyq9) hyq10))⟩
            rfl
        · have hf629 := hf577.know 80 (u := .bool false) rfl (congrArg Value.bool g80_22)
          refine any_skip (i := 4) hf629 rfl rfl rfl rfl (fun _ _ _ h => h) (by kernel_rfl) (by kernel_rfl) (by kernel_rfl) hS37 fun ac570 hf630 => ?_
          refine any_skip (i := 5) hf630 rfl rfl rfl rfl (fun _ _ _ h => h) (by kernel_rfl) (by kernel_rfl) (by kernel_rfl) hS37 fun ac571 hf631 => ?_
          refine any_skip (i := 6) hf631 rfl rfl rfl rfl (fun _ _ _ h => h) (by kernel_rfl) (by kernel_rfl) (by kernel_rfl) hS37 fun ac572 hf632 => ?_
          refine any_skip (i := 7) hf632 rfl rfl rfl rfl (fun _ _ _ h => h) (by kernel_rfl) (by kernel_rfl) (by kernel_rfl) hS37 fun ac573 hf633 => ?_
          refine any_skip (i := 8) hf633 rfl rfl rfl rfl (fun _ _ _ h => h) (by kernel_rfl) (by kernel_rfl) (by kernel_rfl) hS37 fun ac574 hf634 => ?_
          refine any_skip (i := 9) hf634 rfl rfl rfl rfl (fun _ _ _ h => h) (by kernel_rfl) (by kernel_rfl) (by kernel_rfl) hS37 fun ac575 hf635 => ?_
          refine any_skip (i := 10) hf635 rfl rfl rfl rfl (fun _ _ _ h => h) (by kernel_rfl) (by kernel_rfl) (by kernel_rfl) hS37 fun ac576 hf636 => ?_
          refine any_skip (i := 11) hf636 rfl rfl rfl rfl (fun _ _ _ h => h) (by kernel_rfl) (by kernel_rfl) (by kernel_rfl) hS37 fun ac577 hf637 => ?_
          refine any_val (i := 12) (v := .bool false) hf637 rfl rfl rfl rfl rfl rfl (fun _ _ _ h => h) (by kernel_rfl) (by kernel_rfl) (by kernel_rfl) (fun wd11 hS37 => (r_pickF rfl rfl)) hS37 fun ac578 hf638 => ?_
          refine any_end (by kernel_rfl) ?_
          clear hI63 ac519 hf573 ac520 hf574 ac521 hf575 ac522 hf576 hf577 ac523 hf629 ac570 hf630 ac571 hf631 ac572 hf632 ac573 hf633 ac574 hf634 ac575 hf635 ac576 hf636 ac577 hf637 hS37
          refine then_normal ?_
          refine code_if_false hf638 rfl ?_
          refine wp_skip ?_
          refine block_normal ?_
          refine then_normal ?_
          refine seq_start (l := [0, 1]) rfl ?_
          refine seq_one (op_val (v := .int .i64 3) hf638 rfl rfl rfl rfl rfl rfl (r_add (c := 3) rfl rfl (by rfl)) fun ac579 hf639 => ?_)
          refine seq_one (op_val (v := .int .i64 3) hf639 rfl rfl rfl rfl rfl rfl (r_move rfl) fun ac580 hf640 => ?_)
          refine seq_end ?_
          clear ac578 hf638 ac579 hf639
          refine then_normal ?_
          refine rounds_go ?_
          refine code_seq ?_
          refine seq_start (l := [0]) rfl ?_
          refine seq_one (op_val (v := .bool true) hf640 rfl rfl rfl rfl rfl rfl (r_lssC rfl rfl (by decide)) fun ac581 hf641 => ?_)
          refine seq_end ?_
          clear ac580 hf640
          refine then_normal ?_
          refine code_seq ?_
          refine code_if_true hf641 rfl ?_
          refine wp_skip ?_
          refine then_normal ?_
          refine code_seq ?_
          refine wp_block ?_
          refine code_seq ?_
          refine seq_start (l := [0, 1]) rfl ?_
          refine seq_one (op_val (v := .int .i64 3) hf641 rfl rfl rfl rfl rfl rfl (r_move rfl) fun ac582 hf642 => ?_)
          refine seq_one (op_val (v := .int .i64 3) hf642 rfl rfl rfl rfl rfl rfl (r_assign rfl) fun ac583 hf643 => ?_)
          refine seq_end ?_
          clear ac581 hf641 ac582 hf642
          refine then_normal ?_
          refine code_seq ?_
          refine any_start (fun w => Has [(b5, #[.slice q6 ((c4.lst 0).length) capq6, .slice q7 ((c4.lst 1).length) capq7, .slice q8 ((c4.lst 2).length) capq8, .slice q9 ((c4.lst 3).length) capq9], 53)] w) follows (Has.drew (Has.cons (hI79.at 4 rfl) Has.nil)) ?_
          have hS43 : Has [(b5, #[.slice q6 ((c4.lst 0).length) capq6, .slice q7 ((c4.lst 1).length) capq7, .slice q8 ((c4.lst 2).length) capq8, .slice q9 ((c4.lst 3).length) capq9], 53)] _ := Has.drew (Has.cons (hI79.at 4 rfl) Has.nil)
          have hI87 := hI79.drew
          refine any_val (i := 0) (v := .int .i64 3) hf643 rfl rfl rfl rfl rfl rfl (fun _ _ _ h => h) (by kernel_rfl) (by kernel_rfl) (by kernel_rfl) (fun wd11 hS43 => (r_move rfl)) hS43 fun ac584 hf644 => ?_
          refine any_val (i := 1) (v := .int .i64 k) hf644 rfl rfl rfl rfl rfl rfl (fun _ _ _ h => h) (by kernel_rfl) (by kernel_rfl) (by kernel_rfl) (fun wd11 hS43 => (r_move rfl)) hS43 fun ac585 hf645 => ?_
          refine any_val (i := 2) (v := .bool (3 != k)) hf645 rfl rfl rfl rfl rfl rfl (fun _ _ _ h => h) (by kernel_rfl) (by kernel_rfl) (by kernel_rfl) (fun wd11 hS43 => (r_neq rfl rfl)) hS43 fun ac586 hf646 => ?_
          refine any_val (i := 3) (v := .bool (3 != k)) hf646 rfl rfl rfl rfl rfl rfl (fun _ _ _ h => h) (by kernel_rfl) (by kernel_rfl) (by kernel_rfl) (fun wd11 hS43 => (r_move rfl)) hS43 fun ac587 hf647 => ?_
          rcases Bool.eq_false_or_eq_true (3 != k : Bool) with g80_24 | g80_24
          · have hf648 := hf647.know 80 (u := .bool true) rfl (congrArg Value.bool g80_24)
            refine any_val (i := 4) (v := .pointer (some ⟨b4, 0, none⟩)) hf648 rfl rfl rfl rfl rfl rfl (fun _ _ _ h => h) (by kernel_rfl) (by kernel_rfl) (by kernel_rfl) (fun wd11 hS43 => (r_move rfl)) hS43 fun ac588 hf649 => ?_
            refine any_val (i := 5) (v := .int .i64 3) hf649 rfl rfl rfl rfl rfl rfl (fun _ _ _ h => h) (by kernel_rfl) (by kernel_rfl) (by kernel_rfl) (fun wd11 hS43 => (r_move rfl)) hS43 fun ac589 hf650 => ?_
            refine any_val (i := 7) (v := .int .i64 3) hf650 rfl rfl rfl rfl rfl rfl (fun _ _ _ h => h) (by kernel_rfl) (by kernel_rfl) (by kernel_rfl) (fun wd11 hS43 => (r_move rfl)) hS43 fun ac590 hf651 => ?_
            refine any_val (i := 8) (v := .pointer (some ⟨b5, 3, none⟩)) hf651 rfl rfl rfl rfl rfl rfl (fun _ _ _ h => h) (by kernel_rfl) (by kernel_rfl) (by kernel_rfl) (fun wd11 hS43 => (r_indexAddr (i := 3) ar_53 rfl rfl rfl (by decide) rfl)) hS43 fun ac591 hf652 => ?_
            refine any_val (i := 9) (v := .slice q9 ((c4.lst 3).length) capq9) hf652 rfl rfl rfl rfl rfl rfl (fun _ _ _ h => h) (by kernel_rfl) (by kernel_rfl) (by kernel_rfl) (fun wd11 hS43 => (r_load ag_27 rfl (hS43.at 0 rfl) rfl)) hS43 fun ac592 hf653 => ?_
            refine any_one (i := 6) (by kernel_rfl) ?_
            refine (op_call (R := fun v w' => ∃ S p cap, v = .slice p (d.lst 3).length cap ∧ Sl 3 .i64 S p cap (d.lst 3) ∧ Inv _ S w' ∧ ∀ x ∈ S, Array.size (World.heap _) ≤ x.1) hf653 rfl rfl rfl rfl ca_28 ((list_any (hI87.nd 0 rfl rfl rfl rfl) d (Has.cons (hI87.at 0 rfl) (Has.cons (hI87.at 1 rfl) (Has.cons (hI87.at 2 rfl) (Has.cons (hI87.at 3 rfl) Has.nil)))) 3).mono fun _ _ ⟨S, p, cap, he, h1, h3, h4⟩ => ⟨_, he, S, p, cap, rfl, h1, h3, h4⟩) fun ac593 v wd65 hR hf654 => ?_)
            obtain ⟨Sq10, q10, capq10, rfl, hsq10, hwq10, hzq10⟩ := hR
            have hyq10 := fk_le hI87.size hzq10
            have hI88 : Inv w ([(b1, arr .i64 d.lk, 103), (b2, arr .i64 d.of, 3), (b3, arr .i64 d.mn, 3), (b4, #[.slice (some ⟨b1, 0, none⟩) (20 + 4) (20 + 4), .slice (some ⟨b2, 0, none⟩) 20 20, .slice (some ⟨b3, 0, none⟩) 4 4], 79), (b5, #[.slice q6 ((c4.lst 0).length) capq6, .slice q7 ((c4.lst 1).length) capq7, .slice q8 ((c4.lst 2).length) capq8, .slice q9 ((c4.lst 3).length) capq9], 53)] ++ ((((Sq6 ++ Sq7) ++ Sq8) ++ Sq9) ++ Sq10)) _ := hI87.callN hwq10 hzq10
            refine ⟨?_, ?_⟩
            · exact (Has.cons (hI88.at 4 rfl) Has.nil)
            have hS44 : Has [(b5, #[.slice q6 ((c4.lst 0).length) capq6, .slice q7 ((c4.lst 1).length) capq7, .slice q8 ((c4.lst 2).length) capq8, .slice q9 ((c4.lst 3).length) capq9], 53)] _ := (Has.cons (hI88.at 4 rfl) Has.nil)
            refine any_one (i := 10) (by kernel_rfl) ?_
            refine (op_pureW hf654 rfl rfl rfl rfl ca_19 (ints_walk (xs := (d.lst 3)) (ys := (c4.lst 3)) rfl rfl (Nat.le_trans (Ch.lst_le _ _) (by omega)) (hsq10.rd hI88 (fun x hx => List.mem_append_right _ (List.mem_append_right _ hx))) (hsq9.rd hI88 (fun x hx => List.mem_append_right _ (List.mem_append_left _ (List.mem_append_right _ hx))))) hI88 fun ac594 wd66 hI89 hf655 => ⟨?_, ?_⟩)
            · exact (Has.cons (hI89.at 4 rfl) Has.nil)
            have hS45 : Has [(b5, #[.slice q6 ((c4.lst 0).length) capq6, .slice q7 ((c4.lst 1).length) capq7, .slice q8 ((c4.lst 2).length) capq8, .slice q9 ((c4.lst 3).length) capq9], 53)] _ := (Has.cons (hI89.at 4 rfl) Has.nil)
            refine any_val (i := 11) (v := .bool (!((d.lst 3) == (c4.lst 3)))) hf655 rfl rfl rfl rfl rfl rfl (fun _ _ _ h => h) (by kernel_rfl) (by kernel_rfl) (by kernel_rfl) (fun wd66 hS45 => (r_not rfl)) hS45 fun ac595 hf656 => ?_
            refine any_val (i := 12) (v := .bool (!((d.lst 3) == (c4.lst 3)))) hf656 rfl rfl rfl rfl rfl rfl (fun _ _ _ h => h) (by kernel_rfl) (by kernel_rfl) (by kernel_rfl) (fun wd66 hS45 => (r_pickT rfl rfl)) hS45 fun ac596 hf657 => ?_
            refine any_end (by kernel_rfl) ?_
            clear hI79 ac583 hf643 ac584 hf644 ac585 hf645 ac586 hf646 hf647 ac587 hf648 ac588 hf649 ac589 hf650 ac590 hf651 ac591 hf652 ac592 wd11 hf653 hI87 hwq10 hzq10 hS43 ac593 wd65 hI88 hf654 hS44 ac594 hf655 ac595 hf656 hS45
            refine then_normal ?_
            have hf658 := hf657.know 89 (u := .bool false) rfl (congrArg Value.bool (by rw [hx2.2 _ (bne_iff_ne.1 g80_24), beq_self_eq_true]; rfl))
            refine code_if_false hf658 rfl ?_
            refine wp_skip ?_
            refine block_normal ?_
            refine then_normal ?_
            refine seq_start (l := [0, 1]) rfl ?_
            refine seq_one (op_val (v := .int .i64 4) hf658 rfl rfl rfl rfl rfl rfl (r_add (c := 4) rfl rfl (by rfl)) fun ac597 hf659 => ?_)
            refine seq_one (op_val (v := .int .i64 4) hf659 rfl rfl rfl rfl rfl rfl (r_move rfl) fun ac598 hf660 => ?_)
            refine seq_end ?_
            clear hf657 ac596 hf658 ac597 hf659
            refine then_normal ?_
            refine rounds_go ?_
            refine code_seq ?_
            refine seq_start (l := [0]) rfl ?_
            refine seq_one (op_val (v := .bool false) hf660 rfl rfl rfl rfl rfl rfl (r_lssC rfl rfl (by decide)) fun ac599 hf661 => ?_)
            refine seq_end ?_
            clear ac598 hf660
            refine then_normal ?_
            refine code_seq ?_
            refine code_if_false hf661 rfl ?_
            refine wp_exit ?_
            refine then_exit ?_
            refine then_exit ?_
            refine block_here ?_
            refine then_normal ?_
            refine code_seq ?_
            refine seq_start (l := [0, 1]) rfl ?_
            refine seq_one (op_pure hf661 rfl rfl rfl rfl ca_33 awake5_pur hI89 fun ac600 wd67 hI90 hf662 => ?_)
            refine seq_one (op_val (v := .bool true) hf662 rfl rfl rfl rfl rfl rfl (r_assign rfl) fun ac601 hf663 => ?_)
            refine seq_end ?_
            clear ac599 wd66 hI89 hf661 ac600 hf662
            refine then_normal ?_
            refine wp_ret ?_
            refine post1 rfl hf663 rfl ⟨?_, hI90.done (fk_app (fresh_keys (ks := [b1, b2, b3, b4, b5]) rfl (fk_cons hb1 (fk_cons hb2 (fk_cons hb3 (fk_cons hb4 (fk_cons hb5 fk_nil)))))) (fk_app (fk_app (fk_app (fk_app hyq6 hyq7) hyq8) hyq9) hyq10))⟩
            rfl
          · have hf664 := hf647.know 80 (u := .bool false) rfl (congrArg Value.bool g80_24)
            refine any_skip (i := 4) hf664 rfl rfl rfl rfl (fun _ _ _ h => h) (by kernel_rfl) (by kernel_rfl) (by kernel_rfl) hS43 fun ac602 hf665 => ?_
            refine any_skip (i := 5) hf665 rfl rfl rfl rfl (fun _ _ _ h => h) (by kernel_rfl) (by kernel_rfl) (by kernel_rfl) hS43 fun ac603 hf666 => ?_
            refine any_skip (i := 6) hf666 rfl rfl rfl rfl (fun _ _ _ h => h) (by kernel_rfl) (by kernel_rfl) (by kernel_rfl) hS43 fun ac604 hf667 => ?_
            refine any_skip (i := 7) hf667 rfl rfl rfl rfl (fun _ _ _ h => h) (by kernel_rfl) (by kernel_rfl) (by kernel_rfl) hS43 fun ac605 hf668 => ?_
            refine any_skip (i := 8) hf668 rfl rfl rfl rfl (fun _ _ _ h => h) (by kernel_rfl) (by kernel_rfl) (by kernel_rfl) hS43 fun ac606 hf669 => ?_
            refine any_skip (i := 9) hf669 rfl rfl rfl rfl (fun _ _ _ h => h) (by kernel_rfl) (by kernel_rfl) (by kernel_rfl) hS43 fun ac607 hf670 => ?_
            refine any_skip (i := 10) hf670 rfl rfl rfl rfl (fun _ _ _ h => h) (by kernel_rfl) (by kernel_rfl) (by kernel_rfl) hS43 fun ac608 hf671 => ?_
            refine any_skip (i := 11) hf671 rfl rfl rfl rfl (fun _ _ _ h => h) (by kernel_rfl) (by kernel_rfl) (by kernel_rfl) hS43 fun ac609 hf672 => ?_
            refine any_val (i := 12) (v := .bool false) hf672 rfl rfl rfl rfl rfl rfl (fun _ _ _ h => h) (by kernel_rfl) (by kernel_rfl) (by kernel_rfl) (fun wd11 hS43 => (r_pickF rfl rfl)) hS43 fun ac610 hf673 => ?_
            refine any_end (by kernel_rfl) ?_
            clear hI79 ac583 hf643 ac584 hf644 ac585 hf645 ac586 hf646 hf647 ac587 hf664 ac602 hf665 ac603 hf666 ac604 hf667 ac605 hf668 ac606 hf669 ac607 hf670 ac608 hf671 ac609 hf672 hS43
            refine then_normal ?_
            refine code_if_false hf673 rfl ?_
            refine wp_skip ?_
            refine block_normal ?_
            refine then_normal ?_
            refine seq_start (l := [0, 1]) rfl ?_
            refine seq_one (op_val (v := .int .i64 4) hf673 rfl rfl rfl rfl rfl rfl (r_add (c := 4) rfl rfl (by rfl)) fun ac611 hf674 => ?_)
            refine seq_one (op_val (v := .int .i64 4) hf674 rfl rfl rfl rfl rfl rfl (r_move rfl) fun ac612 hf675 => ?_)
            refine seq_end ?_
            clear ac610 hf673 ac611 hf674
            refine then_normal ?_
            refine rounds_go ?_
            refine code_seq ?_
            refine seq_start (l := [0]) rfl ?_
            refine seq_one (op_val (v := .bool false) hf675 rfl rfl rfl rfl rfl rfl (r_lssC rfl rfl (by decide)) fun ac613 hf676 => ?_)
            refine seq_end ?_
            clear ac612 hf675
            refine then_normal ?_
            refine code_seq ?_
            refine code_if_false hf676 rfl ?_
            refine wp_exit ?_
            refine then_exit ?_
            refine then_exit ?_
            refine block_here ?_
            refine then_normal ?_
            refine code_seq ?_
            refine seq_start (l := [0, 1]) rfl ?_
            refine seq_one (op_pure hf676 rfl rfl rfl rfl ca_33 awake5_pur hI87 fun ac614 wd68 hI91 hf677 => ?_)
            refine seq_one (op_val (v := .bool true) hf677 rfl rfl rfl rfl rfl rfl (r_assign rfl) fun ac615 hf678 => ?_)
            refine seq_end ?_
            clear ac613 wd11 hI87 hf676 ac614 hf677
            refine then_normal ?_
            refine wp_ret ?_
            refine post1 rfl hf678 rfl ⟨?_, hI91.done (fk_app (fresh_keys (ks := [b1, b2, b3, b4, b5]) rfl (fk_cons hb1 (fk_cons hb2 (fk_cons hb3 (fk_cons hb4 (fk_cons hb5 fk_nil)))))) (fk_app (fk_app (fk_app hyq6 hyq7) hyq8) hyq9))⟩
            rfl
end Go.Proofs.Ytjelaoblpchmmaa
