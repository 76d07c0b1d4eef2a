/-
  The walk of DrrTells.
-/
import Derived.Test.YtjelaoblpchmmaaRef17e
namespace Go.Proofs.Ytjelaoblpchmmaa
set_option linter.unusedVariables false
set_option linter.unusedSimpArgs false
set_option maxRecDepth 100000
open Go.RowKit
set_option maxHeartbeats 8000000 in
theorem drrTells0_walk {p : Option Addr} {L cap : Nat} {rows : List (List Value)} (hl : rows.length = L) (hc : L ≤ cap) (ho : ∀ row ∈ rows, Oks opKinds row) {n q : Int} (hbad : n < 1 ∨ n > 4096 ∨ q < 64 ∨ q > 1048576) {w : World} (hr : Rows_ w p 3 rows) : Calls Try.prog 12 [.int .i64 n, .int .i64 q, .slice p L cap].toArray w fun e w' => e = .returned (.bool true) ∧ Inv w [] w' := by
  have hok : okN n q = false := decide_eq_false (by omega)
  have hI1 := Inv.start w
  refine enter (n := 261) Try.func12 rfl rfl rfl ?_
  intro ac1 hf1
  refine code_seq ?_
  refine seq_start (l := [0]) rfl ?_
  refine seq_one (op_val (v := .bool false) hf1 rfl rfl rfl rfl rfl rfl (r_assign rfl) fun ac2 hf2 => ?_)
  refine seq_end ?_
  clear ac1 hf1
  refine then_normal ?_
  refine code_seq ?_
  refine seq_start (l := [0, 1, 2, 3, 4, 5, 6, 7]) rfl ?_
  refine seq_one (op_val (v := .int .i64 n) hf2 rfl rfl rfl rfl rfl rfl (r_move rfl) fun ac3 hf3 => ?_)
  refine seq_one (op_val (v := .int .i64 q) hf3 rfl rfl rfl rfl rfl rfl (r_move rfl) fun ac4 hf4 => ?_)
  refine seq_one (op_pure hf4 rfl rfl rfl rfl ca_26 (newr_bad hbad) hI1 fun ac5 wd1 hI2 hf5 => ?_)
  refine seq_one (op_val (v := .tuple #[.pointer none, .int .i64 2]) hf5 rfl rfl rfl rfl rfl rfl (r_move rfl) fun ac6 hf6 => ?_)
  refine seq_one (op_val (v := .pointer none) hf6 rfl rfl rfl rfl rfl rfl (r_extract rfl rfl) fun ac7 hf7 => ?_)
  refine seq_one (op_val (v := .int .i64 2) hf7 rfl rfl rfl rfl rfl rfl (r_extract rfl rfl) fun ac8 hf8 => ?_)
  refine seq_one (op_val (v := .pointer none) hf8 rfl rfl rfl rfl rfl rfl (r_assign rfl) fun ac9 hf9 => ?_)
  refine seq_one (op_val (v := .int .i64 2) hf9 rfl rfl rfl rfl rfl rfl (r_assign rfl) fun ac10 hf10 => ?_)
  refine seq_end ?_
  clear ac2 hf2 ac3 hf3 ac4 hI1 hf4 ac5 hf5 ac6 hf6 ac7 hf7 ac8 hf8 ac9 hf9
  refine then_normal ?_
  refine code_seq ?_
  refine seq_start (l := [0, 1, 2, 3, 4, 5, 6, 7, 8]) rfl ?_
  refine seq_one (op_val (v := .int .i64 n) hf10 rfl rfl rfl rfl rfl rfl (r_move rfl) fun ac11 hf11 => ?_)
  refine seq_one (op_val (v := .int .i64 q) hf11 rfl rfl rfl rfl rfl rfl (r_move rfl) fun ac12 hf12 => ?_)
  refine seq_one (op_pureW hf12 rfl rfl rfl rfl ca_43 ((rnew_walk (n := n) (q := q) _).mono fun _ _ h => by rw [hok] at h; exact h) hI2 fun ac13 wd2 hI3 hf13 => ?_)
  refine seq_one (op_val (v := .tuple #[.agg #[.int .i64 n, .int .i64 q, .slice none 0 0, .slice none 0 0], .bool false]) hf13 rfl rfl rfl rfl rfl rfl (r_move rfl) fun ac14 hf14 => ?_)
  refine seq_one (op_val (v := .agg #[.int .i64 n, .int .i64 q, .slice none 0 0, .slice none 0 0]) hf14 rfl rfl rfl rfl rfl rfl (r_extract rfl rfl) fun ac15 hf15 => ?_)
  refine seq_one (op_val (v := .bool false) hf15 rfl rfl rfl rfl rfl rfl (r_extract rfl rfl) fun ac16 hf16 => ?_)
  refine seq_one (op_alloc hf16 rfl rfl rfl ze_85 hI3 fun ac17 b1 wd3 hb1 hI4 hf17 => ?_)
  have hI5 : Inv w [(b1, #[.int .i64 0, .int .i64 0, .slice none 0 0, .slice none 0 0], 85)] wd3 := hI4
  refine seq_one (op_storeW (cells := #[.int .i64 n, .int .i64 q, .slice none 0 0, .slice none 0 0]) 0 hf17 rfl rfl rfl rfl rfl sz_85 rfl rfl hI5 rfl rfl fun wd4 hI6 => ?_)
  have hI7 : Inv w [(b1, #[.int .i64 n, .int .i64 q, .slice none 0 0, .slice none 0 0], 85)] wd4 := hI6
  refine seq_one (op_val (v := .bool false) hf17 rfl rfl rfl rfl rfl rfl (r_assign rfl) fun ac18 hf18 => ?_)
  refine seq_end ?_
  clear ac10 hf10 ac11 hf11 ac12 wd1 hI2 hf12 ac13 hf13 ac14 hf14 ac15 hf15 ac16 wd2 hI3 hf16 hI4 wd3 hI5 hI6 ac17 hf17
  refine then_normal ?_
  refine code_seq ?_
  refine code_seq ?_
  refine seq_start (l := [0, 1, 2, 3, 4, 5, 6, 7, 8, 9, 10, 11, 12, 13, 14, 15]) rfl ?_
  refine seq_one (op_val (v := .int .i64 2) hf18 rfl rfl rfl rfl rfl rfl (r_move rfl) fun ac19 hf19 => ?_)
  refine seq_one (op_val (v := .bool false) hf19 rfl rfl rfl rfl rfl rfl (r_eqlC rfl rfl (by decide)) fun ac20 hf20 => ?_)
  refine seq_one (op_val (v := .bool false) hf20 rfl rfl rfl rfl rfl rfl (r_move rfl) fun ac21 hf21 => ?_)
  refine seq_one (op_val (v := .bool false) hf21 rfl rfl rfl rfl rfl rfl ((r_neB (p := false) (q := false) ub_4 rfl rfl).trans rfl) fun ac22 hf22 => ?_)
  refine seq_one (op_val (v := .bool false) hf22 rfl rfl rfl rfl rfl rfl (r_move rfl) fun ac23 hf23 => ?_)
  refine seq_one (op_val (v := .bool false) hf23 rfl rfl rfl rfl rfl rfl (r_move rfl) fun ac24 hf24 => ?_)
  refine seq_one (op_val (v := .bool true) hf24 rfl rfl rfl rfl rfl rfl ((r_not (b := false) rfl).trans rfl) fun ac25 hf25 => ?_)
  refine seq_one (op_val (v := .bool true) hf25 rfl rfl rfl rfl rfl rfl (r_move rfl) fun ac26 hf26 => ?_)
  refine seq_one (op_val (v := .int .i64 2) hf26 rfl rfl rfl rfl rfl rfl (r_move rfl) fun ac27 hf27 => ?_)
  refine seq_one (op_val (v := .bool false) hf27 rfl rfl rfl rfl rfl rfl (r_neqC rfl rfl (by decide)) fun ac28 hf28 => ?_)
  refine seq_one (op_val (v := .bool false) hf28 rfl rfl rfl rfl rfl rfl (r_move rfl) fun ac29 hf29 => ?_)
  refine seq_one (op_val (v := .pointer none) hf29 rfl rfl rfl rfl rfl rfl (r_move rfl) fun ac30 hf30 => ?_)
  refine seq_one (op_val (v := .bool false) hf30 rfl rfl rfl rfl rfl rfl (r_neNil up_24 rfl rfl rfl) fun ac31 hf31 => ?_)
  refine seq_one (op_val (v := .bool false) hf31 rfl rfl rfl rfl rfl rfl (r_pickF rfl rfl) fun ac32 hf32 => ?_)
  refine seq_one (op_val (v := .bool false) hf32 rfl rfl rfl rfl rfl rfl (r_pickT rfl rfl) fun ac33 hf33 => ?_)
  refine seq_one (op_val (v := .bool false) hf33 rfl rfl rfl rfl rfl rfl (r_pickF rfl rfl) fun ac34 hf34 => ?_)
  refine seq_end ?_
  clear ac18 hf18 ac19 hf19 ac20 hf20 ac21 hf21 ac22 hf22 ac23 hf23 ac24 hf24 ac25 hf25 ac26 hf26 ac27 hf27 ac28 hf28 ac29 hf29 ac30 hf30 ac31 hf31 ac32 hf32 ac33 hf33
  refine then_normal ?_
  refine code_if_false hf34 rfl ?_
  refine wp_skip ?_
  refine then_normal ?_
  refine code_seq ?_
  refine code_seq ?_
  refine seq_start (l := [0, 1, 2, 3, 4, 5, 6, 7, 8, 9, 10]) rfl ?_
  refine seq_one (op_val (v := .bool false) hf34 rfl rfl rfl rfl rfl rfl (r_move rfl) fun ac35 hf35 => ?_)
  refine seq_one (op_val (v := .bool true) hf35 rfl rfl rfl rfl rfl rfl ((r_not (b := false) rfl).trans rfl) fun ac36 hf36 => ?_)
  refine seq_one (op_val (v := .bool true) hf36 rfl rfl rfl rfl rfl rfl (r_move rfl) fun ac37 hf37 => ?_)
  refine seq_one (op_skip hf37 rfl rfl rfl rfl fun ac38 hf38 => ?_)
  refine seq_one (op_skip hf38 rfl rfl rfl rfl fun ac39 hf39 => ?_)
  refine seq_one (op_val (v := .bool true) hf39 rfl rfl rfl rfl rfl rfl (r_pickT rfl rfl) fun ac40 hf40 => ?_)
  refine seq_one (op_val (v := .bool true) hf40 rfl rfl rfl rfl rfl rfl (r_move rfl) fun ac41 hf41 => ?_)
  refine seq_one (op_skip hf41 rfl rfl rfl rfl fun ac42 hf42 => ?_)
  refine seq_one (op_skip hf42 rfl rfl rfl rfl fun ac43 hf43 => ?_)
  refine seq_one (op_skip hf43 rfl rfl rfl rfl fun ac44 hf44 => ?_)
  refine seq_one (op_val (v := .bool true) hf44 rfl rfl rfl rfl rfl rfl (r_pickT rfl rfl) fun ac45 hf45 => ?_)
  refine seq_end ?_
  clear ac34 hf34 ac35 hf35 ac36 hf36 ac37 hf37 ac38 hf38 ac39 hf39 ac40 hf40 ac41 hf41 ac42 hf42 ac43 hf43 ac44 hf44
  refine then_normal ?_
  refine code_if_true hf45 rfl ?_
  refine code_seq ?_
  refine seq_start (l := [0, 1]) rfl ?_
  refine seq_one (op_pure hf45 rfl rfl rfl rfl ca_23 awake17_pur hI7 fun ac46 wd5 hI8 hf46 => ?_)
  refine seq_one (op_val (v := .bool true) hf46 rfl rfl rfl rfl rfl rfl (r_assign rfl) fun ac47 hf47 => ?_)
  refine seq_end ?_
  clear ac45 wd4 hI7 hf45 ac46 hf46
  refine then_normal ?_
  refine wp_ret ?_
  refine then_ret ?_
  refine post1 rfl hf47 rfl ⟨?_, hI8.done (fresh_keys (ks := [b1]) rfl (fk_cons hb1 fk_nil))⟩
  rfl
set_option maxHeartbeats 8000000 in
theorem drrTells1_walk {p : Option Addr} {L cap : Nat} {rows : List (List Value)} (hl : rows.length = L) (hc : L ≤ cap) (ho : ∀ row ∈ rows, Oks opKinds row) {N : Nat} {q : Int} (h1 : 1 ≤ N) (hN : N ≤ 4096) (hq : 64 ≤ q ∧ q ≤ 1048576) {w : World} (hr : Rows_ w p 3 rows) : Calls Try.prog 12 [.int .i64 (N : Int), .int .i64 q, .slice p L cap].toArray w fun e w' => e = .returned (.bool true) ∧ Inv w [] w' := by
  have hok : okN (N : Int) q = true := decide_eq_true (by omega)
  have hI1 := Inv.start w
  refine enter (n := 261) Try.func12 rfl rfl rfl ?_
  intro ac1 hf1
  refine code_seq ?_
  refine seq_start (l := [0]) rfl ?_
  refine seq_one (op_val (v := .bool false) hf1 rfl rfl rfl rfl rfl rfl (r_assign rfl) fun ac2 hf2 => ?_)
  refine seq_end ?_
  clear ac1 hf1
  refine then_normal ?_
  refine code_seq ?_
  refine seq_start (l := [0, 1, 2, 3, 4, 5, 6, 7]) rfl ?_
  refine seq_one (op_val (v := .int .i64 (N : Int)) hf2 rfl rfl rfl rfl rfl rfl (r_move rfl) fun ac3 hf3 => ?_)
  refine seq_one (op_val (v := .int .i64 q) hf3 rfl rfl rfl rfl rfl rfl (r_move rfl) fun ac4 hf4 => ?_)
  refine seq_one (op_call (R := fun v w' => ∃ lb ob mb cb rc rb, Array.size (World.heap w) ≤ lb ∧ Array.size (World.heap w) ≤ ob ∧ Array.size (World.heap w) ≤ mb ∧ Array.size (World.heap w) ≤ cb ∧ Array.size (World.heap w) ≤ rc ∧ Array.size (World.heap w) ≤ rb ∧ v = .tuple #[.pointer (some ⟨rb, 0, none⟩), .int .i64 0] ∧ Inv w [(lb, arr .i64 ((Ro.new N q h1 hN hq).c).lk, 103), (ob, arr .i64 ((Ro.new N q h1 hN hq).c).of, 3), (mb, arr .i64 ((Ro.new N q h1 hN hq).c).mn, 3), (cb, #[.slice (some ⟨lb, 0, none⟩) (N + 2) (N + 2), .slice (some ⟨ob, 0, none⟩) N N, .slice (some ⟨mb, 0, none⟩) 2 2], 79), (rc, arr .i64 (Ro.new N q h1 hN hq).cr, 3), (rb, #[.pointer (some ⟨cb, 0, none⟩), .slice (some ⟨rc, 0, none⟩) N N, .int .i64 ((Ro.new N q h1 hN hq).q)], 45)] w') hf4 rfl rfl rfl rfl ca_26 ((newr_walk (N := N) (q := q) h1 hN hq _).mono fun e w' ⟨lb, ob, mb, cb, rc, rb, h1, h2, h3, h4, h5, h6, h7, h8⟩ => ⟨_, h7, lb, ob, mb, cb, rc, rb, h1, h2, h3, h4, h5, h6, rfl, h8⟩) fun ac5 v wd1 hR hf5 => ?_)
  obtain ⟨b1, b2, b3, b4, b5, b6, hqb1, hqb2, hqb3, hqb4, hqb5, hqb6, rfl, hw6⟩ := hR
  have hb1 := Nat.le_trans hI1.size hqb1
  have hb2 := Nat.le_trans hI1.size hqb2
  have hb3 := Nat.le_trans hI1.size hqb3
  have hb4 := Nat.le_trans hI1.size hqb4
  have hb5 := Nat.le_trans hI1.size hqb5
  have hb6 := Nat.le_trans hI1.size hqb6
  have hI2 : Inv w [(b1, arr .i64 ((Ro.new N q h1 hN hq).c).lk, 103), (b2, arr .i64 ((Ro.new N q h1 hN hq).c).of, 3), (b3, arr .i64 ((Ro.new N q h1 hN hq).c).mn, 3), (b4, #[.slice (some ⟨b1, 0, none⟩) (N + 2) (N + 2), .slice (some ⟨b2, 0, none⟩) N N, .slice (some ⟨b3, 0, none⟩) 2 2], 79), (b5, arr .i64 (Ro.new N q h1 hN hq).cr, 3), (b6, #[.pointer (some ⟨b4, 0, none⟩), .slice (some ⟨b5, 0, none⟩) N N, .int .i64 ((Ro.new N q h1 hN hq).q)], 45)] _ := hI1.callN hw6 (fk6 hqb1 hqb2 hqb3 hqb4 hqb5 hqb6)
  obtain ⟨r7, er7⟩ : ∃ r : Ro N, r = (Ro.new N q h1 hN hq) := ⟨_, rfl⟩
  rw [← er7] at hI2
  refine seq_one (op_val (v := .tuple #[.pointer (some ⟨b6, 0, none⟩), .int .i64 0]) hf5 rfl rfl rfl rfl rfl rfl (r_move rfl) fun ac6 hf6 => ?_)
  refine seq_one (op_val (v := .pointer (some ⟨b6, 0, none⟩)) hf6 rfl rfl rfl rfl rfl rfl (r_extract rfl rfl) fun ac7 hf7 => ?_)
  refine seq_one (op_val (v := .int .i64 0) hf7 rfl rfl rfl rfl rfl rfl (r_extract rfl rfl) fun ac8 hf8 => ?_)
  refine seq_one (op_val (v := .pointer (some ⟨b6, 0, none⟩)) hf8 rfl rfl rfl rfl rfl rfl (r_assign rfl) fun ac9 hf9 => ?_)
  refine seq_one (op_val (v := .int .i64 0) hf9 rfl rfl rfl rfl rfl rfl (r_assign rfl) fun ac10 hf10 => ?_)
  refine seq_end ?_
  clear ac2 hf2 ac3 hf3 ac4 hf4 hI1 hw6 hqb1 hqb2 hqb3 hqb4 hqb5 hqb6 ac5 hf5 ac6 hf6 ac7 hf7 ac8 hf8 ac9 hf9
  refine then_normal ?_
  refine code_seq ?_
  refine seq_start (l := [0, 1, 2, 3, 4, 5, 6, 7, 8]) rfl ?_
  refine seq_one (op_val (v := .int .i64 (N : Int)) hf10 rfl rfl rfl rfl rfl rfl (r_move rfl) fun ac11 hf11 => ?_)
  refine seq_one (op_val (v := .int .i64 q) hf11 rfl rfl rfl rfl rfl rfl (r_move rfl) fun ac12 hf12 => ?_)
  refine seq_one (op_pureW hf12 rfl rfl rfl rfl ca_43 ((rnew_walk (n := (N : Int)) (q := q) _).mono fun _ _ h => by rw [hok] at h; exact h) hI2 fun ac13 wd2 hI3 hf13 => ?_)
  refine seq_one (op_val (v := .tuple #[.agg #[.int .i64 (N : Int), .int .i64 q, .slice none 0 0, .slice none 0 0], .bool true]) hf13 rfl rfl rfl rfl rfl rfl (r_move rfl) fun ac14 hf14 => ?_)
  refine seq_one (op_val (v := .agg #[.int .i64 (N : Int), .int .i64 q, .slice none 0 0, .slice none 0 0]) hf14 rfl rfl rfl rfl rfl rfl (r_extract rfl rfl) fun ac15 hf15 => ?_)
  refine seq_one (op_val (v := .bool true) hf15 rfl rfl rfl rfl rfl rfl (r_extract rfl rfl) fun ac16 hf16 => ?_)
  refine seq_one (op_alloc hf16 rfl rfl rfl ze_85 hI3 fun ac17 b8 wd3 hb8 hI4 hf17 => ?_)
  have hI5 : Inv w [(b1, arr .i64 r7.c.lk, 103), (b2, arr .i64 r7.c.of, 3), (b3, arr .i64 r7.c.mn, 3), (b4, #[.slice (some ⟨b1, 0, none⟩) (N + 2) (N + 2), .slice (some ⟨b2, 0, none⟩) N N, .slice (some ⟨b3, 0, none⟩) 2 2], 79), (b5, arr .i64 r7.cr, 3), (b6, #[.pointer (some ⟨b4, 0, none⟩), .slice (some ⟨b5, 0, none⟩) N N, .int .i64 r7.q], 45), (b8, #[.int .i64 0, .int .i64 0, .slice none 0 0, .slice none 0 0], 85)] wd3 := hI4
  refine seq_one (op_storeW (cells := #[.int .i64 (N : Int), .int .i64 q, .slice none 0 0, .slice none 0 0]) 6 hf17 rfl rfl rfl rfl rfl sz_85 rfl rfl hI5 rfl rfl fun wd4 hI6 => ?_)
  have hI7 : Inv w [(b1, arr .i64 r7.c.lk, 103), (b2, arr .i64 r7.c.of, 3), (b3, arr .i64 r7.c.mn, 3), (b4, #[.slice (some ⟨b1, 0, none⟩) (N + 2) (N + 2), .slice (some ⟨b2, 0, none⟩) N N, .slice (some ⟨b3, 0, none⟩) 2 2], 79), (b5, arr .i64 r7.cr, 3), (b6, #[.pointer (some ⟨b4, 0, none⟩), .slice (some ⟨b5, 0, none⟩) N N, .int .i64 r7.q], 45), (b8, #[.int .i64 (N : Int), .int .i64 q, .slice none 0 0, .slice none 0 0], 85)] wd4 := hI6
  refine seq_one (op_val (v := .bool true) hf17 rfl rfl rfl rfl rfl rfl (r_assign rfl) fun ac18 hf18 => ?_)
  refine seq_end ?_
  clear ac10 hf10 ac11 hf11 ac12 wd1 hI2 hf12 ac13 hf13 ac14 hf14 ac15 hf15 ac16 wd2 hI3 hf16 hI4 wd3 hI5 hI6 ac17 hf17
  refine then_normal ?_
  refine code_seq ?_
  refine code_seq ?_
  refine seq_start (l := [0, 1, 2, 3, 4, 5, 6, 7, 8, 9, 10, 11, 12, 13, 14, 15]) rfl ?_
  refine seq_one (op_val (v := .int .i64 0) hf18 rfl rfl rfl rfl rfl rfl (r_move rfl) fun ac19 hf19 => ?_)
  refine seq_one (op_val (v := .bool true) hf19 rfl rfl rfl rfl rfl rfl (r_eqlC rfl rfl (by decide)) fun ac20 hf20 => ?_)
  refine seq_one (op_val (v := .bool true) hf20 rfl rfl rfl rfl rfl rfl (r_move rfl) fun ac21 hf21 => ?_)
  refine seq_one (op_val (v := .bool false) hf21 rfl rfl rfl rfl rfl rfl ((r_neB (p := true) (q := true) ub_4 rfl rfl).trans rfl) fun ac22 hf22 => ?_)
  refine seq_one (op_val (v := .bool false) hf22 rfl rfl rfl rfl rfl rfl (r_move rfl) fun ac23 hf23 => ?_)
  refine seq_one (op_val (v := .bool true) hf23 rfl rfl rfl rfl rfl rfl (r_move rfl) fun ac24 hf24 => ?_)
  refine seq_one (op_val (v := .bool false) hf24 rfl rfl rfl rfl rfl rfl ((r_not (b := true) rfl).trans rfl) fun ac25 hf25 => ?_)
  refine seq_one (op_val (v := .bool false) hf25 rfl rfl rfl rfl rfl rfl (r_move rfl) fun ac26 hf26 => ?_)
  refine seq_one (op_skip hf26 rfl rfl rfl rfl fun ac27 hf27 => ?_)
  refine seq_one (op_skip hf27 rfl rfl rfl rfl fun ac28 hf28 => ?_)
  refine seq_one (op_skip hf28 rfl rfl rfl rfl fun ac29 hf29 => ?_)
  refine seq_one (op_skip hf29 rfl rfl rfl rfl fun ac30 hf30 => ?_)
  refine seq_one (op_skip hf30 rfl rfl rfl rfl fun ac31 hf31 => ?_)
  refine seq_one (op_skip hf31 rfl rfl rfl rfl fun ac32 hf32 => ?_)
  refine seq_one (op_val (v := .bool false) hf32 rfl rfl rfl rfl rfl rfl (r_pickF rfl rfl) fun ac33 hf33 => ?_)
  refine seq_one (op_val (v := .bool false) hf33 rfl rfl rfl rfl rfl rfl (r_pickF rfl rfl) fun ac34 hf34 => ?_)
  refine seq_end ?_
  clear ac18 hf18 ac19 hf19 ac20 hf20 ac21 hf21 ac22 hf22 ac23 hf23 ac24 hf24 ac25 hf25 ac26 hf26 ac27 hf27 ac28 hf28 ac29 hf29 ac30 hf30 ac31 hf31 ac32 hf32 ac33 hf33
  refine then_normal ?_
  refine code_if_false hf34 rfl ?_
  refine wp_skip ?_
  refine then_normal ?_
  refine code_seq ?_
  refine code_seq ?_
  refine seq_start (l := [0, 1, 2, 3, 4, 5, 6, 7, 8, 9, 10]) rfl ?_
  refine seq_one (op_val (v := .bool true) hf34 rfl rfl rfl rfl rfl rfl (r_move rfl) fun ac35 hf35 => ?_)
  refine seq_one (op_val (v := .bool false) hf35 rfl rfl rfl rfl rfl rfl ((r_not (b := true) rfl).trans rfl) fun ac36 hf36 => ?_)
  refine seq_one (op_val (v := .bool false) hf36 rfl rfl rfl rfl rfl rfl (r_move rfl) fun ac37 hf37 => ?_)
  refine seq_one (op_val (v := .int .i64 (N : Int)) hf37 rfl rfl rfl rfl rfl rfl (r_move rfl) fun ac38 hf38 => ?_)
  refine seq_one (op_val (v := .bool (decide ((N : Int) > 30))) hf38 rfl rfl rfl rfl rfl rfl (r_gtr rfl rfl) fun ac39 hf39 => ?_)
  refine seq_one (op_val (v := .bool (decide ((N : Int) > 30))) hf39 rfl rfl rfl rfl rfl rfl (r_pickF rfl rfl) fun ac40 hf40 => ?_)
  refine seq_one (op_val (v := .bool (decide ((N : Int) > 30))) hf40 rfl rfl rfl rfl rfl rfl (r_move rfl) fun ac41 hf41 => ?_)
  rcases Bool.eq_false_or_eq_true (decide ((N : Int) > 30) : Bool) with g66_1 | g66_1
  · have hf42 := hf41.know 66 (u := .bool true) rfl (congrArg Value.bool g66_1)
    refine seq_one (op_skip hf42 rfl rfl rfl rfl fun ac42 hf43 => ?_)
    refine seq_one (op_skip hf43 rfl rfl rfl rfl fun ac43 hf44 => ?_)
    refine seq_one (op_skip hf44 rfl rfl rfl rfl fun ac44 hf45 => ?_)
    refine seq_one (op_val (v := .bool true) hf45 rfl rfl rfl rfl rfl rfl (r_pickT rfl rfl) fun ac45 hf46 => ?_)
    refine seq_end ?_
    clear ac34 hf34 ac35 hf35 ac36 hf36 ac37 hf37 ac38 hf38 ac39 hf39 ac40 hf40 hf41 ac41 hf42 ac42 hf43 ac43 hf44 ac44 hf45
    refine then_normal ?_
    refine code_if_true hf46 rfl ?_
    refine code_seq ?_
    refine seq_start (l := [0, 1]) rfl ?_
    refine seq_one (op_pure hf46 rfl rfl rfl rfl ca_23 awake17_pur hI7 fun ac46 wd5 hI8 hf47 => ?_)
    refine seq_one (op_val (v := .bool true) hf47 rfl rfl rfl rfl rfl rfl (r_assign rfl) fun ac47 hf48 => ?_)
    refine seq_end ?_
    clear ac45 wd4 hI7 hf46 ac46 hf47
    refine then_normal ?_
    refine wp_ret ?_
    refine then_ret ?_
    refine post1 rfl hf48 rfl ⟨?_, hI8.done (fresh_keys (ks := [b1, b2, b3, b4, b5, b6, b8]) rfl (fk_cons hb1 (fk_cons hb2 (fk_cons hb3 (fk_cons hb4 (fk_cons hb5 (fk_cons hb6 (fk_cons hb8 fk_nil))))))))⟩
    rfl
  · have hf49 := hf41.know 66 (u := .bool false) rfl (congrArg Value.bool g66_1)
    refine seq_one (op_val (v := .slice p L cap) hf49 rfl rfl rfl rfl rfl rfl (r_move rfl) fun ac48 hf50 => ?_)
    refine seq_one (op_val (v := .int .i64 (L : Int)) hf50 rfl rfl rfl rfl rfl rfl (r_len sl_23 rfl) fun ac49 hf51 => ?_)
    refine seq_one (op_val (v := .bool (decide ((L : Int) > 60))) hf51 rfl rfl rfl rfl rfl rfl (r_gtr rfl rfl) fun ac50 hf52 => ?_)
    refine seq_one (op_val (v := .bool (decide ((L : Int) > 60))) hf52 rfl rfl rfl rfl rfl rfl (r_pickF rfl rfl) fun ac51 hf53 => ?_)
    refine seq_end ?_
    clear ac34 hf34 ac35 hf35 ac36 hf36 ac37 hf37 ac38 hf38 ac39 hf39 ac40 hf40 hf41 ac41 hf49 ac48 hf50 ac49 hf51 ac50 hf52
    refine then_normal ?_
    refine code_if hf53 rfl (fun c70_2 => ?_) (fun c70_2 => ?_)
    · have hf54 := hf53.know 70 (u := .bool true) rfl (congrArg Value.bool c70_2)
      refine code_seq ?_
      refine seq_start (l := [0, 1]) rfl ?_
      refine seq_one (op_pure hf54 rfl rfl rfl rfl ca_23 awake17_pur hI7 fun ac52 wd6 hI9 hf55 => ?_)
      refine seq_one (op_val (v := .bool true) hf55 rfl rfl rfl rfl rfl rfl (r_assign rfl) fun ac53 hf56 => ?_)
      refine seq_end ?_
      clear hf53 ac51 wd4 hI7 hf54 ac52 hf55
      refine then_normal ?_
      refine wp_ret ?_
      refine then_ret ?_
      refine post1 rfl hf56 rfl ⟨?_, hI9.done (fresh_keys (ks := [b1, b2, b3, b4, b5, b6, b8]) rfl (fk_cons hb1 (fk_cons hb2 (fk_cons hb3 (fk_cons hb4 (fk_cons hb5 (fk_cons hb6 (fk_cons hb8 fk_nil))))))))⟩
      rfl
    · have hf57 := hf53.know 70 (u := .bool false) rfl (congrArg Value.bool c70_2)
      refine wp_skip ?_
      refine then_normal ?_
      refine code_seq ?_
      refine code_seq ?_
      refine seq_start (l := [0, 1, 2]) rfl ?_
      refine seq_one (op_val (v := .slice p L cap) hf57 rfl rfl rfl rfl rfl rfl (r_move rfl) fun ac54 hf58 => ?_)
      refine seq_one (op_val (v := .int .i64 (L : Int)) hf58 rfl rfl rfl rfl rfl rfl (r_len sl_23 rfl) fun ac55 hf59 => ?_)
      refine seq_one (op_val (v := .int .i64 0) hf59 rfl rfl rfl rfl rfl rfl (r_move rfl) fun ac56 hf60 => ?_)
      refine seq_end ?_
      clear hf53 ac51 hf57 ac54 hf58 ac55 hf59
      refine then_normal ?_
      refine wp_block ?_
      have hp0 : (r7.pl 0) = [] := by rw [er7]; exact Ro.pl_new 0
      have hp1 : (r7.pl 1) = [] := by rw [er7]; exact Ro.pl_new 1
      have hI10 : Inv w ([(b1, arr .i64 r7.c.lk, 103), (b2, arr .i64 r7.c.of, 3), (b3, arr .i64 r7.c.mn, 3), (b4, #[.slice (some ⟨b1, 0, none⟩) (N + 2) (N + 2), .slice (some ⟨b2, 0, none⟩) N N, .slice (some ⟨b3, 0, none⟩) 2 2], 79), (b5, arr .i64 r7.cr, 3), (b6, #[.pointer (some ⟨b4, 0, none⟩), .slice (some ⟨b5, 0, none⟩) N N, .int .i64 r7.q], 45), (b8, #[.int .i64 (N : Int), .int .i64 q, .slice none ((r7.pl 0).length) 0, .slice none ((r7.pl 1).length) 0], 85)] ++ []) wd4 := by rw [hp0, hp1]; exact hI7.more
      refine code_loop (α := Nat × (Ro N) × (Option Addr) × Nat × (Option Addr) × Nat × (List Blk)) (fun (x : Nat × (Ro N) × (Option Addr) × Nat × (Option Addr) × Nat × (List Blk)) => match x with | (i, r, g0, gc0, g1, gc1, SS) => [(0, .int .i64 (N : Int)), (1, .int .i64 q), (2, .slice p L cap), (7, .pointer (some ⟨b6, 0, none⟩)), (8, .int .i64 0), (9, .pointer (some ⟨b8, 0, none⟩)), (10, .bool true), (32, .tuple #[.pointer (some ⟨b6, 0, none⟩), .int .i64 0]), (33, .int .i64 (N : Int)), (34, .int .i64 q), (35, .tuple #[.pointer (some ⟨b6, 0, none⟩), .int .i64 0]), (36, .pointer (some ⟨b6, 0, none⟩)), (37, .int .i64 0), (38, .tuple #[.agg #[.int .i64 (N : Int), .int .i64 q, .slice none 0 0, .slice none 0 0], .bool true]), (39, .int .i64 (N : Int)), (40, .int .i64 q), (41, .tuple #[.agg #[.int .i64 (N : Int), .int .i64 q, .slice none 0 0, .slice none 0 0], .bool true]), (42, .agg #[.int .i64 (N : Int), .int .i64 q, .slice none 0 0, .slice none 0 0]), (43, .bool true), (44, .int .i64 0), (45, .bool true), (46, .bool true), (47, .bool false), (48, .bool false), (49, .bool true), (50, .bool false), (51, .bool false), (58, .bool false), (59, .bool false), (60, .bool true), (61, .bool false), (62, .bool false), (63, .int .i64 (N : Int)), (64, .bool (decide ((N : Int) > 30))), (65, .bool (decide ((N : Int) > 30))), (66, .bool false), (67, .slice p L cap), (68, .int .i64 (L : Int)), (69, .bool (decide ((L : Int) > 60))), (70, .bool false), (72, .slice p L cap), (73, .int .i64 (L : Int)), (74, .int .i64 (i : Int))]) (fun (x : Nat × (Ro N) × (Option Addr) × Nat × (Option Addr) × Nat × (List Blk)) => match x with | (i, r, g0, gc0, g1, gc1, SS) => fun wL => Inv w ([(b1, arr .i64 r.c.lk, 103), (b2, arr .i64 r.c.of, 3), (b3, arr .i64 r.c.mn, 3), (b4, #[.slice (some ⟨b1, 0, none⟩) (N + 2) (N + 2), .slice (some ⟨b2, 0, none⟩) N N, .slice (some ⟨b3, 0, none⟩) 2 2], 79), (b5, arr .i64 r.cr, 3), (b6, #[.pointer (some ⟨b4, 0, none⟩), .slice (some ⟨b5, 0, none⟩) N N, .int .i64 r.q], 45), (b8, #[.int .i64 (N : Int), .int .i64 q, .slice g0 ((r.pl 0).length) gc0, .slice g1 ((r.pl 1).length) gc1], 85)] ++ SS) wL ∧ (i ≤ L ∧ r.q = q ∧ View w SS g0 gc0 (r.pl 0) ∧ View w SS g1 gc1 (r.pl 1) ∧ (∀ x ∈ SS, w.heap.size ≤ x.1))) (fun (x : Nat × (Ro N) × (Option Addr) × Nat × (Option Addr) × Nat × (List Blk)) => match x with | (i, r, g0, gc0, g1, gc1, SS) => L - i) (0, r7, none, 0, none, 0, []) (hf60.cons 0 rfl (hf60.cons 1 rfl (hf60.cons 2 rfl (hf60.cons 7 rfl (hf60.cons 8 rfl (hf60.cons 9 rfl (hf60.cons 10 rfl (hf60.cons 32 rfl (hf60.cons 33 rfl (hf60.cons 34 rfl (hf60.cons 35 rfl (hf60.cons 36 rfl (hf60.cons 37 rfl (hf60.cons 38 rfl (hf60.cons 39 rfl (hf60.cons 40 rfl (hf60.cons 41 rfl (hf60.cons 42 rfl (hf60.cons 43 rfl (hf60.cons 44 rfl (hf60.cons 45 rfl (hf60.cons 46 rfl (hf60.cons 47 rfl (hf60.cons 48 rfl (hf60.cons 49 rfl (hf60.cons 50 rfl (hf60.cons 51 rfl (hf60.cons 58 rfl (hf60.cons 59 rfl (hf60.cons 60 rfl (hf60.cons 61 rfl (hf60.cons 62 rfl (hf60.cons 63 rfl (hf60.cons 64 rfl (hf60.cons 65 rfl (hf60.cons 66 rfl (hf60.cons 67 rfl (hf60.cons 68 rfl (hf60.cons 69 rfl (hf60.cons 70 rfl (hf60.cons 72 rfl (hf60.cons 73 rfl (hf60.cons 74 rfl hf60.nil))))))))))))))))))))))))))))))))))))))))))) ⟨hI10, ⟨Nat.zero_le _, by rw [er7]; rfl, by rw [hp0]; exact View.nil, by rw [hp1]; exact View.nil, fun _ h => by cases h⟩⟩ ?_
      intro ⟨i, r, g0, gc0, g1, gc1, SS⟩ ac57 wd7 hf61 hL1
      obtain ⟨hI11, hx1⟩ := hL1
      dsimp only at hf61 hI11 hx1
      clear hI7 ac56 wd4 hf60 hI10
      refine code_seq ?_
      refine seq_start (l := [0]) rfl ?_
      refine seq_one (op_val (v := .bool (decide ((i : Int) < (L : Int)))) hf61 rfl rfl rfl rfl rfl rfl (r_lss rfl rfl) fun ac58 hf62 => ?_)
      refine seq_end ?_
      clear ac57 hf61
      refine then_normal ?_
      refine code_seq ?_
      refine code_if hf62 rfl (fun c75_3 => ?_) (fun c75_3 => ?_)
      · have hf63 := hf62.know 75 (u := .bool true) rfl (congrArg Value.bool c75_3)
        refine wp_skip ?_
        refine then_normal ?_
        refine code_seq ?_
        refine wp_block ?_
        refine code_seq ?_
        refine seq_start (l := [0, 1, 2, 3]) rfl ?_
        obtain ⟨kd9, ii9, nn9, hri9, hii9, hnn9⟩ := op_row (i := i) ho (by have := of_decide_eq_true c75_3; omega)
        refine seq_one (op_val (v := .pointer (slAt p (i * 3))) hf63 rfl rfl rfl rfl rfl rfl (r_indexAddrR (i := i) (sz := 3) sl_23 rfl rfl rfl (by have := of_decide_eq_true c75_3; omega) rfl ⟨_, ((hr.old hI11 (fk_app (fresh_keys (ks := [b1, b2, b3, b4, b5, b6, b8]) rfl (fk_cons hb1 (fk_cons hb2 (fk_cons hb3 (fk_cons hb4 (fk_cons hb5 (fk_cons hb6 (fk_cons hb8 fk_nil)))))))) hx1.2.2.2.2)) _ _ hri9).choose_spec.1⟩) fun ac59 hf64 => ?_)
        refine seq_one (op_val (v := .agg #[.int .u8 kd9, .int .i64 ii9, .int .i64 nn9]) hf64 rfl rfl rfl rfl rfl rfl (r_loadRow ag_89 sz_89 rfl (hr.old hI11 (fk_app (fresh_keys (ks := [b1, b2, b3, b4, b5, b6, b8]) rfl (fk_cons hb1 (fk_cons hb2 (fk_cons hb3 (fk_cons hb4 (fk_cons hb5 (fk_cons hb6 (fk_cons hb8 fk_nil)))))))) hx1.2.2.2.2)) hri9 rfl) fun ac60 hf65 => ?_)
        refine seq_one (op_alloc hf65 rfl rfl rfl ze_89 hI11 fun ac61 b10 wd8 hb10 hI12 hf66 => ?_)
        have hI13 : Inv w ([(b1, arr .i64 r.c.lk, 103), (b2, arr .i64 r.c.of, 3), (b3, arr .i64 r.c.mn, 3), (b4, #[.slice (some ⟨b1, 0, none⟩) (N + 2) (N + 2), .slice (some ⟨b2, 0, none⟩) N N, .slice (some ⟨b3, 0, none⟩) 2 2], 79), (b5, arr .i64 r.cr, 3), (b6, #[.pointer (some ⟨b4, 0, none⟩), .slice (some ⟨b5, 0, none⟩) N N, .int .i64 r.q], 45), (b8, #[.int .i64 (N : Int), .int .i64 q, .slice g0 ((r.pl 0).length) gc0, .slice g1 ((r.pl 1).length) gc1], 85), (b10, #[.int .u8 0, .int .i64 0, .int .i64 0], 89)] ++ SS) wd8 := Inv.tail (A := [(b1, arr .i64 r.c.lk, 103), (b2, arr .i64 r.c.of, 3), (b3, arr .i64 r.c.mn, 3), (b4, #[.slice (some ⟨b1, 0, none⟩) (N + 2) (N + 2), .slice (some ⟨b2, 0, none⟩) N N, .slice (some ⟨b3, 0, none⟩) 2 2], 79), (b5, arr .i64 r.cr, 3), (b6, #[.pointer (some ⟨b4, 0, none⟩), .slice (some ⟨b5, 0, none⟩) N N, .int .i64 r.q], 45), (b8, #[.int .i64 (N : Int), .int .i64 q, .slice g0 ((r.pl 0).length) gc0, .slice g1 ((r.pl 1).length) gc1], 85)]) (T := SS) (N := [(b10, #[.int .u8 0, .int .i64 0, .int .i64 0], 89)]) hI12
        refine seq_one (op_storeW (cells := #[.int .u8 kd9, .int .i64 ii9, .int .i64 nn9]) 7 hf66 rfl rfl rfl rfl rfl sz_89 rfl rfl hI13 rfl rfl fun wd9 hI14 => ?_)
        have hI15 : Inv w ([(b1, arr .i64 r.c.lk, 103), (b2, arr .i64 r.c.of, 3), (b3, arr .i64 r.c.mn, 3), (b4, #[.slice (some ⟨b1, 0, none⟩) (N + 2) (N + 2), .slice (some ⟨b2, 0, none⟩) N N, .slice (some ⟨b3, 0, none⟩) 2 2], 79), (b5, arr .i64 r.cr, 3), (b6, #[.pointer (some ⟨b4, 0, none⟩), .slice (some ⟨b5, 0, none⟩) N N, .int .i64 r.q], 45), (b8, #[.int .i64 (N : Int), .int .i64 q, .slice g0 ((r.pl 0).length) gc0, .slice g1 ((r.pl 1).length) gc1], 85), (b10, #[.int .u8 kd9, .int .i64 ii9, .int .i64 nn9], 89)] ++ SS) wd9 := hI14
        refine seq_end ?_
        clear hf62 ac58 hf63 ac59 hf64 ac60 wd7 hI11 hf65 hI12 wd8 hI13 hI14
        refine then_normal ?_
        refine code_seq ?_
        refine seq_start (l := [0, 1, 2, 3]) rfl ?_
        refine seq_one (op_val (v := .int .i64 0) hf66 rfl rfl rfl rfl rfl rfl (r_assign rfl) fun ac62 hf67 => ?_)
        refine seq_one (op_val (v := .int .i64 0) hf67 rfl rfl rfl rfl rfl rfl (r_assign rfl) fun ac63 hf68 => ?_)
        refine seq_one (op_val (v := .int .i64 0) hf68 rfl rfl rfl rfl rfl rfl (r_assign rfl) fun ac64 hf69 => ?_)
        refine seq_one (op_val (v := .int .i64 0) hf69 rfl rfl rfl rfl rfl rfl (r_assign rfl) fun ac65 hf70 => ?_)
        refine seq_end ?_
        clear ac61 hf66 ac62 hf67 ac63 hf68 ac64 hf69
        refine then_normal ?_
        refine code_seq ?_
        refine seq_start (l := [0, 1, 2, 3]) rfl ?_
        refine seq_one (op_val (v := .bool false) hf70 rfl rfl rfl rfl rfl rfl (r_assign rfl) fun ac66 hf71 => ?_)
        refine seq_one (op_val (v := .bool false) hf71 rfl rfl rfl rfl rfl rfl (r_assign rfl) fun ac67 hf72 => ?_)
        refine seq_one (op_val (v := .bool false) hf72 rfl rfl rfl rfl rfl rfl (r_assign rfl) fun ac68 hf73 => ?_)
        refine seq_one (op_val (v := .bool false) hf73 rfl rfl rfl rfl rfl rfl (r_assign rfl) fun ac69 hf74 => ?_)
        refine seq_end ?_
        clear ac65 hf70 ac66 hf71 ac67 hf72 ac68 hf73
        refine then_normal ?_
        refine code_seq ?_
        refine seq_start (l := [0, 1]) rfl ?_
        refine seq_one (op_val (v := .int .i64 0) hf74 rfl rfl rfl rfl rfl rfl (r_assign rfl) fun ac70 hf75 => ?_)
        refine seq_one (op_val (v := .int .i64 0) hf75 rfl rfl rfl rfl rfl rfl (r_assign rfl) fun ac71 hf76 => ?_)
        refine seq_end ?_
        clear ac69 hf74 ac70 hf75
        refine then_normal ?_
        refine code_seq ?_
        refine code_seq ?_
        refine seq_start (l := [0, 1]) rfl ?_
        refine seq_one (op_val (v := .pointer (some ⟨b10, 0, none⟩)) hf76 rfl rfl rfl rfl rfl rfl (r_fieldAddr fi_89_0 rfl rfl) fun ac72 hf77 => ?_)
        refine seq_one (op_val (v := .int .u8 kd9) hf77 rfl rfl rfl rfl rfl rfl (r_load ag_5 rfl (hI15.at 7 rfl) rfl) fun ac73 hf78 => ?_)
        refine seq_end ?_
        clear ac71 hf76 ac72 hf77
        refine then_normal ?_
        refine code_joinG 261 ((Ro N) × (Option Addr) × (Nat) × (Option Addr) × (Nat) × (List Blk) × (Int) × (Int) × (Bool) × (Bool) × (Int)) (fun (x : (Ro N) × (Option Addr) × (Nat) × (Option Addr) × (Nat) × (List Blk) × (Int) × (Int) × (Bool) × (Bool) × (Int)) => match x with | (d, u0, uc0, u1, uc1, SU, A, B, G, H, X) => [(0, .int .i64 (N : Int)), (1, .int .i64 q), (2, .slice p L cap), (7, .pointer (some ⟨b6, 0, none⟩)), (8, .int .i64 0), (9, .pointer (some ⟨b8, 0, none⟩)), (10, .bool true), (12, .pointer (some ⟨b10, 0, none⟩)), (32, .tuple #[.pointer (some ⟨b6, 0, none⟩), .int .i64 0]), (33, .int .i64 (N : Int)), (34, .int .i64 q), (35, .tuple #[.pointer (some ⟨b6, 0, none⟩), .int .i64 0]), (36, .pointer (some ⟨b6, 0, none⟩)), (37, .int .i64 0), (38, .tuple #[.agg #[.int .i64 (N : Int), .int .i64 q, .slice none 0 0, .slice none 0 0], .bool true]), (39, .int .i64 (N : Int)), (40, .int .i64 q), (41, .tuple #[.agg #[.int .i64 (N : Int), .int .i64 q, .slice none 0 0, .slice none 0 0], .bool true]), (42, .agg #[.int .i64 (N : Int), .int .i64 q, .slice none 0 0, .slice none 0 0]), (43, .bool true), (44, .int .i64 0), (45, .bool true), (46, .bool true), (47, .bool false), (48, .bool false), (49, .bool true), (50, .bool false), (51, .bool false), (58, .bool false), (59, .bool false), (60, .bool true), (61, .bool false), (62, .bool false), (63, .int .i64 (N : Int)), (64, .bool (decide ((N : Int) > 30))), (65, .bool (decide ((N : Int) > 30))), (66, .bool false), (67, .slice p L cap), (68, .int .i64 (L : Int)), (69, .bool (decide ((L : Int) > 60))), (70, .bool false), (72, .slice p L cap), (73, .int .i64 (L : Int)), (74, .int .i64 (i : Int)), (75, .bool true), (76, .pointer (slAt p (i * 3))), (77, .agg #[.int .u8 kd9, .int .i64 ii9, .int .i64 nn9]), (78, .pointer (some ⟨b10, 0, none⟩)), (79, .int .u8 kd9), (13, .int .i64 A), (14, .int .i64 B), (15, .int .i64 A), (16, .int .i64 B), (17, .bool G), (18, .bool G), (19, .bool H), (20, .bool H), (21, .int .i64 X), (22, .int .i64 X)]) (fun (x : (Ro N) × (Option Addr) × (Nat) × (Option Addr) × (Nat) × (List Blk) × (Int) × (Int) × (Bool) × (Bool) × (Int)) => match x with | (d, u0, uc0, u1, uc1, SU, A, B, G, H, X) => fun w' => Inv w ([(b1, arr .i64 d.c.lk, 103), (b2, arr .i64 d.c.of, 3), (b3, arr .i64 d.c.mn, 3), (b4, #[.slice (some ⟨b1, 0, none⟩) (N + 2) (N + 2), .slice (some ⟨b2, 0, none⟩) N N, .slice (some ⟨b3, 0, none⟩) 2 2], 79), (b5, arr .i64 d.cr, 3), (b6, #[.pointer (some ⟨b4, 0, none⟩), .slice (some ⟨b5, 0, none⟩) N N, .int .i64 d.q], 45), (b8, #[.int .i64 (N : Int), .int .i64 q, .slice u0 ((d.pl 0).length) uc0, .slice u1 ((d.pl 1).length) uc1], 85), (b10, #[.int .u8 kd9, .int .i64 ii9, .int .i64 nn9], 89)] ++ SU) w' ∧ (d.q = q ∧ View w SU u0 uc0 (d.pl 0) ∧ View w SU u1 uc1 (d.pl 1) ∧ (∀ x ∈ SU, w.heap.size ≤ x.1))) ?_ ?_
        ·
          refine wp_block ?_
          refine code_seq ?_
          refine seq_start (l := [0, 1]) rfl ?_
          refine seq_one (op_val (v := .bool (kd9 == 1)) hf78 rfl rfl rfl rfl rfl rfl (r_eql rfl rfl) fun ac74 hf79 => ?_)
          refine seq_one (op_val (v := .bool (kd9 == 1)) hf79 rfl rfl rfl rfl rfl rfl (r_assign rfl) fun ac75 hf80 => ?_)
          refine seq_end ?_
          clear ac73 hf78 ac74 hf79
          refine then_normal ?_
          refine code_if hf80 rfl (fun c80_4 => ?_) (fun c80_4 => ?_)
          · have hf81 := hf80.know 80 (u := .bool true) rfl (congrArg Value.bool c80_4)
            refine code_seq ?_
            refine seq_start (l := [0, 1, 2, 3, 4, 5, 6]) rfl ?_
            refine seq_one (op_val (v := .pointer (some ⟨b6, 0, none⟩)) hf81 rfl rfl rfl rfl rfl rfl (r_move rfl) fun ac76 hf82 => ?_)
            refine seq_one (op_val (v := .pointer (some ⟨b10, 1, none⟩)) hf82 rfl rfl rfl rfl rfl rfl (r_fieldAddr fi_89_1 rfl rfl) fun ac77 hf83 => ?_)
            refine seq_one (op_val (v := .int .i64 ii9) hf83 rfl rfl rfl rfl rfl rfl (r_load ag_3 rfl (hI15.at 7 rfl) rfl) fun ac78 hf84 => ?_)
            refine seq_one (op_val (v := .pointer (some ⟨b10, 2, none⟩)) hf84 rfl rfl rfl rfl rfl rfl (r_fieldAddr fi_89_2 rfl rfl) fun ac79 hf85 => ?_)
            refine seq_one (op_val (v := .int .i64 nn9) hf85 rfl rfl rfl rfl rfl rfl (r_load ag_3 rfl (hI15.at 7 rfl) rfl) fun ac80 hf86 => ?_)
            refine seq_one (op_call (R := fun v w' => v = .int .i64 (r.enterE 0 ii9 nn9) ∧ Inv _ [(b1, arr .i64 ((r.enter 0 ii9 nn9).c).lk, 103), (b2, arr .i64 ((r.enter 0 ii9 nn9).c).of, 3), (b3, arr .i64 ((r.enter 0 ii9 nn9).c).mn, 3), (b4, #[.slice (some ⟨b1, 0, none⟩) (N + 2) (N + 2), .slice (some ⟨b2, 0, none⟩) N N, .slice (some ⟨b3, 0, none⟩) 2 2], 79), (b5, arr .i64 (r.enter 0 ii9 nn9).cr, 3), (b6, #[.pointer (some ⟨b4, 0, none⟩), .slice (some ⟨b5, 0, none⟩) N N, .int .i64 ((r.enter 0 ii9 nn9).q)], 45)] w') hf86 rfl rfl rfl rfl ca_24 ((join_any (hI15.nd6 0 rfl rfl rfl rfl rfl rfl) r (Has.cons (hI15.at 0 rfl) (Has.cons (hI15.at 1 rfl) (Has.cons (hI15.at 2 rfl) (Has.cons (hI15.at 3 rfl) (Has.cons (hI15.at 4 rfl) (Has.cons (hI15.at 5 rfl) Has.nil)))))) ii9 nn9).mono fun _ _ h => ⟨_, h.1, rfl, h.2⟩) fun ac81 v wd10 hR11 hf87 => ?_)
            obtain ⟨rfl, hR11⟩ := hR11
            have hI16 : Inv w ([(b1, arr .i64 ((r.enter 0 ii9 nn9).c).lk, 103), (b2, arr .i64 ((r.enter 0 ii9 nn9).c).of, 3), (b3, arr .i64 ((r.enter 0 ii9 nn9).c).mn, 3), (b4, #[.slice (some ⟨b1, 0, none⟩) (N + 2) (N + 2), .slice (some ⟨b2, 0, none⟩) N N, .slice (some ⟨b3, 0, none⟩) 2 2], 79), (b5, arr .i64 (r.enter 0 ii9 nn9).cr, 3), (b6, #[.pointer (some ⟨b4, 0, none⟩), .slice (some ⟨b5, 0, none⟩) N N, .int .i64 ((r.enter 0 ii9 nn9).q)], 45), (b8, #[.int .i64 (N : Int), .int .i64 q, .slice g0 ((r.pl 0).length) gc0, .slice g1 ((r.pl 1).length) gc1], 85), (b10, #[.int .u8 kd9, .int .i64 ii9, .int .i64 nn9], 89)] ++ SS) _ := Inv.callST (A := []) (S := [(b1, arr .i64 r.c.lk, 103), (b2, arr .i64 r.c.of, 3), (b3, arr .i64 r.c.mn, 3), (b4, #[.slice (some ⟨b1, 0, none⟩) (N + 2) (N + 2), .slice (some ⟨b2, 0, none⟩) N N, .slice (some ⟨b3, 0, none⟩) 2 2], 79), (b5, arr .i64 r.cr, 3), (b6, #[.pointer (some ⟨b4, 0, none⟩), .slice (some ⟨b5, 0, none⟩) N N, .int .i64 r.q], 45)]) (S' := [(b1, arr .i64 ((r.enter 0 ii9 nn9).c).lk, 103), (b2, arr .i64 ((r.enter 0 ii9 nn9).c).of, 3), (b3, arr .i64 ((r.enter 0 ii9 nn9).c).mn, 3), (b4, #[.slice (some ⟨b1, 0, none⟩) (N + 2) (N + 2), .slice (some ⟨b2, 0, none⟩) N N, .slice (some ⟨b3, 0, none⟩) 2 2], 79), (b5, arr .i64 (r.enter 0 ii9 nn9).cr, 3), (b6, #[.pointer (some ⟨b4, 0, none⟩), .slice (some ⟨b5, 0, none⟩) N N, .int .i64 ((r.enter 0 ii9 nn9).q)], 45)]) (L := [(b8, #[.int .i64 (N : Int), .int .i64 q, .slice g0 ((r.pl 0).length) gc0, .slice g1 ((r.pl 1).length) gc1], 85), (b10, #[.int .u8 kd9, .int .i64 ii9, .int .i64 nn9], 89)]) (N := []) (T := SS) hI15 hR11 rfl (fun _ h => by cases h)
            refine seq_one (op_val (v := .int .i64 (r.enterE 0 ii9 nn9)) hf87 rfl rfl rfl rfl rfl rfl (r_assign rfl) fun ac82 hf88 => ?_)
            refine seq_end ?_
            clear hf80 ac75 hf81 ac76 hf82 ac77 hf83 ac78 hf84 ac79 hf85 ac80 wd9 hf86 hI15 hR11 ac81 hf87
            refine then_normal ?_
            refine seq_start (l := [0, 1, 2, 3, 4, 5, 6, 7, 8, 9, 10]) rfl ?_
            refine seq_one (op_val (v := .agg #[.int .i64 (N : Int), .int .i64 q, .slice g0 ((r.pl 0).length) gc0, .slice g1 ((r.pl 1).length) gc1]) hf88 rfl rfl rfl rfl rfl rfl (r_loadW ag_85 sz_85 rfl (hI16.at 6 rfl) rfl) fun ac83 hf89 => ?_)
            refine seq_one (op_val (v := .pointer (some ⟨b10, 1, none⟩)) hf89 rfl rfl rfl rfl rfl rfl (r_fieldAddr fi_89_1 rfl rfl) fun ac84 hf90 => ?_)
            refine seq_one (op_val (v := .int .i64 ii9) hf90 rfl rfl rfl rfl rfl rfl (r_load ag_3 rfl (hI16.at 7 rfl) rfl) fun ac85 hf91 => ?_)
            refine seq_one (op_val (v := .pointer (some ⟨b10, 2, none⟩)) hf91 rfl rfl rfl rfl rfl rfl (r_fieldAddr fi_89_2 rfl rfl) fun ac86 hf92 => ?_)
            refine seq_one (op_val (v := .int .i64 nn9) hf92 rfl rfl rfl rfl rfl rfl (r_load ag_3 rfl (hI16.at 7 rfl) rfl) fun ac87 hf93 => ?_)
            refine seq_one (op_call (R := fun v w' => ∃ S q0 d0 q1 d1, v = .tuple #[.agg #[.int .i64 (N : Int), .int .i64 q, .slice q0 ((r.enter 0 ii9 nn9).pl 0).length d0, .slice q1 ((r.enter 0 ii9 nn9).pl 1).length d1], .int .i64 (r.enterE 0 ii9 nn9)] ∧ Inv _ S w' ∧ (∀ x ∈ S, Array.size (World.heap _) ≤ x.1) ∧ Tr (g0, gc0, r.pl 0) (g1, gc1, r.pl 1) S q0 d0 ((r.enter 0 ii9 nn9).pl 0) ∧ Tr (g0, gc0, r.pl 0) (g1, gc1, r.pl 1) S q1 d1 ((r.enter 0 ii9 nn9).pl 1)) hf93 rfl rfl rfl rfl ca_44 ((renter_walk0 (r := r) hx1.2.1 (f := ii9) (x := nn9) (hx1.2.2.1).1 (hx1.2.2.2.1).1 (View.rows hx1.2.2.1 hI16 (fk_app (fresh_keys (ks := [b1, b2, b3, b4, b5, b6, b8, b10]) rfl (fk_cons hb1 (fk_cons hb2 (fk_cons hb3 (fk_cons hb4 (fk_cons hb5 (fk_cons hb6 (fk_cons hb8 (fk_cons hb10 fk_nil))))))))) hx1.2.2.2.2) (fun x hx => List.mem_append_right _ hx)) (View.rows hx1.2.2.2.1 hI16 (fk_app (fresh_keys (ks := [b1, b2, b3, b4, b5, b6, b8, b10]) rfl (fk_cons hb1 (fk_cons hb2 (fk_cons hb3 (fk_cons hb4 (fk_cons hb5 (fk_cons hb6 (fk_cons hb8 (fk_cons hb10 fk_nil))))))))) hx1.2.2.2.2) (fun x hx => List.mem_append_right _ hx))).mono fun _ _ ⟨S, q0, d0, q1, d1, he, h1, h2, h3, h4⟩ => ⟨_, he, S, q0, d0, q1, d1, rfl, h1, h2, h3, h4⟩) fun ac88 v wd11 hR hf94 => ?_)
            obtain ⟨Sq12, m12, k12, m12', k12', rfl, hw12, hz12, hta12, htb12⟩ := hR
            have hy12 := fk_le hI16.size hz12
            have hva12 := hta12 w SS hx1.2.2.1 hx1.2.2.2.1
            have hvb12 := htb12 w SS hx1.2.2.1 hx1.2.2.2.1
            have hI17 : Inv w ([(b1, arr .i64 ((r.enter 0 ii9 nn9).c).lk, 103), (b2, arr .i64 ((r.enter 0 ii9 nn9).c).of, 3), (b3, arr .i64 ((r.enter 0 ii9 nn9).c).mn, 3), (b4, #[.slice (some ⟨b1, 0, none⟩) (N + 2) (N + 2), .slice (some ⟨b2, 0, none⟩) N N, .slice (some ⟨b3, 0, none⟩) 2 2], 79), (b5, arr .i64 (r.enter 0 ii9 nn9).cr, 3), (b6, #[.pointer (some ⟨b4, 0, none⟩), .slice (some ⟨b5, 0, none⟩) N N, .int .i64 ((r.enter 0 ii9 nn9).q)], 45), (b8, #[.int .i64 (N : Int), .int .i64 q, .slice g0 ((r.pl 0).length) gc0, .slice g1 ((r.pl 1).length) gc1], 85), (b10, #[.int .u8 kd9, .int .i64 ii9, .int .i64 nn9], 89)] ++ (SS ++ Sq12)) _ := hI16.callN hw12 hz12
            refine seq_one (op_val (v := .tuple #[.agg #[.int .i64 (N : Int), .int .i64 q, .slice m12 (((r.enter 0 ii9 nn9).pl 0).length) k12, .slice m12' (((r.enter 0 ii9 nn9).pl 1).length) k12'], .int .i64 (r.enterE 0 ii9 nn9)]) hf94 rfl rfl rfl rfl rfl rfl (r_move rfl) fun ac89 hf95 => ?_)
            refine seq_one (op_val (v := .agg #[.int .i64 (N : Int), .int .i64 q, .slice m12 (((r.enter 0 ii9 nn9).pl 0).length) k12, .slice m12' (((r.enter 0 ii9 nn9).pl 1).length) k12']) hf95 rfl rfl rfl rfl rfl rfl (r_extract rfl rfl) fun ac90 hf96 => ?_)
            refine seq_one (op_val (v := .int .i64 (r.enterE 0 ii9 nn9)) hf96 rfl rfl rfl rfl rfl rfl (r_extract rfl rfl) fun ac91 hf97 => ?_)
            refine seq_one (op_storeW (cells := #[.int .i64 (N : Int), .int .i64 q, .slice m12 (((r.enter 0 ii9 nn9).pl 0).length) k12, .slice m12' (((r.enter 0 ii9 nn9).pl 1).length) k12']) 6 hf97 rfl rfl rfl rfl rfl sz_85 rfl rfl hI17 rfl rfl fun wd12 hI18 => ?_)
            have hI19 : Inv w ([(b1, arr .i64 ((r.enter 0 ii9 nn9).c).lk, 103), (b2, arr .i64 ((r.enter 0 ii9 nn9).c).of, 3), (b3, arr .i64 ((r.enter 0 ii9 nn9).c).mn, 3), (b4, #[.slice (some ⟨b1, 0, none⟩) (N + 2) (N + 2), .slice (some ⟨b2, 0, none⟩) N N, .slice (some ⟨b3, 0, none⟩) 2 2], 79), (b5, arr .i64 (r.enter 0 ii9 nn9).cr, 3), (b6, #[.pointer (some ⟨b4, 0, none⟩), .slice (some ⟨b5, 0, none⟩) N N, .int .i64 ((r.enter 0 ii9 nn9).q)], 45), (b8, #[.int .i64 (N : Int), .int .i64 q, .slice m12 (((r.enter 0 ii9 nn9).pl 0).length) k12, .slice m12' (((r.enter 0 ii9 nn9).pl 1).length) k12'], 85), (b10, #[.int .u8 kd9, .int .i64 ii9, .int .i64 nn9], 89)] ++ (SS ++ Sq12)) wd12 := hI18
            refine seq_one (op_val (v := .int .i64 (r.enterE 0 ii9 nn9)) hf97 rfl rfl rfl rfl rfl rfl (r_assign rfl) fun ac92 hf98 => ?_)
            refine seq_end ?_
            clear ac82 hf88 ac83 hf89 ac84 hf90 ac85 hf91 ac86 hf92 ac87 wd10 hf93 hI16 hw12 hz12 hta12 htb12 ac88 hf94 ac89 hf95 ac90 hf96 wd11 hI17 hI18 ac91 hf97
            refine block_normal ?_
            refine then_normal ?_
            exact ⟨((r.enter 0 ii9 nn9), m12, k12, m12', k12', (SS ++ Sq12), 0, 0, false, false, (r.enterE 0 ii9 nn9)), (hf98.cons 0 rfl (hf98.cons 1 rfl (hf98.cons 2 rfl (hf98.cons 7 rfl (hf98.cons 8 rfl (hf98.cons 9 rfl (hf98.cons 10 rfl (hf98.cons 12 rfl (hf98.cons 32 rfl (hf98.cons 33 rfl (hf98.cons 34 rfl (hf98.cons 35 rfl (hf98.cons 36 rfl (hf98.cons 37 rfl (hf98.cons 38 rfl (hf98.cons 39 rfl (hf98.cons 40 rfl (hf98.cons 41 rfl (hf98.cons 42 rfl (hf98.cons 43 rfl (hf98.cons 44 rfl (hf98.cons 45 rfl (hf98.cons 46 rfl (hf98.cons 47 rfl (hf98.cons 48 rfl (hf98.cons 49 rfl (hf98.cons 50 rfl (hf98.cons 51 rfl (hf98.cons 58 rfl (hf98.cons 59 rfl (hf98.cons 60 rfl (hf98.cons 61 rfl (hf98.cons 62 rfl (hf98.cons 63 rfl (hf98.cons 64 rfl (hf98.cons 65 rfl (hf98.cons 66 rfl (hf98.cons 67 rfl (hf98.cons 68 rfl (hf98.cons 69 rfl (hf98.cons 70 rfl (hf98.cons 72 rfl (hf98.cons 73 rfl (hf98.cons 74 rfl (hf98.cons 75 rfl (hf98.cons 76 rfl (hf98.cons 77 rfl (hf98.cons 78 rfl (hf98.cons 79 rfl (hf98.cons 13 rfl (hf98.cons 14 rfl (hf98.cons 15 rfl (hf98.cons 16 rfl (hf98.cons 17 rfl (hf98.cons 18 rfl (hf98.cons 19 rfl (hf98.cons 20 rfl (hf98.cons 21 rfl (hf98.cons 22 rfl hf98.nil))))))))))))))))))))))))))))))))))))))))))))))))))))))))))), ⟨hI19, ⟨((Ro.q_enter _ _ _ _).trans hx1.2.1), hva12, hvb12, (fk_app hx1.2.2.2.2 hy12)⟩⟩⟩
          · have hf99 := hf80.know 80 (u := .bool false) rfl (congrArg Value.bool c80_4)
            refine code_seq ?_
            refine seq_start (l := [0, 1]) rfl ?_
            refine seq_one (op_val (v := .bool (kd9 == 2)) hf99 rfl rfl rfl rfl rfl rfl (r_eql rfl rfl) fun ac93 hf100 => ?_)
            refine seq_one (op_val (v := .bool (kd9 == 2)) hf100 rfl rfl rfl rfl rfl rfl (r_assign rfl) fun ac94 hf101 => ?_)
            refine seq_end ?_
            clear hf80 ac75 hf99 ac93 hf100
            refine then_normal ?_
            refine code_if hf101 rfl (fun c97_5 => ?_) (fun c97_5 => ?_)
            · have hf102 := hf101.know 97 (u := .bool true) rfl (congrArg Value.bool c97_5)
              refine code_seq ?_
              refine seq_start (l := [0, 1, 2, 3, 4, 5, 6]) rfl ?_
              refine seq_one (op_val (v := .pointer (some ⟨b6, 0, none⟩)) hf102 rfl rfl rfl rfl rfl rfl (r_move rfl) fun ac95 hf103 => ?_)
              refine seq_one (op_val (v := .pointer (some ⟨b10, 1, none⟩)) hf103 rfl rfl rfl rfl rfl rfl (r_fieldAddr fi_89_1 rfl rfl) fun ac96 hf104 => ?_)
              refine seq_one (op_val (v := .int .i64 ii9) hf104 rfl rfl rfl rfl rfl rfl (r_load ag_3 rfl (hI15.at 7 rfl) rfl) fun ac97 hf105 => ?_)
              refine seq_one (op_val (v := .pointer (some ⟨b10, 2, none⟩)) hf105 rfl rfl rfl rfl rfl rfl (r_fieldAddr fi_89_2 rfl rfl) fun ac98 hf106 => ?_)
              refine seq_one (op_val (v := .int .i64 nn9) hf106 rfl rfl rfl rfl rfl rfl (r_load ag_3 rfl (hI15.at 7 rfl) rfl) fun ac99 hf107 => ?_)
              refine seq_one (op_call (R := fun v w' => v = .int .i64 (r.enterE 1 ii9 nn9) ∧ Inv _ [(b1, arr .i64 ((r.enter 1 ii9 nn9).c).lk, 103), (b2, arr .i64 ((r.enter 1 ii9 nn9).c).of, 3), (b3, arr .i64 ((r.enter 1 ii9 nn9).c).mn, 3), (b4, #[.slice (some ⟨b1, 0, none⟩) (N + 2) (N + 2), .slice (some ⟨b2, 0, none⟩) N N, .slice (some ⟨b3, 0, none⟩) 2 2], 79), (b5, arr .i64 (r.enter 1 ii9 nn9).cr, 3), (b6, #[.pointer (some ⟨b4, 0, none⟩), .slice (some ⟨b5, 0, none⟩) N N, .int .i64 ((r.enter 1 ii9 nn9).q)], 45)] w') hf107 rfl rfl rfl rfl ca_25 ((back_any (hI15.nd6 0 rfl rfl rfl rfl rfl rfl) r (Has.cons (hI15.at 0 rfl) (Has.cons (hI15.at 1 rfl) (Has.cons (hI15.at 2 rfl) (Has.cons (hI15.at 3 rfl) (Has.cons (hI15.at 4 rfl) (Has.cons (hI15.at 5 rfl) Has.nil)))))) ii9 nn9).mono fun _ _ h => ⟨_, h.1, rfl, h.2⟩) fun ac100 v wd13 hR11 hf108 => ?_)
              obtain ⟨rfl, hR11⟩ := hR11
              have hI20 : Inv w ([(b1, arr .i64 ((r.enter 1 ii9 nn9).c).lk, 103), (b2, arr .i64 ((r.enter 1 ii9 nn9).c).of, 3), (b3, arr .i64 ((r.enter 1 ii9 nn9).c).mn, 3), (b4, #[.slice (some ⟨b1, 0, none⟩) (N + 2) (N + 2), .slice (some ⟨b2, 0, none⟩) N N, .slice (some ⟨b3, 0, none⟩) 2 2], 79), (b5, arr .i64 (r.enter 1 ii9 nn9).cr, 3), (b6, #[.pointer (some ⟨b4, 0, none⟩), .slice (some ⟨b5, 0, none⟩) N N, .int .i64 ((r.enter 1 ii9 nn9).q)], 45), (b8, #[.int .i64 (N : Int), .int .i64 q, .slice g0 ((r.pl 0).length) gc0, .slice g1 ((r.pl 1).length) gc1], 85), (b10, #[.int .u8 kd9, .int .i64 ii9, .int .i64 nn9], 89)] ++ SS) _ := Inv.callST (A := []) (S := [(b1, arr .i64 r.c.lk, 103), (b2, arr .i64 r.c.of, 3), (b3, arr .i64 r.c.mn, 3), (b4, #[.slice (some ⟨b1, 0, none⟩) (N + 2) (N + 2), .slice (some ⟨b2, 0, none⟩) N N, .slice (some ⟨b3, 0, none⟩) 2 2], 79), (b5, arr .i64 r.cr, 3), (b6, #[.pointer (some ⟨b4, 0, none⟩), .slice (some ⟨b5, 0, none⟩) N N, .int .i64 r.q], 45)]) (S' := [(b1, arr .i64 ((r.enter 1 ii9 nn9).c).lk, 103), (b2, arr .i64 ((r.enter 1 ii9 nn9).c).of, 3), (b3, arr .i64 ((r.enter 1 ii9 nn9).c).mn, 3), (b4, #[.slice (some ⟨b1, 0, none⟩) (N + 2) (N + 2), .slice (some ⟨b2, 0, none⟩) N N, .slice (some ⟨b3, 0, none⟩) 2 2], 79), (b5, arr .i64 (r.enter 1 ii9 nn9).cr, 3), (b6, #[.pointer (some ⟨b4, 0, none⟩), .slice (some ⟨b5, 0, none⟩) N N, .int .i64 ((r.enter 1 ii9 nn9).q)], 45)]) (L := [(b8, #[.int .i64 (N : Int), .int .i64 q, .slice g0 ((r.pl 0).length) gc0, .slice g1 ((r.pl 1).length) gc1], 85), (b10, #[.int .u8 kd9, .int .i64 ii9, .int .i64 nn9], 89)]) (N := []) (T := SS) hI15 hR11 rfl (fun _ h => by cases h)
              refine seq_one (op_val (v := .int .i64 (r.enterE 1 ii9 nn9)) hf108 rfl rfl rfl rfl rfl rfl (r_assign rfl) fun ac101 hf109 => ?_)
              refine seq_end ?_
              clear hf101 ac94 hf102 ac95 hf103 ac96 hf104 ac97 hf105 ac98 hf106 ac99 wd9 hf107 hI15 hR11 ac100 hf108
              refine then_normal ?_
              refine seq_start (l := [0, 1, 2, 3, 4, 5, 6, 7, 8, 9, 10]) rfl ?_
              refine seq_one (op_val (v := .agg #[.int .i64 (N : Int), .int .i64 q, .slice g0 ((r.pl 0).length) gc0, .slice g1 ((r.pl 1).length) gc1]) hf109 rfl rfl rfl rfl rfl rfl (r_loadW ag_85 sz_85 rfl (hI20.at 6 rfl) rfl) fun ac102 hf110 => ?_)
              refine seq_one (op_val (v := .pointer (some ⟨b10, 1, none⟩)) hf110 rfl rfl rfl rfl rfl rfl (r_fieldAddr fi_89_1 rfl rfl) fun ac103 hf111 => ?_)
              refine seq_one (op_val (v := .int .i64 ii9) hf111 rfl rfl rfl rfl rfl rfl (r_load ag_3 rfl (hI20.at 7 rfl) rfl) fun ac104 hf112 => ?_)
              refine seq_one (op_val (v := .pointer (some ⟨b10, 2, none⟩)) hf112 rfl rfl rfl rfl rfl rfl (r_fieldAddr fi_89_2 rfl rfl) fun ac105 hf113 => ?_)
              refine seq_one (op_val (v := .int .i64 nn9) hf113 rfl rfl rfl rfl rfl rfl (r_load ag_3 rfl (hI20.at 7 rfl) rfl) fun ac106 hf114 => ?_)
              refine seq_one (op_call (R := fun v w' => ∃ S q0 d0 q1 d1, v = .tuple #[.agg #[.int .i64 (N : Int), .int .i64 q, .slice q0 ((r.enter 1 ii9 nn9).pl 0).length d0, .slice q1 ((r.enter 1 ii9 nn9).pl 1).length d1], .int .i64 (r.enterE 1 ii9 nn9)] ∧ Inv _ S w' ∧ (∀ x ∈ S, Array.size (World.heap _) ≤ x.1) ∧ Tr (g0, gc0, r.pl 0) (g1, gc1, r.pl 1) S q0 d0 ((r.enter 1 ii9 nn9).pl 0) ∧ Tr (g0, gc0, r.pl 0) (g1, gc1, r.pl 1) S q1 d1 ((r.enter 1 ii9 nn9).pl 1)) hf114 rfl rfl rfl rfl ca_44 ((renter_walk1 (r := r) hx1.2.1 (f := ii9) (x := nn9) (hx1.2.2.1).1 (hx1.2.2.2.1).1 (View.rows hx1.2.2.1 hI20 (fk_app (fresh_keys (ks := [b1, b2, b3, b4, b5, b6, b8, b10]) rfl (fk_cons hb1 (fk_cons hb2 (fk_cons hb3 (fk_cons hb4 (fk_cons hb5 (fk_cons hb6 (fk_cons hb8 (fk_cons hb10 fk_nil))))))))) hx1.2.2.2.2) (fun x hx => List.mem_append_right _ hx)) (View.rows hx1.2.2.2.1 hI20 (fk_app (fresh_keys (ks := [b1, b2, b3, b4, b5, b6, b8, b10]) rfl (fk_cons hb1 (fk_cons hb2 (fk_cons hb3 (fk_cons hb4 (fk_cons hb5 (fk_cons hb6 (fk_cons hb8 (fk_cons hb10 fk_nil))))))))) hx1.2.2.2.2) (fun x hx => List.mem_append_right _ hx))).mono fun _ _ ⟨S, q0, d0, q1, d1, he, h1, h2, h3, h4⟩ => ⟨_, he, S, q0, d0, q1, d1, rfl, h1, h2, h3, h4⟩) fun ac107 v wd14 hR hf115 => ?_)
              obtain ⟨Sq12, m12, k12, m12', k12', rfl, hw12, hz12, hta12, htb12⟩ := hR
              have hy12 := fk_le hI20.size hz12
              have hva12 := hta12 w SS hx1.2.2.1 hx1.2.2.2.1
              have hvb12 := htb12 w SS hx1.2.2.1 hx1.2.2.2.1
              have hI21 : Inv w ([(b1, arr .i64 ((r.enter 1 ii9 nn9).c).lk, 103), (b2, arr .i64 ((r.enter 1 ii9 nn9).c).of, 3), (b3, arr .i64 ((r.enter 1 ii9 nn9).c).mn, 3), (b4, #[.slice (some ⟨b1, 0, none⟩) (N + 2) (N + 2), .slice (some ⟨b2, 0, none⟩) N N, .slice (some ⟨b3, 0, none⟩) 2 2], 79), (b5, arr .i64 (r.enter 1 ii9 nn9).cr, 3), (b6, #[.pointer (some ⟨b4, 0, none⟩), .slice (some ⟨b5, 0, none⟩) N N, .int .i64 ((r.enter 1 ii9 nn9).q)], 45), (b8, #[.int .i64 (N : Int), .int .i64 q, .slice g0 ((r.pl 0).length) gc0, .slice g1 ((r.pl 1).length) gc1], 85), (b10, #[.int .u8 kd9, .int .i64 ii9, .int .i64 nn9], 89)] ++ (SS ++ Sq12)) _ := hI20.callN hw12 hz12
              refine seq_one (op_val (v := .tuple #[.agg #[.int .i64 (N : Int), .int .i64 q, .slice m12 (((r.enter 1 ii9 nn9).pl 0).length) k12, .slice m12' (((r.enter 1 ii9 nn9).pl 1).length) k12'], .int .i64 (r.enterE 1 ii9 nn9)]) hf115 rfl rfl rfl rfl rfl rfl (r_move rfl) fun ac108 hf116 => ?_)
              refine seq_one (op_val (v := .agg #[.int .i64 (N : Int), .int .i64 q, .slice m12 (((r.enter 1 ii9 nn9).pl 0).length) k12, .slice m12' (((r.enter 1 ii9 nn9).pl 1).length) k12']) hf116 rfl rfl rfl rfl rfl rfl (r_extract rfl rfl) fun ac109 hf117 => ?_)
              refine seq_one (op_val (v := .int .i64 (r.enterE 1 ii9 nn9)) hf117 rfl rfl rfl rfl rfl rfl (r_extract rfl rfl) fun ac110 hf118 => ?_)
              refine seq_one (op_storeW (cells := #[.int .i64 (N : Int), .int .i64 q, .slice m12 (((r.enter 1 ii9 nn9).pl 0).length) k12, .slice m12' (((r.enter 1 ii9 nn9).pl 1).length) k12']) 6 hf118 rfl rfl rfl rfl rfl sz_85 rfl rfl hI21 rfl rfl fun wd15 hI22 => ?_)
              have hI23 : Inv w ([(b1, arr .i64 ((r.enter 1 ii9 nn9).c).lk, 103), (b2, arr .i64 ((r.enter 1 ii9 nn9).c).of, 3), (b3, arr .i64 ((r.enter 1 ii9 nn9).c).mn, 3), (b4, #[.slice (some ⟨b1, 0, none⟩) (N + 2) (N + 2), .slice (some ⟨b2, 0, none⟩) N N, .slice (some ⟨b3, 0, none⟩) 2 2], 79), (b5, arr .i64 (r.enter 1 ii9 nn9).cr, 3), (b6, #[.pointer (some ⟨b4, 0, none⟩), .slice (some ⟨b5, 0, none⟩) N N, .int .i64 ((r.enter 1 ii9 nn9).q)], 45), (b8, #[.int .i64 (N : Int), .int .i64 q, .slice m12 (((r.enter 1 ii9 nn9).pl 0).length) k12, .slice m12' (((r.enter 1 ii9 nn9).pl 1).length) k12'], 85), (b10, #[.int .u8 kd9, .int .i64 ii9, .int .i64 nn9], 89)] ++ (SS ++ Sq12)) wd15 := hI22
              refine seq_one (op_val (v := .int .i64 (r.enterE 1 ii9 nn9)) hf118 rfl rfl rfl rfl rfl rfl (r_assign rfl) fun ac111 hf119 => ?_)
              refine seq_end ?_
              clear ac101 hf109 ac102 hf110 ac103 hf111 ac104 hf112 ac105 hf113 ac106 wd13 hf114 hI20 hw12 hz12 hta12 htb12 ac107 hf115 ac108 hf116 ac109 hf117 wd14 hI21 hI22 ac110 hf118
              refine block_normal ?_
              refine then_normal ?_
              exact ⟨((r.enter 1 ii9 nn9), m12, k12, m12', k12', (SS ++ Sq12), 0, 0, false, false, (r.enterE 1 ii9 nn9)), (hf119.cons 0 rfl (hf119.cons 1 rfl (hf119.cons 2 rfl (hf119.cons 7 rfl (hf119.cons 8 rfl (hf119.cons 9 rfl (hf119.cons 10 rfl (hf119.cons 12 rfl (hf119.cons 32 rfl (hf119.cons 33 rfl (hf119.cons 34 rfl (hf119.cons 35 rfl (hf119.cons 36 rfl (hf119.cons 37 rfl (hf119.cons 38 rfl (hf119.cons 39 rfl (hf119.cons 40 rfl (hf119.cons 41 rfl (hf119.cons 42 rfl (hf119.cons 43 rfl (hf119.cons 44 rfl (hf119.cons 45 rfl (hf119.cons 46 rfl (hf119.cons 47 rfl (hf119.cons 48 rfl (hf119.cons 49 rfl (hf119.cons 50 rfl (hf119.cons 51 rfl (hf119.cons 58 rfl (hf119.cons 59 rfl (hf119.cons 60 rfl (hf119.cons 61 rfl (hf119.cons 62 rfl (hf119.cons 63 rfl (hf119.cons 64 rfl (hf119.cons 65 rfl (hf119.cons 66 rfl (hf119.cons 67 rfl (hf119.cons 68 rfl (hf119.cons 69 rfl (hf119.cons 70 rfl (hf119.cons 72 rfl (hf119.cons 73 rfl (hf119.cons 74 rfl (hf119.cons 75 rfl (hf119.cons 76 rfl (hf119.cons 77 rfl (hf119.cons 78 rfl (hf119.cons 79 rfl (hf119.cons 13 rfl (hf119.cons 14 rfl (hf119.cons 15 rfl (hf119.cons 16 rfl (hf119.cons 17 rfl (hf119.cons 18 rfl (hf119.cons 19 rfl (hf119.cons 20 rfl (hf119.cons 21 rfl (hf119.cons 22 rfl hf119.nil))))))))))))))))))))))))))))))))))))))))))))))))))))))))))), ⟨hI23, ⟨((Ro.q_enter _ _ _ _).trans hx1.2.1), hva12, hvb12, (fk_app hx1.2.2.2.2 hy12)⟩⟩⟩
            · have hf120 := hf101.know 97 (u := .bool false) rfl (congrArg Value.bool c97_5)
              refine code_seq ?_
              refine seq_start (l := [0, 1]) rfl ?_
              refine seq_one (op_val (v := .bool (kd9 == 3)) hf120 rfl rfl rfl rfl rfl rfl (r_eql rfl rfl) fun ac112 hf121 => ?_)
              refine seq_one (op_val (v := .bool (kd9 == 3)) hf121 rfl rfl rfl rfl rfl rfl (r_assign rfl) fun ac113 hf122 => ?_)
              refine seq_end ?_
              clear hf101 ac94 hf120 ac112 hf121
              refine then_normal ?_
              refine code_if hf122 rfl (fun c114_6 => ?_) (fun c114_6 => ?_)
              · have hf123 := hf122.know 114 (u := .bool true) rfl (congrArg Value.bool c114_6)
                refine code_seq ?_
                refine seq_start (l := [0, 1, 2, 3, 4, 5, 6, 7, 8]) rfl ?_
                refine seq_one (op_val (v := .pointer (some ⟨b6, 0, none⟩)) hf123 rfl rfl rfl rfl rfl rfl (r_move rfl) fun ac114 hf124 => ?_)
                refine seq_one (op_call (R := fun v w' => v = .tuple #[.int .i64 r.head.f, .int .i64 r.headC, .bool r.head.ok] ∧ Inv _ [(b1, arr .i64 r.head.c.lk, 103), (b2, arr .i64 r.head.c.of, 3), (b3, arr .i64 r.head.c.mn, 3), (b4, #[.slice (some ⟨b1, 0, none⟩) (N + 2) (N + 2), .slice (some ⟨b2, 0, none⟩) N N, .slice (some ⟨b3, 0, none⟩) 2 2], 79), (b5, arr .i64 r.head.cr, 3), (b6, #[.pointer (some ⟨b4, 0, none⟩), .slice (some ⟨b5, 0, none⟩) N N, .int .i64 r.head.q], 45)] w') hf124 rfl rfl rfl rfl ca_20 ((head_any (hI15.nd6 0 rfl rfl rfl rfl rfl rfl) r (Has.cons (hI15.at 0 rfl) (Has.cons (hI15.at 1 rfl) (Has.cons (hI15.at 2 rfl) (Has.cons (hI15.at 3 rfl) (Has.cons (hI15.at 4 rfl) (Has.cons (hI15.at 5 rfl) Has.nil)))))) ).mono fun _ _ h => ⟨_, h.1, rfl, h.2⟩) fun ac115 v wd16 hR11 hf125 => ?_)
                obtain ⟨rfl, hR11⟩ := hR11
                have hI24 : Inv w ([(b1, arr .i64 r.head.c.lk, 103), (b2, arr .i64 r.head.c.of, 3), (b3, arr .i64 r.head.c.mn, 3), (b4, #[.slice (some ⟨b1, 0, none⟩) (N + 2) (N + 2), .slice (some ⟨b2, 0, none⟩) N N, .slice (some ⟨b3, 0, none⟩) 2 2], 79), (b5, arr .i64 r.head.cr, 3), (b6, #[.pointer (some ⟨b4, 0, none⟩), .slice (some ⟨b5, 0, none⟩) N N, .int .i64 r.head.q], 45), (b8, #[.int .i64 (N : Int), .int .i64 q, .slice g0 ((r.pl 0).length) gc0, .slice g1 ((r.pl 1).length) gc1], 85), (b10, #[.int .u8 kd9, .int .i64 ii9, .int .i64 nn9], 89)] ++ SS) _ := Inv.callST (A := []) (S := [(b1, arr .i64 r.c.lk, 103), (b2, arr .i64 r.c.of, 3), (b3, arr .i64 r.c.mn, 3), (b4, #[.slice (some ⟨b1, 0, none⟩) (N + 2) (N + 2), .slice (some ⟨b2, 0, none⟩) N N, .slice (some ⟨b3, 0, none⟩) 2 2], 79), (b5, arr .i64 r.cr, 3), (b6, #[.pointer (some ⟨b4, 0, none⟩), .slice (some ⟨b5, 0, none⟩) N N, .int .i64 r.q], 45)]) (S' := [(b1, arr .i64 r.head.c.lk, 103), (b2, arr .i64 r.head.c.of, 3), (b3, arr .i64 r.head.c.mn, 3), (b4, #[.slice (some ⟨b1, 0, none⟩) (N + 2) (N + 2), .slice (some ⟨b2, 0, none⟩) N N, .slice (some ⟨b3, 0, none⟩) 2 2], 79), (b5, arr .i64 r.head.cr, 3), (b6, #[.pointer (some ⟨b4, 0, none⟩), .slice (some ⟨b5, 0, none⟩) N N, .int .i64 r.head.q], 45)]) (L := [(b8, #[.int .i64 (N : Int), .int .i64 q, .slice g0 ((r.pl 0).length) gc0, .slice g1 ((r.pl 1).length) gc1], 85), (b10, #[.int .u8 kd9, .int .i64 ii9, .int .i64 nn9], 89)]) (N := []) (T := SS) hI15 hR11 rfl (fun _ h => by cases h)
                refine seq_one (op_val (v := .tuple #[.int .i64 r.head.f, .int .i64 r.headC, .bool r.head.ok]) hf125 rfl rfl rfl rfl rfl rfl (r_move rfl) fun ac116 hf126 => ?_)
                refine seq_one (op_val (v := .int .i64 r.head.f) hf126 rfl rfl rfl rfl rfl rfl (r_extract rfl rfl) fun ac117 hf127 => ?_)
                refine seq_one (op_val (v := .int .i64 r.headC) hf127 rfl rfl rfl rfl rfl rfl (r_extract rfl rfl) fun ac118 hf128 => ?_)
                refine seq_one (op_val (v := .bool r.head.ok) hf128 rfl rfl rfl rfl rfl rfl (r_extract rfl rfl) fun ac119 hf129 => ?_)
                refine seq_one (op_val (v := .int .i64 r.head.f) hf129 rfl rfl rfl rfl rfl rfl (r_assign rfl) fun ac120 hf130 => ?_)
                refine seq_one (op_val (v := .int .i64 r.headC) hf130 rfl rfl rfl rfl rfl rfl (r_assign rfl) fun ac121 hf131 => ?_)
                refine seq_one (op_val (v := .bool r.head.ok) hf131 rfl rfl rfl rfl rfl rfl (r_assign rfl) fun ac122 hf132 => ?_)
                refine seq_end ?_
                clear hf122 ac113 hf123 ac114 wd9 hf124 hI15 hR11 ac115 hf125 ac116 hf126 ac117 hf127 ac118 hf128 ac119 hf129 ac120 hf130 ac121 hf131
                refine then_normal ?_
                refine seq_start (l := [0, 1, 2, 3, 4, 5, 6, 7, 8, 9, 10]) rfl ?_
                refine seq_one (op_val (v := .agg #[.int .i64 (N : Int), .int .i64 q, .slice g0 ((r.pl 0).length) gc0, .slice g1 ((r.pl 1).length) gc1]) hf132 rfl rfl rfl rfl rfl rfl (r_loadW ag_85 sz_85 rfl (hI24.at 6 rfl) rfl) fun ac123 hf133 => ?_)
                refine seq_one (op_call (R := fun v w' => ∃ S q0 d0 q1 d1, v = .tuple #[.agg #[.int .i64 (N : Int), .int .i64 q, .slice q0 (r.head.pl 0).length d0, .slice q1 (r.head.pl 1).length d1], .int .i64 r.head.f, .int .i64 r.headC, .bool r.head.ok] ∧ Inv _ S w' ∧ (∀ x ∈ S, Array.size (World.heap _) ≤ x.1) ∧ Tr (g0, gc0, r.pl 0) (g1, gc1, r.pl 1) S q0 d0 (r.head.pl 0) ∧ Tr (g0, gc0, r.pl 0) (g1, gc1, r.pl 1) S q1 d1 (r.head.pl 1)) hf133 rfl rfl rfl rfl ca_45 ((rhead_walk (r := r) hx1.2.1  (hx1.2.2.1).1 (hx1.2.2.2.1).1 (View.rows hx1.2.2.1 hI24 (fk_app (fresh_keys (ks := [b1, b2, b3, b4, b5, b6, b8, b10]) rfl (fk_cons hb1 (fk_cons hb2 (fk_cons hb3 (fk_cons hb4 (fk_cons hb5 (fk_cons hb6 (fk_cons hb8 (fk_cons hb10 fk_nil))))))))) hx1.2.2.2.2) (fun x hx => List.mem_append_right _ hx)) (View.rows hx1.2.2.2.1 hI24 (fk_app (fresh_keys (ks := [b1, b2, b3, b4, b5, b6, b8, b10]) rfl (fk_cons hb1 (fk_cons hb2 (fk_cons hb3 (fk_cons hb4 (fk_cons hb5 (fk_cons hb6 (fk_cons hb8 (fk_cons hb10 fk_nil))))))))) hx1.2.2.2.2) (fun x hx => List.mem_append_right _ hx))).mono fun _ _ ⟨S, q0, d0, q1, d1, he, h1, h2, h3, h4⟩ => ⟨_, he, S, q0, d0, q1, d1, rfl, h1, h2, h3, h4⟩) fun ac124 v wd17 hR hf134 => ?_)
                obtain ⟨Sq12, m12, k12, m12', k12', rfl, hw12, hz12, hta12, htb12⟩ := hR
                have hy12 := fk_le hI24.size hz12
                have hva12 := hta12 w SS hx1.2.2.1 hx1.2.2.2.1
                have hvb12 := htb12 w SS hx1.2.2.1 hx1.2.2.2.1
                have hI25 : Inv w ([(b1, arr .i64 r.head.c.lk, 103), (b2, arr .i64 r.head.c.of, 3), (b3, arr .i64 r.head.c.mn, 3), (b4, #[.slice (some ⟨b1, 0, none⟩) (N + 2) (N + 2), .slice (some ⟨b2, 0, none⟩) N N, .slice (some ⟨b3, 0, none⟩) 2 2], 79), (b5, arr .i64 r.head.cr, 3), (b6, #[.pointer (some ⟨b4, 0, none⟩), .slice (some ⟨b5, 0, none⟩) N N, .int .i64 r.head.q], 45), (b8, #[.int .i64 (N : Int), .int .i64 q, .slice g0 ((r.pl 0).length) gc0, .slice g1 ((r.pl 1).length) gc1], 85), (b10, #[.int .u8 kd9, .int .i64 ii9, .int .i64 nn9], 89)] ++ (SS ++ Sq12)) _ := hI24.callN hw12 hz12
                refine seq_one (op_val (v := .tuple #[.agg #[.int .i64 (N : Int), .int .i64 q, .slice m12 ((r.head.pl 0).length) k12, .slice m12' ((r.head.pl 1).length) k12'], .int .i64 r.head.f, .int .i64 r.headC, .bool r.head.ok]) hf134 rfl rfl rfl rfl rfl rfl (r_move rfl) fun ac125 hf135 => ?_)
                refine seq_one (op_val (v := .agg #[.int .i64 (N : Int), .int .i64 q, .slice m12 ((r.head.pl 0).length) k12, .slice m12' ((r.head.pl 1).length) k12']) hf135 rfl rfl rfl rfl rfl rfl (r_extract rfl rfl) fun ac126 hf136 => ?_)
                refine seq_one (op_val (v := .int .i64 r.head.f) hf136 rfl rfl rfl rfl rfl rfl (r_extract rfl rfl) fun ac127 hf137 => ?_)
                refine seq_one (op_val (v := .int .i64 r.headC) hf137 rfl rfl rfl rfl rfl rfl (r_extract rfl rfl) fun ac128 hf138 => ?_)
                refine seq_one (op_val (v := .bool r.head.ok) hf138 rfl rfl rfl rfl rfl rfl (r_extract rfl rfl) fun ac129 hf139 => ?_)
                refine seq_one (op_storeW (cells := #[.int .i64 (N : Int), .int .i64 q, .slice m12 ((r.head.pl 0).length) k12, .slice m12' ((r.head.pl 1).length) k12']) 6 hf139 rfl rfl rfl rfl rfl sz_85 rfl rfl hI25 rfl rfl fun wd18 hI26 => ?_)
                have hI27 : Inv w ([(b1, arr .i64 r.head.c.lk, 103), (b2, arr .i64 r.head.c.of, 3), (b3, arr .i64 r.head.c.mn, 3), (b4, #[.slice (some ⟨b1, 0, none⟩) (N + 2) (N + 2), .slice (some ⟨b2, 0, none⟩) N N, .slice (some ⟨b3, 0, none⟩) 2 2], 79), (b5, arr .i64 r.head.cr, 3), (b6, #[.pointer (some ⟨b4, 0, none⟩), .slice (some ⟨b5, 0, none⟩) N N, .int .i64 r.head.q], 45), (b8, #[.int .i64 (N : Int), .int .i64 q, .slice m12 ((r.head.pl 0).length) k12, .slice m12' ((r.head.pl 1).length) k12'], 85), (b10, #[.int .u8 kd9, .int .i64 ii9, .int .i64 nn9], 89)] ++ (SS ++ Sq12)) wd18 := hI26
                refine seq_one (op_val (v := .int .i64 r.head.f) hf139 rfl rfl rfl rfl rfl rfl (r_assign rfl) fun ac130 hf140 => ?_)
                refine seq_one (op_val (v := .int .i64 r.headC) hf140 rfl rfl rfl rfl rfl rfl (r_assign rfl) fun ac131 hf141 => ?_)
                refine seq_one (op_val (v := .bool r.head.ok) hf141 rfl rfl rfl rfl rfl rfl (r_assign rfl) fun ac132 hf142 => ?_)
                refine seq_end ?_
                clear ac122 hf132 ac123 wd16 hf133 hI24 hw12 hz12 hta12 htb12 ac124 hf134 ac125 hf135 ac126 hf136 ac127 hf137 ac128 hf138 wd17 hI25 hI26 ac129 hf139 ac130 hf140 ac131 hf141
                refine block_normal ?_
                refine then_normal ?_
                exact ⟨(r.head, m12, k12, m12', k12', (SS ++ Sq12), r.head.f, r.headC, r.head.ok, false, 0), (hf142.cons 0 rfl (hf142.cons 1 rfl (hf142.cons 2 rfl (hf142.cons 7 rfl (hf142.cons 8 rfl (hf142.cons 9 rfl (hf142.cons 10 rfl (hf142.cons 12 rfl (hf142.cons 32 rfl (hf142.cons 33 rfl (hf142.cons 34 rfl (hf142.cons 35 rfl (hf142.cons 36 rfl (hf142.cons 37 rfl (hf142.cons 38 rfl (hf142.cons 39 rfl (hf142.cons 40 rfl (hf142.cons 41 rfl (hf142.cons 42 rfl (hf142.cons 43 rfl (hf142.cons 44 rfl (hf142.cons 45 rfl (hf142.cons 46 rfl (hf142.cons 47 rfl (hf142.cons 48 rfl (hf142.cons 49 rfl (hf142.cons 50 rfl (hf142.cons 51 rfl (hf142.cons 58 rfl (hf142.cons 59 rfl (hf142.cons 60 rfl (hf142.cons 61 rfl (hf142.cons 62 rfl (hf142.cons 63 rfl (hf142.cons 64 rfl (hf142.cons 65 rfl (hf142.cons 66 rfl (hf142.cons 67 rfl (hf142.cons 68 rfl (hf142.cons 69 rfl (hf142.cons 70 rfl (hf142.cons 72 rfl (hf142.cons 73 rfl (hf142.cons 74 rfl (hf142.cons 75 rfl (hf142.cons 76 rfl (hf142.cons 77 rfl (hf142.cons 78 rfl (hf142.cons 79 rfl (hf142.cons 13 rfl (hf142.cons 14 rfl (hf142.cons 15 rfl (hf142.cons 16 rfl (hf142.cons 17 rfl (hf142.cons 18 rfl (hf142.cons 19 rfl (hf142.cons 20 rfl (hf142.cons 21 rfl (hf142.cons 22 rfl hf142.nil))))))))))))))))))))))))))))))))))))))))))))))))))))))))))), ⟨hI27, ⟨((Ro.q_head _).trans hx1.2.1), hva12, hvb12, (fk_app hx1.2.2.2.2 hy12)⟩⟩⟩
              · have hf143 := hf122.know 114 (u := .bool false) rfl (congrArg Value.bool c114_6)
                refine code_seq ?_
                refine seq_start (l := [0, 1]) rfl ?_
                refine seq_one (op_val (v := .bool (kd9 == 4)) hf143 rfl rfl rfl rfl rfl rfl (r_eql rfl rfl) fun ac133 hf144 => ?_)
                refine seq_one (op_val (v := .bool (kd9 == 4)) hf144 rfl rfl rfl rfl rfl rfl (r_assign rfl) fun ac134 hf145 => ?_)
                refine seq_end ?_
                clear hf122 ac113 hf143 ac133 hf144
                refine then_normal ?_
                refine code_if hf145 rfl (fun c129_7 => ?_) (fun c129_7 => ?_)
                · have hf146 := hf145.know 129 (u := .bool true) rfl (congrArg Value.bool c129_7)
                  refine code_seq ?_
                  refine seq_start (l := [0, 1, 2, 3, 4]) rfl ?_
                  refine seq_one (op_val (v := .pointer (some ⟨b6, 0, none⟩)) hf146 rfl rfl rfl rfl rfl rfl (r_move rfl) fun ac135 hf147 => ?_)
                  refine seq_one (op_val (v := .pointer (some ⟨b10, 2, none⟩)) hf147 rfl rfl rfl rfl rfl rfl (r_fieldAddr fi_89_2 rfl rfl) fun ac136 hf148 => ?_)
                  refine seq_one (op_val (v := .int .i64 nn9) hf148 rfl rfl rfl rfl rfl rfl (r_load ag_3 rfl (hI15.at 7 rfl) rfl) fun ac137 hf149 => ?_)
                  refine seq_one (op_call (R := fun v w' => v = .int .i64 (r.setE nn9) ∧ Inv _ [(b1, arr .i64 ((r.set nn9).c).lk, 103), (b2, arr .i64 ((r.set nn9).c).of, 3), (b3, arr .i64 ((r.set nn9).c).mn, 3), (b4, #[.slice (some ⟨b1, 0, none⟩) (N + 2) (N + 2), .slice (some ⟨b2, 0, none⟩) N N, .slice (some ⟨b3, 0, none⟩) 2 2], 79), (b5, arr .i64 (r.set nn9).cr, 3), (b6, #[.pointer (some ⟨b4, 0, none⟩), .slice (some ⟨b5, 0, none⟩) N N, .int .i64 ((r.set nn9).q)], 45)] w') hf149 rfl rfl rfl rfl ca_22 ((set_any (hI15.nd6 0 rfl rfl rfl rfl rfl rfl) r (Has.cons (hI15.at 0 rfl) (Has.cons (hI15.at 1 rfl) (Has.cons (hI15.at 2 rfl) (Has.cons (hI15.at 3 rfl) (Has.cons (hI15.at 4 rfl) (Has.cons (hI15.at 5 rfl) Has.nil)))))) nn9).mono fun _ _ h => ⟨_, h.1, rfl, h.2⟩) fun ac138 v wd19 hR11 hf150 => ?_)
                  obtain ⟨rfl, hR11⟩ := hR11
                  have hI28 : Inv w ([(b1, arr .i64 ((r.set nn9).c).lk, 103), (b2, arr .i64 ((r.set nn9).c).of, 3), (b3, arr .i64 ((r.set nn9).c).mn, 3), (b4, #[.slice (some ⟨b1, 0, none⟩) (N + 2) (N + 2), .slice (some ⟨b2, 0, none⟩) N N, .slice (some ⟨b3, 0, none⟩) 2 2], 79), (b5, arr .i64 (r.set nn9).cr, 3), (b6, #[.pointer (some ⟨b4, 0, none⟩), .slice (some ⟨b5, 0, none⟩) N N, .int .i64 ((r.set nn9).q)], 45), (b8, #[.int .i64 (N : Int), .int .i64 q, .slice g0 ((r.pl 0).length) gc0, .slice g1 ((r.pl 1).length) gc1], 85), (b10, #[.int .u8 kd9, .int .i64 ii9, .int .i64 nn9], 89)] ++ SS) _ := Inv.callST (A := []) (S := [(b1, arr .i64 r.c.lk, 103), (b2, arr .i64 r.c.of, 3), (b3, arr .i64 r.c.mn, 3), (b4, #[.slice (some ⟨b1, 0, none⟩) (N + 2) (N + 2), .slice (some ⟨b2, 0, none⟩) N N, .slice (some ⟨b3, 0, none⟩) 2 2], 79), (b5, arr .i64 r.cr, 3), (b6, #[.pointer (some ⟨b4, 0, none⟩), .slice (some ⟨b5, 0, none⟩) N N, .int .i64 r.q], 45)]) (S' := [(b1, arr .i64 ((r.set nn9).c).lk, 103), (b2, arr .i64 ((r.set nn9).c).of, 3), (b3, arr .i64 ((r.set nn9).c).mn, 3), (b4, #[.slice (some ⟨b1, 0, none⟩) (N + 2) (N + 2), .slice (some ⟨b2, 0, none⟩) N N, .slice (some ⟨b3, 0, none⟩) 2 2], 79), (b5, arr .i64 (r.set nn9).cr, 3), (b6, #[.pointer (some ⟨b4, 0, none⟩), .slice (some ⟨b5, 0, none⟩) N N, .int .i64 ((r.set nn9).q)], 45)]) (L := [(b8, #[.int .i64 (N : Int), .int .i64 q, .slice g0 ((r.pl 0).length) gc0, .slice g1 ((r.pl 1).length) gc1], 85), (b10, #[.int .u8 kd9, .int .i64 ii9, .int .i64 nn9], 89)]) (N := []) (T := SS) hI15 hR11 rfl (fun _ h => by cases h)
                  refine seq_one (op_val (v := .int .i64 (r.setE nn9)) hf150 rfl rfl rfl rfl rfl rfl (r_assign rfl) fun ac139 hf151 => ?_)
                  refine seq_end ?_
                  clear hf145 ac134 hf146 ac135 hf147 ac136 hf148 ac137 wd9 hf149 hI15 hR11 ac138 hf150
                  refine then_normal ?_
                  refine seq_start (l := [0, 1, 2, 3, 4, 5, 6, 7, 8]) rfl ?_
                  refine seq_one (op_val (v := .agg #[.int .i64 (N : Int), .int .i64 q, .slice g0 ((r.pl 0).length) gc0, .slice g1 ((r.pl 1).length) gc1]) hf151 rfl rfl rfl rfl rfl rfl (r_loadW ag_85 sz_85 rfl (hI28.at 6 rfl) rfl) fun ac140 hf152 => ?_)
                  refine seq_one (op_val (v := .pointer (some ⟨b10, 2, none⟩)) hf152 rfl rfl rfl rfl rfl rfl (r_fieldAddr fi_89_2 rfl rfl) fun ac141 hf153 => ?_)
                  refine seq_one (op_val (v := .int .i64 nn9) hf153 rfl rfl rfl rfl rfl rfl (r_load ag_3 rfl (hI28.at 7 rfl) rfl) fun ac142 hf154 => ?_)
                  refine seq_one (op_call (R := fun v w' => ∃ S q0 d0 q1 d1, v = .tuple #[.agg #[.int .i64 (N : Int), .int .i64 q, .slice q0 ((r.set nn9).pl 0).length d0, .slice q1 ((r.set nn9).pl 1).length d1], .int .i64 (r.setE nn9)] ∧ Inv _ S w' ∧ (∀ x ∈ S, Array.size (World.heap _) ≤ x.1) ∧ Tr (g0, gc0, r.pl 0) (g1, gc1, r.pl 1) S q0 d0 ((r.set nn9).pl 0) ∧ Tr (g0, gc0, r.pl 0) (g1, gc1, r.pl 1) S q1 d1 ((r.set nn9).pl 1)) hf154 rfl rfl rfl rfl ca_46 ((rset_walk (r := r) hx1.2.1 (x := nn9) (hx1.2.2.1).1 (hx1.2.2.2.1).1 (View.rows hx1.2.2.1 hI28 (fk_app (fresh_keys (ks := [b1, b2, b3, b4, b5, b6, b8, b10]) rfl (fk_cons hb1 (fk_cons hb2 (fk_cons hb3 (fk_cons hb4 (fk_cons hb5 (fk_cons hb6 (fk_cons hb8 (fk_cons hb10 fk_nil))))))))) hx1.2.2.2.2) (fun x hx => List.mem_append_right _ hx)) (View.rows hx1.2.2.2.1 hI28 (fk_app (fresh_keys (ks := [b1, b2, b3, b4, b5, b6, b8, b10]) rfl (fk_cons hb1 (fk_cons hb2 (fk_cons hb3 (fk_cons hb4 (fk_cons hb5 (fk_cons hb6 (fk_cons hb8 (fk_cons hb10 fk_nil))))))))) hx1.2.2.2.2) (fun x hx => List.mem_append_right _ hx))).mono fun _ _ ⟨S, q0, d0, q1, d1, he, h1, h2, h3, h4⟩ => ⟨_, he, S, q0, d0, q1, d1, rfl, h1, h2, h3, h4⟩) fun ac143 v wd20 hR hf155 => ?_)
                  obtain ⟨Sq12, m12, k12, m12', k12', rfl, hw12, hz12, hta12, htb12⟩ := hR
                  have hy12 := fk_le hI28.size hz12
                  have hva12 := hta12 w SS hx1.2.2.1 hx1.2.2.2.1
                  have hvb12 := htb12 w SS hx1.2.2.1 hx1.2.2.2.1
                  have hI29 : Inv w ([(b1, arr .i64 ((r.set nn9).c).lk, 103), (b2, arr .i64 ((r.set nn9).c).of, 3), (b3, arr .i64 ((r.set nn9).c).mn, 3), (b4, #[.slice (some ⟨b1, 0, none⟩) (N + 2) (N + 2), .slice (some ⟨b2, 0, none⟩) N N, .slice (some ⟨b3, 0, none⟩) 2 2], 79), (b5, arr .i64 (r.set nn9).cr, 3), (b6, #[.pointer (some ⟨b4, 0, none⟩), .slice (some ⟨b5, 0, none⟩) N N, .int .i64 ((r.set nn9).q)], 45), (b8, #[.int .i64 (N : Int), .int .i64 q, .slice g0 ((r.pl 0).length) gc0, .slice g1 ((r.pl 1).length) gc1], 85), (b10, #[.int .u8 kd9, .int .i64 ii9, .int .i64 nn9], 89)] ++ (SS ++ Sq12)) _ := hI28.callN hw12 hz12
                  refine seq_one (op_val (v := .tuple #[.agg #[.int .i64 (N : Int), .int .i64 q, .slice m12 (((r.set nn9).pl 0).length) k12, .slice m12' (((r.set nn9).pl 1).length) k12'], .int .i64 (r.setE nn9)]) hf155 rfl rfl rfl rfl rfl rfl (r_move rfl) fun ac144 hf156 => ?_)
                  refine seq_one (op_val (v := .agg #[.int .i64 (N : Int), .int .i64 q, .slice m12 (((r.set nn9).pl 0).length) k12, .slice m12' (((r.set nn9).pl 1).length) k12']) hf156 rfl rfl rfl rfl rfl rfl (r_extract rfl rfl) fun ac145 hf157 => ?_)
                  refine seq_one (op_val (v := .int .i64 (r.setE nn9)) hf157 rfl rfl rfl rfl rfl rfl (r_extract rfl rfl) fun ac146 hf158 => ?_)
                  refine seq_one (op_storeW (cells := #[.int .i64 (N : Int), .int .i64 q, .slice m12 (((r.set nn9).pl 0).length) k12, .slice m12' (((r.set nn9).pl 1).length) k12']) 6 hf158 rfl rfl rfl rfl rfl sz_85 rfl rfl hI29 rfl rfl fun wd21 hI30 => ?_)
                  have hI31 : Inv w ([(b1, arr .i64 ((r.set nn9).c).lk, 103), (b2, arr .i64 ((r.set nn9).c).of, 3), (b3, arr .i64 ((r.set nn9).c).mn, 3), (b4, #[.slice (some ⟨b1, 0, none⟩) (N + 2) (N + 2), .slice (some ⟨b2, 0, none⟩) N N, .slice (some ⟨b3, 0, none⟩) 2 2], 79), (b5, arr .i64 (r.set nn9).cr, 3), (b6, #[.pointer (some ⟨b4, 0, none⟩), .slice (some ⟨b5, 0, none⟩) N N, .int .i64 ((r.set nn9).q)], 45), (b8, #[.int .i64 (N : Int), .int .i64 q, .slice m12 (((r.set nn9).pl 0).length) k12, .slice m12' (((r.set nn9).pl 1).length) k12'], 85), (b10, #[.int .u8 kd9, .int .i64 ii9, .int .i64 nn9], 89)] ++ (SS ++ Sq12)) wd21 := hI30
                  refine seq_one (op_val (v := .int .i64 (r.setE nn9)) hf158 rfl rfl rfl rfl rfl rfl (r_assign rfl) fun ac147 hf159 => ?_)
                  refine seq_end ?_
                  clear ac139 hf151 ac140 hf152 ac141 hf153 ac142 wd19 hf154 hI28 hw12 hz12 hta12 htb12 ac143 hf155 ac144 hf156 ac145 hf157 wd20 hI29 hI30 ac146 hf158
                  refine block_normal ?_
                  refine then_normal ?_
                  exact ⟨((r.set nn9), m12, k12, m12', k12', (SS ++ Sq12), 0, 0, false, false, (r.setE nn9)), (hf159.cons 0 rfl (hf159.cons 1 rfl (hf159.cons 2 rfl (hf159.cons 7 rfl (hf159.cons 8 rfl (hf159.cons 9 rfl (hf159.cons 10 rfl (hf159.cons 12 rfl (hf159.cons 32 rfl (hf159.cons 33 rfl (hf159.cons 34 rfl (hf159.cons 35 rfl (hf159.cons 36 rfl (hf159.cons 37 rfl (hf159.cons 38 rfl (hf159.cons 39 rfl (hf159.cons 40 rfl (hf159.cons 41 rfl (hf159.cons 42 rfl (hf159.cons 43 rfl (hf159.cons 44 rfl (hf159.cons 45 rfl (hf159.cons 46 rfl (hf159.cons 47 rfl (hf159.cons 48 rfl (hf159.cons 49 rfl (hf159.cons 50 rfl (hf159.cons 51 rfl (hf159.cons 58 rfl (hf159.cons 59 rfl (hf159.cons 60 rfl (hf159.cons 61 rfl (hf159.cons 62 rfl (hf159.cons 63 rfl (hf159.cons 64 rfl (hf159.cons 65 rfl (hf159.cons 66 rfl (hf159.cons 67 rfl (hf159.cons 68 rfl (hf159.cons 69 rfl (hf159.cons 70 rfl (hf159.cons 72 rfl (hf159.cons 73 rfl (hf159.cons 74 rfl (hf159.cons 75 rfl (hf159.cons 76 rfl (hf159.cons 77 rfl (hf159.cons 78 rfl (hf159.cons 79 rfl (hf159.cons 13 rfl (hf159.cons 14 rfl (hf159.cons 15 rfl (hf159.cons 16 rfl (hf159.cons 17 rfl (hf159.cons 18 rfl (hf159.cons 19 rfl (hf159.cons 20 rfl (hf159.cons 21 rfl (hf159.cons 22 rfl hf159.nil))))))))))))))))))))))))))))))))))))))))))))))))))))))))))), ⟨hI31, ⟨((Ro.q_set _ _).trans hx1.2.1), hva12, hvb12, (fk_app hx1.2.2.2.2 hy12)⟩⟩⟩
                · have hf160 := hf145.know 129 (u := .bool false) rfl (congrArg Value.bool c129_7)
                  refine code_seq ?_
                  refine seq_start (l := [0, 1]) rfl ?_
                  refine seq_one (op_val (v := .bool (kd9 == 5)) hf160 rfl rfl rfl rfl rfl rfl (r_eql rfl rfl) fun ac148 hf161 => ?_)
                  refine seq_one (op_val (v := .bool (kd9 == 5)) hf161 rfl rfl rfl rfl rfl rfl (r_assign rfl) fun ac149 hf162 => ?_)
                  refine seq_end ?_
                  clear hf145 ac134 hf160 ac148 hf161
                  refine then_normal ?_
                  refine code_if hf162 rfl (fun c142_8 => ?_) (fun c142_8 => ?_)
                  · have hf163 := hf162.know 142 (u := .bool true) rfl (congrArg Value.bool c142_8)
                    refine code_seq ?_
                    refine seq_start (l := [0, 1, 2, 3, 4, 5, 6, 7, 8]) rfl ?_
                    refine seq_one (op_val (v := .pointer (some ⟨b6, 0, none⟩)) hf163 rfl rfl rfl rfl rfl rfl (r_move rfl) fun ac150 hf164 => ?_)
                    refine seq_one (op_call (R := fun v w' => v = .tuple #[.int .i64 r.f, .int .i64 r.leaveC, .bool r.ok] ∧ Inv _ [(b1, arr .i64 r.leave.c.lk, 103), (b2, arr .i64 r.leave.c.of, 3), (b3, arr .i64 r.leave.c.mn, 3), (b4, #[.slice (some ⟨b1, 0, none⟩) (N + 2) (N + 2), .slice (some ⟨b2, 0, none⟩) N N, .slice (some ⟨b3, 0, none⟩) 2 2], 79), (b5, arr .i64 r.leave.cr, 3), (b6, #[.pointer (some ⟨b4, 0, none⟩), .slice (some ⟨b5, 0, none⟩) N N, .int .i64 r.leave.q], 45)] w') hf164 rfl rfl rfl rfl ca_18 ((leave_any (hI15.nd6 0 rfl rfl rfl rfl rfl rfl) r (Has.cons (hI15.at 0 rfl) (Has.cons (hI15.at 1 rfl) (Has.cons (hI15.at 2 rfl) (Has.cons (hI15.at 3 rfl) (Has.cons (hI15.at 4 rfl) (Has.cons (hI15.at 5 rfl) Has.nil)))))) ).mono fun _ _ h => ⟨_, h.1, rfl, h.2⟩) fun ac151 v wd22 hR11 hf165 => ?_)
                    obtain ⟨rfl, hR11⟩ := hR11
                    have hI32 : Inv w ([(b1, arr .i64 r.leave.c.lk, 103), (b2, arr .i64 r.leave.c.of, 3), (b3, arr .i64 r.leave.c.mn, 3), (b4, #[.slice (some ⟨b1, 0, none⟩) (N + 2) (N + 2), .slice (some ⟨b2, 0, none⟩) N N, .slice (some ⟨b3, 0, none⟩) 2 2], 79), (b5, arr .i64 r.leave.cr, 3), (b6, #[.pointer (some ⟨b4, 0, none⟩), .slice (some ⟨b5, 0, none⟩) N N, .int .i64 r.leave.q], 45), (b8, #[.int .i64 (N : Int), .int .i64 q, .slice g0 ((r.pl 0).length) gc0, .slice g1 ((r.pl 1).length) gc1], 85), (b10, #[.int .u8 kd9, .int .i64 ii9, .int .i64 nn9], 89)] ++ SS) _ := Inv.callST (A := []) (S := [(b1, arr .i64 r.c.lk, 103), (b2, arr .i64 r.c.of, 3), (b3, arr .i64 r.c.mn, 3), (b4, #[.slice (some ⟨b1, 0, none⟩) (N + 2) (N + 2), .slice (some ⟨b2, 0, none⟩) N N, .slice (some ⟨b3, 0, none⟩) 2 2], 79), (b5, arr .i64 r.cr, 3), (b6, #[.pointer (some ⟨b4, 0, none⟩), .slice (some ⟨b5, 0, none⟩) N N, .int .i64 r.q], 45)]) (S' := [(b1, arr .i64 r.leave.c.lk, 103), (b2, arr .i64 r.leave.c.of, 3), (b3, arr .i64 r.leave.c.mn, 3), (b4, #[.slice (some ⟨b1, 0, none⟩) (N + 2) (N + 2), .slice (some ⟨b2, 0, none⟩) N N, .slice (some ⟨b3, 0, none⟩) 2 2], 79), (b5, arr .i64 r.leave.cr, 3), (b6, #[.pointer (some ⟨b4, 0, none⟩), .slice (some ⟨b5, 0, none⟩) N N, .int .i64 r.leave.q], 45)]) (L := [(b8, #[.int .i64 (N : Int), .int .i64 q, .slice g0 ((r.pl 0).length) gc0, .slice g1 ((r.pl 1).length) gc1], 85), (b10, #[.int .u8 kd9, .int .i64 ii9, .int .i64 nn9], 89)]) (N := []) (T := SS) hI15 hR11 rfl (fun _ h => by cases h)
                    refine seq_one (op_val (v := .tuple #[.int .i64 r.f, .int .i64 r.leaveC, .bool r.ok]) hf165 rfl rfl rfl rfl rfl rfl (r_move rfl) fun ac152 hf166 => ?_)
                    refine seq_one (op_val (v := .int .i64 r.f) hf166 rfl rfl rfl rfl rfl rfl (r_extract rfl rfl) fun ac153 hf167 => ?_)
                    refine seq_one (op_val (v := .int .i64 r.leaveC) hf167 rfl rfl rfl rfl rfl rfl (r_extract rfl rfl) fun ac154 hf168 => ?_)
                    refine seq_one (op_val (v := .bool r.ok) hf168 rfl rfl rfl rfl rfl rfl (r_extract rfl rfl) fun ac155 hf169 => ?_)
                    refine seq_one (op_val (v := .int .i64 r.f) hf169 rfl rfl rfl rfl rfl rfl (r_assign rfl) fun ac156 hf170 => ?_)
                    refine seq_one (op_val (v := .int .i64 r.leaveC) hf170 rfl rfl rfl rfl rfl rfl (r_assign rfl) fun ac157 hf171 => ?_)
                    refine seq_one (op_val (v := .bool r.ok) hf171 rfl rfl rfl rfl rfl rfl (r_assign rfl) fun ac158 hf172 => ?_)
                    refine seq_end ?_
                    clear hf162 ac149 hf163 ac150 wd9 hf164 hI15 hR11 ac151 hf165 ac152 hf166 ac153 hf167 ac154 hf168 ac155 hf169 ac156 hf170 ac157 hf171
                    refine then_normal ?_
                    refine seq_start (l := [0, 1, 2, 3, 4, 5, 6, 7, 8, 9, 10]) rfl ?_
                    refine seq_one (op_val (v := .agg #[.int .i64 (N : Int), .int .i64 q, .slice g0 ((r.pl 0).length) gc0, .slice g1 ((r.pl 1).length) gc1]) hf172 rfl rfl rfl rfl rfl rfl (r_loadW ag_85 sz_85 rfl (hI32.at 6 rfl) rfl) fun ac159 hf173 => ?_)
                    refine seq_one (op_call (R := fun v w' => ∃ S q0 d0 q1 d1, v = .tuple #[.agg #[.int .i64 (N : Int), .int .i64 q, .slice q0 (r.leave.pl 0).length d0, .slice q1 (r.leave.pl 1).length d1], .int .i64 r.f, .int .i64 r.leaveC, .bool r.ok] ∧ Inv _ S w' ∧ (∀ x ∈ S, Array.size (World.heap _) ≤ x.1) ∧ Tr (g0, gc0, r.pl 0) (g1, gc1, r.pl 1) S q0 d0 (r.leave.pl 0) ∧ Tr (g0, gc0, r.pl 0) (g1, gc1, r.pl 1) S q1 d1 (r.leave.pl 1)) hf173 rfl rfl rfl rfl ca_47 ((rleave_walk (r := r) hx1.2.1  (hx1.2.2.1).1 (hx1.2.2.2.1).1 (View.rows hx1.2.2.1 hI32 (fk_app (fresh_keys (ks := [b1, b2, b3, b4, b5, b6, b8, b10]) rfl (fk_cons hb1 (fk_cons hb2 (fk_cons hb3 (fk_cons hb4 (fk_cons hb5 (fk_cons hb6 (fk_cons hb8 (fk_cons hb10 fk_nil))))))))) hx1.2.2.2.2) (fun x hx => List.mem_append_right _ hx)) (View.rows hx1.2.2.2.1 hI32 (fk_app (fresh_keys (ks := [b1, b2, b3, b4, b5, b6, b8, b10]) rfl (fk_cons hb1 (fk_cons hb2 (fk_cons hb3 (fk_cons hb4 (fk_cons hb5 (fk_cons hb6 (fk_cons hb8 (fk_cons hb10 fk_nil))))))))) hx1.2.2.2.2) (fun x hx => List.mem_append_right _ hx))).mono fun _ _ ⟨S, q0, d0, q1, d1, he, h1, h2, h3, h4⟩ => ⟨_, he, S, q0, d0, q1, d1, rfl, h1, h2, h3, h4⟩) fun ac160 v wd23 hR hf174 => ?_)
                    obtain ⟨Sq12, m12, k12, m12', k12', rfl, hw12, hz12, hta12, htb12⟩ := hR
                    have hy12 := fk_le hI32.size hz12
                    have hva12 := hta12 w SS hx1.2.2.1 hx1.2.2.2.1
                    have hvb12 := htb12 w SS hx1.2.2.1 hx1.2.2.2.1
                    have hI33 : Inv w ([(b1, arr .i64 r.leave.c.lk, 103), (b2, arr .i64 r.leave.c.of, 3), (b3, arr .i64 r.leave.c.mn, 3), (b4, #[.slice (some ⟨b1, 0, none⟩) (N + 2) (N + 2), .slice (some ⟨b2, 0, none⟩) N N, .slice (some ⟨b3, 0, none⟩) 2 2], 79), (b5, arr .i64 r.leave.cr, 3), (b6, #[.pointer (some ⟨b4, 0, none⟩), .slice (some ⟨b5, 0, none⟩) N N, .int .i64 r.leave.q], 45), (b8, #[.int .i64 (N : Int), .int .i64 q, .slice g0 ((r.pl 0).length) gc0, .slice g1 ((r.pl 1).length) gc1], 85), (b10, #[.int .u8 kd9, .int .i64 ii9, .int .i64 nn9], 89)] ++ (SS ++ Sq12)) _ := hI32.callN hw12 hz12
                    refine seq_one (op_val (v := .tuple #[.agg #[.int .i64 (N : Int), .int .i64 q, .slice m12 ((r.leave.pl 0).length) k12, .slice m12' ((r.leave.pl 1).length) k12'], .int .i64 r.f, .int .i64 r.leaveC, .bool r.ok]) hf174 rfl rfl rfl rfl rfl rfl (r_move rfl) fun ac161 hf175 => ?_)
                    refine seq_one (op_val (v := .agg #[.int .i64 (N : Int), .int .i64 q, .slice m12 ((r.leave.pl 0).length) k12, .slice m12' ((r.leave.pl 1).length) k12']) hf175 rfl rfl rfl rfl rfl rfl (r_extract rfl rfl) fun ac162 hf176 => ?_)
                    refine seq_one (op_val (v := .int .i64 r.f) hf176 rfl rfl rfl rfl rfl rfl (r_extract rfl rfl) fun ac163 hf177 => ?_)
                    refine seq_one (op_val (v := .int .i64 r.leaveC) hf177 rfl rfl rfl rfl rfl rfl (r_extract rfl rfl) fun ac164 hf178 => ?_)
                    refine seq_one (op_val (v := .bool r.ok) hf178 rfl rfl rfl rfl rfl rfl (r_extract rfl rfl) fun ac165 hf179 => ?_)
                    refine seq_one (op_storeW (cells := #[.int .i64 (N : Int), .int .i64 q, .slice m12 ((r.leave.pl 0).length) k12, .slice m12' ((r.leave.pl 1).length) k12']) 6 hf179 rfl rfl rfl rfl rfl sz_85 rfl rfl hI33 rfl rfl fun wd24 hI34 => ?_)
                    have hI35 : Inv w ([(b1, arr .i64 r.leave.c.lk, 103), (b2, arr .i64 r.leave.c.of, 3), (b3, arr .i64 r.leave.c.mn, 3), (b4, #[.slice (some ⟨b1, 0, none⟩) (N + 2) (N + 2), .slice (some ⟨b2, 0, none⟩) N N, .slice (some ⟨b3, 0, none⟩) 2 2], 79), (b5, arr .i64 r.leave.cr, 3), (b6, #[.pointer (some ⟨b4, 0, none⟩), .slice (some ⟨b5, 0, none⟩) N N, .int .i64 r.leave.q], 45), (b8, #[.int .i64 (N : Int), .int .i64 q, .slice m12 ((r.leave.pl 0).length) k12, .slice m12' ((r.leave.pl 1).length) k12'], 85), (b10, #[.int .u8 kd9, .int .i64 ii9, .int .i64 nn9], 89)] ++ (SS ++ Sq12)) wd24 := hI34
                    refine seq_one (op_val (v := .int .i64 r.f) hf179 rfl rfl rfl rfl rfl rfl (r_assign rfl) fun ac166 hf180 => ?_)
                    refine seq_one (op_val (v := .int .i64 r.leaveC) hf180 rfl rfl rfl rfl rfl rfl (r_assign rfl) fun ac167 hf181 => ?_)
                    refine seq_one (op_val (v := .bool r.ok) hf181 rfl rfl rfl rfl rfl rfl (r_assign rfl) fun ac168 hf182 => ?_)
                    refine seq_end ?_
                    clear ac158 hf172 ac159 wd22 hf173 hI32 hw12 hz12 hta12 htb12 ac160 hf174 ac161 hf175 ac162 hf176 ac163 hf177 ac164 hf178 wd23 hI33 hI34 ac165 hf179 ac166 hf180 ac167 hf181
                    refine block_normal ?_
                    refine then_normal ?_
                    exact ⟨(r.leave, m12, k12, m12', k12', (SS ++ Sq12), r.f, r.leaveC, r.ok, false, 0), (hf182.cons 0 rfl (hf182.cons 1 rfl (hf182.cons 2 rfl (hf182.cons 7 rfl (hf182.cons 8 rfl (hf182.cons 9 rfl (hf182.cons 10 rfl (hf182.cons 12 rfl (hf182.cons 32 rfl (hf182.cons 33 rfl (hf182.cons 34 rfl (hf182.cons 35 rfl (hf182.cons 36 rfl (hf182.cons 37 rfl (hf182.cons 38 rfl (hf182.cons 39 rfl (hf182.cons 40 rfl (hf182.cons 41 rfl (hf182.cons 42 rfl (hf182.cons 43 rfl (hf182.cons 44 rfl (hf182.cons 45 rfl (hf182.cons 46 rfl (hf182.cons 47 rfl (hf182.cons 48 rfl (hf182.cons 49 rfl (hf182.cons 50 rfl (hf182.cons 51 rfl (hf182.cons 58 rfl (hf182.cons 59 rfl (hf182.cons 60 rfl (hf182.cons 61 rfl (hf182.cons 62 rfl (hf182.cons 63 rfl (hf182.cons 64 rfl (hf182.cons 65 rfl (hf182.cons 66 rfl (hf182.cons 67 rfl (hf182.cons 68 rfl (hf182.cons 69 rfl (hf182.cons 70 rfl (hf182.cons 72 rfl (hf182.cons 73 rfl (hf182.cons 74 rfl (hf182.cons 75 rfl (hf182.cons 76 rfl (hf182.cons 77 rfl (hf182.cons 78 rfl (hf182.cons 79 rfl (hf182.cons 13 rfl (hf182.cons 14 rfl (hf182.cons 15 rfl (hf182.cons 16 rfl (hf182.cons 17 rfl (hf182.cons 18 rfl (hf182.cons 19 rfl (hf182.cons 20 rfl (hf182.cons 21 rfl (hf182.cons 22 rfl hf182.nil))))))))))))))))))))))))))))))))))))))))))))))))))))))))))), ⟨hI35, ⟨((Ro.q_leave _).trans hx1.2.1), hva12, hvb12, (fk_app hx1.2.2.2.2 hy12)⟩⟩⟩
                  · have hf183 := hf162.know 142 (u := .bool false) rfl (congrArg Value.bool c142_8)
                    refine code_seq ?_
                    refine seq_start (l := [0, 1]) rfl ?_
                    refine seq_one (op_val (v := .bool (kd9 == 6)) hf183 rfl rfl rfl rfl rfl rfl (r_eql rfl rfl) fun ac169 hf184 => ?_)
                    refine seq_one (op_val (v := .bool (kd9 == 6)) hf184 rfl rfl rfl rfl rfl rfl (r_assign rfl) fun ac170 hf185 => ?_)
                    refine seq_end ?_
                    clear hf162 ac149 hf183 ac169 hf184
                    refine then_normal ?_
                    refine code_if hf185 rfl (fun c157_9 => ?_) (fun c157_9 => ?_)
                    · have hf186 := hf185.know 157 (u := .bool true) rfl (congrArg Value.bool c157_9)
                      refine code_seq ?_
                      refine seq_start (l := [0, 1, 2, 3, 4, 5, 6, 7, 8]) rfl ?_
                      refine seq_one (op_val (v := .pointer (some ⟨b6, 0, none⟩)) hf186 rfl rfl rfl rfl rfl rfl (r_move rfl) fun ac171 hf187 => ?_)
                      refine seq_one (op_call (R := fun v w' => v = .tuple #[.int .i64 r.f, .bool r.idleL, .bool r.ok] ∧ Inv _ [(b1, arr .i64 r.idle.c.lk, 103), (b2, arr .i64 r.idle.c.of, 3), (b3, arr .i64 r.idle.c.mn, 3), (b4, #[.slice (some ⟨b1, 0, none⟩) (N + 2) (N + 2), .slice (some ⟨b2, 0, none⟩) N N, .slice (some ⟨b3, 0, none⟩) 2 2], 79), (b5, arr .i64 r.idle.cr, 3), (b6, #[.pointer (some ⟨b4, 0, none⟩), .slice (some ⟨b5, 0, none⟩) N N, .int .i64 r.idle.q], 45)] w') hf187 rfl rfl rfl rfl ca_21 ((idle_any (hI15.nd6 0 rfl rfl rfl rfl rfl rfl) r (Has.cons (hI15.at 0 rfl) (Has.cons (hI15.at 1 rfl) (Has.cons (hI15.at 2 rfl) (Has.cons (hI15.at 3 rfl) (Has.cons (hI15.at 4 rfl) (Has.cons (hI15.at 5 rfl) Has.nil)))))) ).mono fun _ _ h => ⟨_, h.1, rfl, h.2⟩) fun ac172 v wd25 hR11 hf188 => ?_)
                      obtain ⟨rfl, hR11⟩ := hR11
                      have hI36 : Inv w ([(b1, arr .i64 r.idle.c.lk, 103), (b2, arr .i64 r.idle.c.of, 3), (b3, arr .i64 r.idle.c.mn, 3), (b4, #[.slice (some ⟨b1, 0, none⟩) (N + 2) (N + 2), .slice (some ⟨b2, 0, none⟩) N N, .slice (some ⟨b3, 0, none⟩) 2 2], 79), (b5, arr .i64 r.idle.cr, 3), (b6, #[.pointer (some ⟨b4, 0, none⟩), .slice (some ⟨b5, 0, none⟩) N N, .int .i64 r.idle.q], 45), (b8, #[.int .i64 (N : Int), .int .i64 q, .slice g0 ((r.pl 0).length) gc0, .slice g1 ((r.pl 1).length) gc1], 85), (b10, #[.int .u8 kd9, .int .i64 ii9, .int .i64 nn9], 89)] ++ SS) _ := Inv.callST (A := []) (S := [(b1, arr .i64 r.c.lk, 103), (b2, arr .i64 r.c.of, 3), (b3, arr .i64 r.c.mn, 3), (b4, #[.slice (some ⟨b1, 0, none⟩) (N + 2) (N + 2), .slice (some ⟨b2, 0, none⟩) N N, .slice (some ⟨b3, 0, none⟩) 2 2], 79), (b5, arr .i64 r.cr, 3), (b6, #[.pointer (some ⟨b4, 0, none⟩), .slice (some ⟨b5, 0, none⟩) N N, .int .i64 r.q], 45)]) (S' := [(b1, arr .i64 r.idle.c.lk, 103), (b2, arr .i64 r.idle.c.of, 3), (b3, arr .i64 r.idle.c.mn, 3), (b4, #[.slice (some ⟨b1, 0, none⟩) (N + 2) (N + 2), .slice (some ⟨b2, 0, none⟩) N N, .slice (some ⟨b3, 0, none⟩) 2 2], 79), (b5, arr .i64 r.idle.cr, 3), (b6, #[.pointer (some ⟨b4, 0, none⟩), .slice (some ⟨b5, 0, none⟩) N N, .int .i64 r.idle.q], 45)]) (L := [(b8, #[.int .i64 (N : Int), .int .i64 q, .slice g0 ((r.pl 0).length) gc0, .slice g1 ((r.pl 1).length) gc1], 85), (b10, #[.int .u8 kd9, .int .i64 ii9, .int .i64 nn9], 89)]) (N := []) (T := SS) hI15 hR11 rfl (fun _ h => by cases h)
                      refine seq_one (op_val (v := .tuple #[.int .i64 r.f, .bool r.idleL, .bool r.ok]) hf188 rfl rfl rfl rfl rfl rfl (r_move rfl) fun ac173 hf189 => ?_)
                      refine seq_one (op_val (v := .int .i64 r.f) hf189 rfl rfl rfl rfl rfl rfl (r_extract rfl rfl) fun ac174 hf190 => ?_)
                      refine seq_one (op_val (v := .bool r.idleL) hf190 rfl rfl rfl rfl rfl rfl (r_extract rfl rfl) fun ac175 hf191 => ?_)
                      refine seq_one (op_val (v := .bool r.ok) hf191 rfl rfl rfl rfl rfl rfl (r_extract rfl rfl) fun ac176 hf192 => ?_)
                      refine seq_one (op_val (v := .int .i64 r.f) hf192 rfl rfl rfl rfl rfl rfl (r_assign rfl) fun ac177 hf193 => ?_)
                      refine seq_one (op_val (v := .bool r.idleL) hf193 rfl rfl rfl rfl rfl rfl (r_assign rfl) fun ac178 hf194 => ?_)
                      refine seq_one (op_val (v := .bool r.ok) hf194 rfl rfl rfl rfl rfl rfl (r_assign rfl) fun ac179 hf195 => ?_)
                      refine seq_end ?_
                      clear hf185 ac170 hf186 ac171 wd9 hf187 hI15 hR11 ac172 hf188 ac173 hf189 ac174 hf190 ac175 hf191 ac176 hf192 ac177 hf193 ac178 hf194
                      refine then_normal ?_
                      refine seq_start (l := [0, 1, 2, 3, 4, 5, 6, 7, 8, 9, 10]) rfl ?_
                      refine seq_one (op_val (v := .agg #[.int .i64 (N : Int), .int .i64 q, .slice g0 ((r.pl 0).length) gc0, .slice g1 ((r.pl 1).length) gc1]) hf195 rfl rfl rfl rfl rfl rfl (r_loadW ag_85 sz_85 rfl (hI36.at 6 rfl) rfl) fun ac180 hf196 => ?_)
                      refine seq_one (op_call (R := fun v w' => ∃ S q0 d0 q1 d1, v = .tuple #[.agg #[.int .i64 (N : Int), .int .i64 q, .slice q0 (r.idle.pl 0).length d0, .slice q1 (r.idle.pl 1).length d1], .int .i64 r.f, .bool r.idleL, .bool r.ok] ∧ Inv _ S w' ∧ (∀ x ∈ S, Array.size (World.heap _) ≤ x.1) ∧ Tr (g0, gc0, r.pl 0) (g1, gc1, r.pl 1) S q0 d0 (r.idle.pl 0) ∧ Tr (g0, gc0, r.pl 0) (g1, gc1, r.pl 1) S q1 d1 (r.idle.pl 1)) hf196 rfl rfl rfl rfl ca_48 ((ridle_walk (r := r) hx1.2.1  (hx1.2.2.1).1 (hx1.2.2.2.1).1 (View.rows hx1.2.2.1 hI36 (fk_app (fresh_keys (ks := [b1, b2, b3, b4, b5, b6, b8, b10]) rfl (fk_cons hb1 (fk_cons hb2 (fk_cons hb3 (fk_cons hb4 (fk_cons hb5 (fk_cons hb6 (fk_cons hb8 (fk_cons hb10 fk_nil))))))))) hx1.2.2.2.2) (fun x hx => List.mem_append_right _ hx)) (View.rows hx1.2.2.2.1 hI36 (fk_app (fresh_keys (ks := [b1, b2, b3, b4, b5, b6, b8, b10]) rfl (fk_cons hb1 (fk_cons hb2 (fk_cons hb3 (fk_cons hb4 (fk_cons hb5 (fk_cons hb6 (fk_cons hb8 (fk_cons hb10 fk_nil))))))))) hx1.2.2.2.2) (fun x hx => List.mem_append_right _ hx))).mono fun _ _ ⟨S, q0, d0, q1, d1, he, h1, h2, h3, h4⟩ => ⟨_, he, S, q0, d0, q1, d1, rfl, h1, h2, h3, h4⟩) fun ac181 v wd26 hR hf197 => ?_)
                      obtain ⟨Sq12, m12, k12, m12', k12', rfl, hw12, hz12, hta12, htb12⟩ := hR
                      have hy12 := fk_le hI36.size hz12
                      have hva12 := hta12 w SS hx1.2.2.1 hx1.2.2.2.1
                      have hvb12 := htb12 w SS hx1.2.2.1 hx1.2.2.2.1
                      have hI37 : Inv w ([(b1, arr .i64 r.idle.c.lk, 103), (b2, arr .i64 r.idle.c.of, 3), (b3, arr .i64 r.idle.c.mn, 3), (b4, #[.slice (some ⟨b1, 0, none⟩) (N + 2) (N + 2), .slice (some ⟨b2, 0, none⟩) N N, .slice (some ⟨b3, 0, none⟩) 2 2], 79), (b5, arr .i64 r.idle.cr, 3), (b6, #[.pointer (some ⟨b4, 0, none⟩), .slice (some ⟨b5, 0, none⟩) N N, .int .i64 r.idle.q], 45), (b8, #[.int .i64 (N : Int), .int .i64 q, .slice g0 ((r.pl 0).length) gc0, .slice g1 ((r.pl 1).length) gc1], 85), (b10, #[.int .u8 kd9, .int .i64 ii9, .int .i64 nn9], 89)] ++ (SS ++ Sq12)) _ := hI36.callN hw12 hz12
                      refine seq_one (op_val (v := .tuple #[.agg #[.int .i64 (N : Int), .int .i64 q, .slice m12 ((r.idle.pl 0).length) k12, .slice m12' ((r.idle.pl 1).length) k12'], .int .i64 r.f, .bool r.idleL, .bool r.ok]) hf197 rfl rfl rfl rfl rfl rfl (r_move rfl) fun ac182 hf198 => ?_)
                      refine seq_one (op_val (v := .agg #[.int .i64 (N : Int), .int .i64 q, .slice m12 ((r.idle.pl 0).length) k12, .slice m12' ((r.idle.pl 1).length) k12']) hf198 rfl rfl rfl rfl rfl rfl (r_extract rfl rfl) fun ac183 hf199 => ?_)
                      refine seq_one (op_val (v := .int .i64 r.f) hf199 rfl rfl rfl rfl rfl rfl (r_extract rfl rfl) fun ac184 hf200 => ?_)
                      refine seq_one (op_val (v := .bool r.idleL) hf200 rfl rfl rfl rfl rfl rfl (r_extract rfl rfl) fun ac185 hf201 => ?_)
                      refine seq_one (op_val (v := .bool r.ok) hf201 rfl rfl rfl rfl rfl rfl (r_extract rfl rfl) fun ac186 hf202 => ?_)
                      refine seq_one (op_storeW (cells := #[.int .i64 (N : Int), .int .i64 q, .slice m12 ((r.idle.pl 0).length) k12, .slice m12' ((r.idle.pl 1).length) k12']) 6 hf202 rfl rfl rfl rfl rfl sz_85 rfl rfl hI37 rfl rfl fun wd27 hI38 => ?_)
                      have hI39 : Inv w ([(b1, arr .i64 r.idle.c.lk, 103), (b2, arr .i64 r.idle.c.of, 3), (b3, arr .i64 r.idle.c.mn, 3), (b4, #[.slice (some ⟨b1, 0, none⟩) (N + 2) (N + 2), .slice (some ⟨b2, 0, none⟩) N N, .slice (some ⟨b3, 0, none⟩) 2 2], 79), (b5, arr .i64 r.idle.cr, 3), (b6, #[.pointer (some ⟨b4, 0, none⟩), .slice (some ⟨b5, 0, none⟩) N N, .int .i64 r.idle.q], 45), (b8, #[.int .i64 (N : Int), .int .i64 q, .slice m12 ((r.idle.pl 0).length) k12, .slice m12' ((r.idle.pl 1).length) k12'], 85), (b10, #[.int .u8 kd9, .int .i64 ii9, .int .i64 nn9], 89)] ++ (SS ++ Sq12)) wd27 := hI38
                      refine seq_one (op_val (v := .int .i64 r.f) hf202 rfl rfl rfl rfl rfl rfl (r_assign rfl) fun ac187 hf203 => ?_)
                      refine seq_one (op_val (v := .bool r.idleL) hf203 rfl rfl rfl rfl rfl rfl (r_assign rfl) fun ac188 hf204 => ?_)
                      refine seq_one (op_val (v := .bool r.ok) hf204 rfl rfl rfl rfl rfl rfl (r_assign rfl) fun ac189 hf205 => ?_)
                      refine seq_end ?_
                      clear ac179 hf195 ac180 wd25 hf196 hI36 hw12 hz12 hta12 htb12 ac181 hf197 ac182 hf198 ac183 hf199 ac184 hf200 ac185 hf201 wd26 hI37 hI38 ac186 hf202 ac187 hf203 ac188 hf204
                      refine block_normal ?_
                      refine then_normal ?_
                      exact ⟨(r.idle, m12, k12, m12', k12', (SS ++ Sq12), r.f, 0, r.idleL, r.ok, 0), (hf205.cons 0 rfl (hf205.cons 1 rfl (hf205.cons 2 rfl (hf205.cons 7 rfl (hf205.cons 8 rfl (hf205.cons 9 rfl (hf205.cons 10 rfl (hf205.cons 12 rfl (hf205.cons 32 rfl (hf205.cons 33 rfl (hf205.cons 34 rfl (hf205.cons 35 rfl (hf205.cons 36 rfl (hf205.cons 37 rfl (hf205.cons 38 rfl (hf205.cons 39 rfl (hf205.cons 40 rfl (hf205.cons 41 rfl (hf205.cons 42 rfl (hf205.cons 43 rfl (hf205.cons 44 rfl (hf205.cons 45 rfl (hf205.cons 46 rfl (hf205.cons 47 rfl (hf205.cons 48 rfl (hf205.cons 49 rfl (hf205.cons 50 rfl (hf205.cons 51 rfl (hf205.cons 58 rfl (hf205.cons 59 rfl (hf205.cons 60 rfl (hf205.cons 61 rfl (hf205.cons 62 rfl (hf205.cons 63 rfl (hf205.cons 64 rfl (hf205.cons 65 rfl (hf205.cons 66 rfl (hf205.cons 67 rfl (hf205.cons 68 rfl (hf205.cons 69 rfl (hf205.cons 70 rfl (hf205.cons 72 rfl (hf205.cons 73 rfl (hf205.cons 74 rfl (hf205.cons 75 rfl (hf205.cons 76 rfl (hf205.cons 77 rfl (hf205.cons 78 rfl (hf205.cons 79 rfl (hf205.cons 13 rfl (hf205.cons 14 rfl (hf205.cons 15 rfl (hf205.cons 16 rfl (hf205.cons 17 rfl (hf205.cons 18 rfl (hf205.cons 19 rfl (hf205.cons 20 rfl (hf205.cons 21 rfl (hf205.cons 22 rfl hf205.nil))))))))))))))))))))))))))))))))))))))))))))))))))))))))))), ⟨hI39, ⟨((Ro.q_idle _).trans hx1.2.1), hva12, hvb12, (fk_app hx1.2.2.2.2 hy12)⟩⟩⟩
                    · have hf206 := hf185.know 157 (u := .bool false) rfl (congrArg Value.bool c157_9)
                      refine wp_skip ?_
                      refine block_normal ?_
                      refine then_normal ?_
                      clear hf185
                      exact ⟨(r, g0, gc0, g1, gc1, SS, 0, 0, false, false, 0), (hf206.cons 0 rfl (hf206.cons 1 rfl (hf206.cons 2 rfl (hf206.cons 7 rfl (hf206.cons 8 rfl (hf206.cons 9 rfl (hf206.cons 10 rfl (hf206.cons 12 rfl (hf206.cons 32 rfl (hf206.cons 33 rfl (hf206.cons 34 rfl (hf206.cons 35 rfl (hf206.cons 36 rfl (hf206.cons 37 rfl (hf206.cons 38 rfl (hf206.cons 39 rfl (hf206.cons 40 rfl (hf206.cons 41 rfl (hf206.cons 42 rfl (hf206.cons 43 rfl (hf206.cons 44 rfl (hf206.cons 45 rfl (hf206.cons 46 rfl (hf206.cons 47 rfl (hf206.cons 48 rfl (hf206.cons 49 rfl (hf206.cons 50 rfl (hf206.cons 51 rfl (hf206.cons 58 rfl (hf206.cons 59 rfl (hf206.cons 60 rfl (hf206.cons 61 rfl (hf206.cons 62 rfl (hf206.cons 63 rfl (hf206.cons 64 rfl (hf206.cons 65 rfl (hf206.cons 66 rfl (hf206.cons 67 rfl (hf206.cons 68 rfl (hf206.cons 69 rfl (hf206.cons 70 rfl (hf206.cons 72 rfl (hf206.cons 73 rfl (hf206.cons 74 rfl (hf206.cons 75 rfl (hf206.cons 76 rfl (hf206.cons 77 rfl (hf206.cons 78 rfl (hf206.cons 79 rfl (hf206.cons 13 rfl (hf206.cons 14 rfl (hf206.cons 15 rfl (hf206.cons 16 rfl (hf206.cons 17 rfl (hf206.cons 18 rfl (hf206.cons 19 rfl (hf206.cons 20 rfl (hf206.cons 21 rfl (hf206.cons 22 rfl hf206.nil))))))))))))))))))))))))))))))))))))))))))))))))))))))))))), ⟨hI15, ⟨hx1.2.1, hx1.2.2.1, hx1.2.2.2.1, hx1.2.2.2.2⟩⟩⟩
        ·
          intro ⟨d, u0, uc0, u1, uc1, SU, A, B, G, H, X⟩ ac190 wd28 hf207 ⟨hI40, hj40⟩
          clear ac73 wd9 hf78 hI15
          refine then_normal ?_
          refine code_seq ?_
          refine seq_start (l := [0, 1, 2, 3, 4, 5, 6]) rfl ?_
          refine seq_one (op_val (v := .pointer (some ⟨b6, 0, none⟩)) hf207 rfl rfl rfl rfl rfl rfl (r_move rfl) fun ac191 hf208 => ?_)
          refine seq_one (op_call (R := fun v w' => ∃ S p cap T q caq, v = .tuple #[.slice p (d.c.lst 0).length cap, .slice q (d.c.lst 1).length caq] ∧ Sl 3 .i64 S p cap (d.c.lst 0) ∧ Sl 3 .i64 T q caq (d.c.lst 1) ∧ Inv _ (S ++ T) w' ∧ (∀ x ∈ S, Array.size (World.heap _) ≤ x.1) ∧ ∀ x ∈ T, Array.size (World.heap _) ≤ x.1) hf208 rfl rfl rfl rfl ca_16 ((lists_any (hI40.nd6 0 rfl rfl rfl rfl rfl rfl) d (Has.cons (hI40.at 0 rfl) (Has.cons (hI40.at 1 rfl) (Has.cons (hI40.at 2 rfl) (Has.cons (hI40.at 3 rfl) (Has.cons (hI40.at 4 rfl) (Has.cons (hI40.at 5 rfl) Has.nil))))))).mono fun _ _ ⟨S, p, cap, T, q, caq, he, h1, h2, h3, h4, h5⟩ => ⟨_, he, S, p, cap, T, q, caq, rfl, h1, h2, h3, h4, h5⟩) fun ac192 v wd29 hR hf209 => ?_)
          obtain ⟨Sq11, q11, capq11, Sq12, q12, capq12, rfl, hsq11, hsq12, hwq11, hzq11, hzq12⟩ := hR
          have hyq11 := fk_le hI40.size hzq11
          have hyq12 := fk_le hI40.size hzq12
          have hI41 := hI40.callN2 hwq11 hzq11 hzq12
          have hI42 : Inv w ([(b1, arr .i64 d.c.lk, 103), (b2, arr .i64 d.c.of, 3), (b3, arr .i64 d.c.mn, 3), (b4, #[.slice (some ⟨b1, 0, none⟩) (N + 2) (N + 2), .slice (some ⟨b2, 0, none⟩) N N, .slice (some ⟨b3, 0, none⟩) 2 2], 79), (b5, arr .i64 d.cr, 3), (b6, #[.pointer (some ⟨b4, 0, none⟩), .slice (some ⟨b5, 0, none⟩) N N, .int .i64 d.q], 45), (b8, #[.int .i64 (N : Int), .int .i64 q, .slice u0 ((d.pl 0).length) uc0, .slice u1 ((d.pl 1).length) uc1], 85), (b10, #[.int .u8 kd9, .int .i64 ii9, .int .i64 nn9], 89)] ++ ((SU ++ Sq11) ++ Sq12)) _ := hI41
          refine seq_one (op_val (v := .tuple #[.slice q11 ((d.c.lst 0).length) capq11, .slice q12 ((d.c.lst 1).length) capq12]) hf209 rfl rfl rfl rfl rfl rfl (r_move rfl) fun ac193 hf210 => ?_)
          refine seq_one (op_val (v := .slice q11 ((d.c.lst 0).length) capq11) hf210 rfl rfl rfl rfl rfl rfl (r_extract rfl rfl) fun ac194 hf211 => ?_)
          refine seq_one (op_val (v := .slice q12 ((d.c.lst 1).length) capq12) hf211 rfl rfl rfl rfl rfl rfl (r_extract rfl rfl) fun ac195 hf212 => ?_)
          refine seq_one (op_val (v := .slice q11 ((d.c.lst 0).length) capq11) hf212 rfl rfl rfl rfl rfl rfl (r_assign rfl) fun ac196 hf213 => ?_)
          refine seq_one (op_val (v := .slice q12 ((d.c.lst 1).length) capq12) hf213 rfl rfl rfl rfl rfl rfl (r_assign rfl) fun ac197 hf214 => ?_)
          refine seq_end ?_
          clear ac190 hf207 ac191 wd28 hf208 hI40 hI41 hwq11 hzq11 hzq12 ac192 hf209 ac193 hf210 ac194 hf211 ac195 hf212 ac196 hf213
          refine then_normal ?_
          refine code_seq ?_
          refine code_seq ?_
          refine seq_start (l := [0, 1, 2, 3, 4, 5, 6, 7, 8, 9, 10, 11, 12, 13, 14, 15, 16, 17, 18, 19, 20, 21, 22, 23, 24, 25, 26, 27, 28, 29, 30, 31, 32, 33, 34, 35, 36, 37, 38]) rfl ?_
          refine seq_one (op_val (v := .int .i64 A) hf214 rfl rfl rfl rfl rfl rfl (r_move rfl) fun ac198 hf215 => ?_)
          refine seq_one (op_val (v := .int .i64 A) hf215 rfl rfl rfl rfl rfl rfl (r_move rfl) fun ac199 hf216 => ?_)
          refine seq_one (op_val (v := .bool (A != A)) hf216 rfl rfl rfl rfl rfl rfl (r_neq rfl rfl) fun ac200 hf217 => ?_)
          refine seq_one (op_val (v := .bool (A != A)) hf217 rfl rfl rfl rfl rfl rfl (r_move rfl) fun ac201 hf218 => ?_)
          have hf219 := hf218.know 180 (u := .bool false) rfl (congrArg Value.bool (bne_self_eq_false _))
          refine seq_one (op_val (v := .int .i64 B) hf219 rfl rfl rfl rfl rfl rfl (r_move rfl) fun ac202 hf220 => ?_)
          refine seq_one (op_val (v := .int .i64 B) hf220 rfl rfl rfl rfl rfl rfl (r_move rfl) fun ac203 hf221 => ?_)
          refine seq_one (op_val (v := .bool (B != B)) hf221 rfl rfl rfl rfl rfl rfl (r_neq rfl rfl) fun ac204 hf222 => ?_)
          refine seq_one (op_val (v := .bool (B != B)) hf222 rfl rfl rfl rfl rfl rfl (r_pickF rfl rfl) fun ac205 hf223 => ?_)
          refine seq_one (op_val (v := .bool (B != B)) hf223 rfl rfl rfl rfl rfl rfl (r_move rfl) fun ac206 hf224 => ?_)
          have hf225 := hf224.know 185 (u := .bool false) rfl (congrArg Value.bool (bne_self_eq_false _))
          refine seq_one (op_val (v := .bool G) hf225 rfl rfl rfl rfl rfl rfl (r_move rfl) fun ac207 hf226 => ?_)
          refine seq_one (op_val (v := .bool G) hf226 rfl rfl rfl rfl rfl rfl (r_move rfl) fun ac208 hf227 => ?_)
          refine seq_one (op_val (v := .bool (G != G)) hf227 rfl rfl rfl rfl rfl rfl (r_neB ub_4 rfl rfl) fun ac209 hf228 => ?_)
          refine seq_one (op_val (v := .bool (G != G)) hf228 rfl rfl rfl rfl rfl rfl (r_pickF rfl rfl) fun ac210 hf229 => ?_)
          refine seq_one (op_val (v := .bool (G != G)) hf229 rfl rfl rfl rfl rfl rfl (r_move rfl) fun ac211 hf230 => ?_)
          have hf231 := hf230.know 190 (u := .bool false) rfl (congrArg Value.bool (bne_self_eq_false _))
          refine seq_one (op_val (v := .bool H) hf231 rfl rfl rfl rfl rfl rfl (r_move rfl) fun ac212 hf232 => ?_)
          refine seq_one (op_val (v := .bool H) hf232 rfl rfl rfl rfl rfl rfl (r_move rfl) fun ac213 hf233 => ?_)
          refine seq_one (op_val (v := .bool (H != H)) hf233 rfl rfl rfl rfl rfl rfl (r_neB ub_4 rfl rfl) fun ac214 hf234 => ?_)
          refine seq_one (op_val (v := .bool (H != H)) hf234 rfl rfl rfl rfl rfl rfl (r_pickF rfl rfl) fun ac215 hf235 => ?_)
          refine seq_one (op_val (v := .bool (H != H)) hf235 rfl rfl rfl rfl rfl rfl (r_move rfl) fun ac216 hf236 => ?_)
          have hf237 := hf236.know 195 (u := .bool false) rfl (congrArg Value.bool (bne_self_eq_false _))
          refine seq_one (op_val (v := .int .i64 X) hf237 rfl rfl rfl rfl rfl rfl (r_move rfl) fun ac217 hf238 => ?_)
          refine seq_one (op_val (v := .int .i64 X) hf238 rfl rfl rfl rfl rfl rfl (r_move rfl) fun ac218 hf239 => ?_)
          refine seq_one (op_val (v := .bool (X != X)) hf239 rfl rfl rfl rfl rfl rfl (r_neq rfl rfl) fun ac219 hf240 => ?_)
          refine seq_one (op_val (v := .bool (X != X)) hf240 rfl rfl rfl rfl rfl rfl (r_pickF rfl rfl) fun ac220 hf241 => ?_)
          refine seq_one (op_val (v := .bool (X != X)) hf241 rfl rfl rfl rfl rfl rfl (r_move rfl) fun ac221 hf242 => ?_)
          have hf243 := hf242.know 200 (u := .bool false) rfl (congrArg Value.bool (bne_self_eq_false _))
          refine seq_one (op_val (v := .slice q11 ((d.c.lst 0).length) capq11) hf243 rfl rfl rfl rfl rfl rfl (r_move rfl) fun ac222 hf244 => ?_)
          refine seq_one (op_val (v := .pointer (some ⟨b8, 2, none⟩)) hf244 rfl rfl rfl rfl rfl rfl (r_fieldAddr fi_85_2 rfl rfl) fun ac223 hf245 => ?_)
          refine seq_one (op_val (v := .slice u0 ((d.pl 0).length) uc0) hf245 rfl rfl rfl rfl rfl rfl (r_load ag_83 rfl (hI42.at 6 rfl) rfl) fun ac224 hf246 => ?_)
          refine seq_one (op_call (R := fun v w' => ∃ S p cap, v = .slice p ((d.pl 0).map Prod.fst).length cap ∧ Sl 3 .i64 S p cap ((d.pl 0).map Prod.fst) ∧ Inv _ S w' ∧ ∀ x ∈ S, Array.size (World.heap _) ≤ x.1) hf246 rfl rfl rfl rfl ca_49 ((flows_walk (F := (d.pl 0)) (hj40.2.1).1 (Ro.pl_le d 0) (View.rows hj40.2.1 hI42 (fk_app (fresh_keys (ks := [b1, b2, b3, b4, b5, b6, b8, b10]) rfl (fk_cons hb1 (fk_cons hb2 (fk_cons hb3 (fk_cons hb4 (fk_cons hb5 (fk_cons hb6 (fk_cons hb8 (fk_cons hb10 fk_nil))))))))) (fk_app (fk_app hj40.2.2.2 hyq11) hyq12)) (fun x hx => List.mem_append_right _ (List.mem_append_left _ (List.mem_append_left _ hx))))).mono fun _ _ ⟨S, p, cap, he, h1, h3, h4⟩ => ⟨_, he, S, p, cap, rfl, h1, h3, h4⟩) fun ac225 v wd30 hR hf247 => ?_)
          obtain ⟨Sq13, q13, capq13, rfl, hsq13, hwq13, hzq13⟩ := hR
          have hyq13 := fk_le hI42.size hzq13
          have hI43 : Inv w ([(b1, arr .i64 d.c.lk, 103), (b2, arr .i64 d.c.of, 3), (b3, arr .i64 d.c.mn, 3), (b4, #[.slice (some ⟨b1, 0, none⟩) (N + 2) (N + 2), .slice (some ⟨b2, 0, none⟩) N N, .slice (some ⟨b3, 0, none⟩) 2 2], 79), (b5, arr .i64 d.cr, 3), (b6, #[.pointer (some ⟨b4, 0, none⟩), .slice (some ⟨b5, 0, none⟩) N N, .int .i64 d.q], 45), (b8, #[.int .i64 (N : Int), .int .i64 q, .slice u0 ((d.pl 0).length) uc0, .slice u1 ((d.pl 1).length) uc1], 85), (b10, #[.int .u8 kd9, .int .i64 ii9, .int .i64 nn9], 89)] ++ (((SU ++ Sq11) ++ Sq12) ++ Sq13)) _ := hI42.callN hwq13 hzq13
          refine seq_one (op_pureW hf247 rfl rfl rfl rfl ca_19 (ints_walk (xs := (d.c.lst 0)) (ys := ((d.pl 0).map Prod.fst)) rfl rfl (Nat.le_trans (Ch.lst_le _ _) (by omega)) (hsq11.rd hI43 (fun x hx => List.mem_append_right _ (List.mem_append_left _ (List.mem_append_left _ (List.mem_append_right _ hx))))) (hsq13.rd hI43 (fun x hx => List.mem_append_right _ (List.mem_append_right _ hx)))) hI43 fun ac226 wd31 hI44 hf248 => ?_)
          refine seq_one (op_val (v := .bool (!((d.c.lst 0) == ((d.pl 0).map Prod.fst)))) hf248 rfl rfl rfl rfl rfl rfl (r_not rfl) fun ac227 hf249 => ?_)
          refine seq_one (op_val (v := .bool (!((d.c.lst 0) == ((d.pl 0).map Prod.fst)))) hf249 rfl rfl rfl rfl rfl rfl (r_pickF rfl rfl) fun ac228 hf250 => ?_)
          refine seq_one (op_val (v := .bool (!((d.c.lst 0) == ((d.pl 0).map Prod.fst)))) hf250 rfl rfl rfl rfl rfl rfl (r_move rfl) fun ac229 hf251 => ?_)
          have hf252 := hf251.know 208 (u := .bool false) rfl (congrArg Value.bool (by rw [Ro.pl_fst, beq_self_eq_true]; rfl))
          refine seq_one (op_val (v := .slice q12 ((d.c.lst 1).length) capq12) hf252 rfl rfl rfl rfl rfl rfl (r_move rfl) fun ac230 hf253 => ?_)
          refine seq_one (op_val (v := .pointer (some ⟨b8, 3, none⟩)) hf253 rfl rfl rfl rfl rfl rfl (r_fieldAddr fi_85_3 rfl rfl) fun ac231 hf254 => ?_)
          refine seq_one (op_val (v := .slice u1 ((d.pl 1).length) uc1) hf254 rfl rfl rfl rfl rfl rfl (r_load ag_83 rfl (hI44.at 6 rfl) rfl) fun ac232 hf255 => ?_)
          refine seq_one (op_call (R := fun v w' => ∃ S p cap, v = .slice p ((d.pl 1).map Prod.fst).length cap ∧ Sl 3 .i64 S p cap ((d.pl 1).map Prod.fst) ∧ Inv _ S w' ∧ ∀ x ∈ S, Array.size (World.heap _) ≤ x.1) hf255 rfl rfl rfl rfl ca_49 ((flows_walk (F := (d.pl 1)) (hj40.2.2.1).1 (Ro.pl_le d 1) (View.rows hj40.2.2.1 hI44 (fk_app (fresh_keys (ks := [b1, b2, b3, b4, b5, b6, b8, b10]) rfl (fk_cons hb1 (fk_cons hb2 (fk_cons hb3 (fk_cons hb4 (fk_cons hb5 (fk_cons hb6 (fk_cons hb8 (fk_cons hb10 fk_nil))))))))) (fk_app (fk_app (fk_app hj40.2.2.2 hyq11) hyq12) hyq13)) (fun x hx => List.mem_append_right _ (List.mem_append_left _ (List.mem_append_left _ (List.mem_append_left _ hx)))))).mono fun _ _ ⟨S, p, cap, he, h1, h3, h4⟩ => ⟨_, he, S, p, cap, rfl, h1, h3, h4⟩) fun ac233 v wd32 hR hf256 => ?_)
          obtain ⟨Sq14, q14, capq14, rfl, hsq14, hwq14, hzq14⟩ := hR
          have hyq14 := fk_le hI44.size hzq14
          have hI45 : Inv w ([(b1, arr .i64 d.c.lk, 103), (b2, arr .i64 d.c.of, 3), (b3, arr .i64 d.c.mn, 3), (b4, #[.slice (some ⟨b1, 0, none⟩) (N + 2) (N + 2), .slice (some ⟨b2, 0, none⟩) N N, .slice (some ⟨b3, 0, none⟩) 2 2], 79), (b5, arr .i64 d.cr, 3), (b6, #[.pointer (some ⟨b4, 0, none⟩), .slice (some ⟨b5, 0, none⟩) N N, .int .i64 d.q], 45), (b8, #[.int .i64 (N : Int), .int .i64 q, .slice u0 ((d.pl 0).length) uc0, .slice u1 ((d.pl 1).length) uc1], 85), (b10, #[.int .u8 kd9, .int .i64 ii9, .int .i64 nn9], 89)] ++ ((((SU ++ Sq11) ++ Sq12) ++ Sq13) ++ Sq14)) _ := hI44.callN hwq14 hzq14
          refine seq_one (op_pureW hf256 rfl rfl rfl rfl ca_19 (ints_walk (xs := (d.c.lst 1)) (ys := ((d.pl 1).map Prod.fst)) rfl rfl (Nat.le_trans (Ch.lst_le _ _) (by omega)) (hsq12.rd hI45 (fun x hx => List.mem_append_right _ (List.mem_append_left _ (List.mem_append_left _ (List.mem_append_right _ hx))))) (hsq14.rd hI45 (fun x hx => List.mem_append_right _ (List.mem_append_right _ hx)))) hI45 fun ac234 wd33 hI46 hf257 => ?_)
          refine seq_one (op_val (v := .bool (!((d.c.lst 1) == ((d.pl 1).map Prod.fst)))) hf257 rfl rfl rfl rfl rfl rfl (r_not rfl) fun ac235 hf258 => ?_)
          refine seq_one (op_val (v := .bool (!((d.c.lst 1) == ((d.pl 1).map Prod.fst)))) hf258 rfl rfl rfl rfl rfl rfl (r_pickF rfl rfl) fun ac236 hf259 => ?_)
          refine seq_end ?_
          clear ac197 hf214 ac198 hf215 ac199 hf216 ac200 hf217 hf218 ac201 hf219 ac202 hf220 ac203 hf221 ac204 hf222 ac205 hf223 hf224 ac206 hf225 ac207 hf226 ac208 hf227 ac209 hf228 ac210 hf229 hf230 ac211 hf231 ac212 hf232 ac213 hf233 ac214 hf234 ac215 hf235 hf236 ac216 hf237 ac217 hf238 ac218 hf239 ac219 hf240 ac220 hf241 hf242 ac221 hf243 ac222 hf244 ac223 hf245 ac224 wd29 hf246 hI42 hwq13 hzq13 ac225 wd30 hI43 hf247 ac226 hf248 ac227 hf249 ac228 hf250 hf251 ac229 hf252 ac230 hf253 ac231 hf254 ac232 wd31 hf255 hI44 hwq14 hzq14 ac233 wd32 hI45 hf256 ac234 hf257 ac235 hf258
          refine then_normal ?_
          have hf260 := hf259.know 215 (u := .bool false) rfl (congrArg Value.bool (by rw [Ro.pl_fst, beq_self_eq_true]; rfl))
          refine code_if_false hf260 rfl ?_
          refine wp_skip ?_
          refine then_normal ?_
          refine code_seq ?_
          refine code_seq ?_
          refine seq_start (l := [0]) rfl ?_
          refine seq_one (op_val (v := .int .i64 (-1)) hf260 rfl rfl rfl rfl rfl rfl (r_assign rfl) fun ac237 hf261 => ?_)
          refine seq_end ?_
          clear hf259 ac236 hf260
          refine then_normal ?_
          refine wp_block ?_
          refine code_loop (α := Nat) (fun (k : Nat) => [(0, .int .i64 (N : Int)), (1, .int .i64 q), (2, .slice p L cap), (7, .pointer (some ⟨b6, 0, none⟩)), (8, .int .i64 0), (9, .pointer (some ⟨b8, 0, none⟩)), (10, .bool true), (12, .pointer (some ⟨b10, 0, none⟩)), (13, .int .i64 A), (14, .int .i64 B), (15, .int .i64 A), (16, .int .i64 B), (17, .bool G), (18, .bool G), (19, .bool H), (20, .bool H), (21, .int .i64 X), (22, .int .i64 X), (23, .slice q11 ((d.c.lst 0).length) capq11), (24, .slice q12 ((d.c.lst 1).length) capq12), (32, .tuple #[.pointer (some ⟨b6, 0, none⟩), .int .i64 0]), (33, .int .i64 (N : Int)), (34, .int .i64 q), (35, .tuple #[.pointer (some ⟨b6, 0, none⟩), .int .i64 0]), (36, .pointer (some ⟨b6, 0, none⟩)), (37, .int .i64 0), (38, .tuple #[.agg #[.int .i64 (N : Int), .int .i64 q, .slice none 0 0, .slice none 0 0], .bool true]), (39, .int .i64 (N : Int)), (40, .int .i64 q), (41, .tuple #[.agg #[.int .i64 (N : Int), .int .i64 q, .slice none 0 0, .slice none 0 0], .bool true]), (42, .agg #[.int .i64 (N : Int), .int .i64 q, .slice none 0 0, .slice none 0 0]), (43, .bool true), (44, .int .i64 0), (45, .bool true), (46, .bool true), (47, .bool false), (48, .bool false), (49, .bool true), (50, .bool false), (51, .bool false), (58, .bool false), (59, .bool false), (60, .bool true), (61, .bool false), (62, .bool false), (63, .int .i64 (N : Int)), (64, .bool (decide ((N : Int) > 30))), (65, .bool (decide ((N : Int) > 30))), (66, .bool false), (67, .slice p L cap), (68, .int .i64 (L : Int)), (69, .bool (decide ((L : Int) > 60))), (70, .bool false), (72, .slice p L cap), (73, .int .i64 (L : Int)), (74, .int .i64 (i : Int)), (75, .bool true), (76, .pointer (slAt p (i * 3))), (77, .agg #[.int .u8 kd9, .int .i64 ii9, .int .i64 nn9]), (78, .pointer (some ⟨b10, 0, none⟩)), (79, .int .u8 kd9), (172, .tuple #[.slice q11 ((d.c.lst 0).length) capq11, .slice q12 ((d.c.lst 1).length) capq12]), (173, .pointer (some ⟨b6, 0, none⟩)), (174, .tuple #[.slice q11 ((d.c.lst 0).length) capq11, .slice q12 ((d.c.lst 1).length) capq12]), (175, .slice q11 ((d.c.lst 0).length) capq11), (176, .slice q12 ((d.c.lst 1).length) capq12), (177, .int .i64 A), (178, .int .i64 A), (179, .bool (A != A)), (180, .bool false), (181, .int .i64 B), (182, .int .i64 B), (183, .bool (B != B)), (184, .bool (B != B)), (185, .bool false), (186, .bool G), (187, .bool G), (188, .bool (G != G)), (189, .bool (G != G)), (190, .bool false), (191, .bool H), (192, .bool H), (193, .bool (H != H)), (194, .bool (H != H)), (195, .bool false), (196, .int .i64 X), (197, .int .i64 X), (198, .bool (X != X)), (199, .bool (X != X)), (200, .bool false), (201, .slice q11 ((d.c.lst 0).length) capq11), (202, .pointer (some ⟨b8, 2, none⟩)), (203, .slice u0 ((d.pl 0).length) uc0), (204, .slice q13 (((d.pl 0).map Prod.fst).length) capq13), (205, .bool ((d.c.lst 0) == ((d.pl 0).map Prod.fst))), (206, .bool (!((d.c.lst 0) == ((d.pl 0).map Prod.fst)))), (207, .bool (!((d.c.lst 0) == ((d.pl 0).map Prod.fst)))), (208, .bool false), (209, .slice q12 ((d.c.lst 1).length) capq12), (210, .pointer (some ⟨b8, 3, none⟩)), (211, .slice u1 ((d.pl 1).length) uc1), (212, .slice q14 (((d.pl 1).map Prod.fst).length) capq14), (213, .bool ((d.c.lst 1) == ((d.pl 1).map Prod.fst))), (214, .bool (!((d.c.lst 1) == ((d.pl 1).map Prod.fst)))), (215, .bool false), (25, .int .i64 ((k : Int) - 1))]) (fun (k : Nat) => fun wL => Inv w ([(b1, arr .i64 d.c.lk, 103), (b2, arr .i64 d.c.of, 3), (b3, arr .i64 d.c.mn, 3), (b4, #[.slice (some ⟨b1, 0, none⟩) (N + 2) (N + 2), .slice (some ⟨b2, 0, none⟩) N N, .slice (some ⟨b3, 0, none⟩) 2 2], 79), (b5, arr .i64 d.cr, 3), (b6, #[.pointer (some ⟨b4, 0, none⟩), .slice (some ⟨b5, 0, none⟩) N N, .int .i64 d.q], 45), (b8, #[.int .i64 (N : Int), .int .i64 q, .slice u0 ((d.pl 0).length) uc0, .slice u1 ((d.pl 1).length) uc1], 85), (b10, #[.int .u8 kd9, .int .i64 ii9, .int .i64 nn9], 89)] ++ ((((SU ++ Sq11) ++ Sq12) ++ Sq13) ++ Sq14)) wL ∧ (k ≤ N + 2)) (fun (k : Nat) => N + 2 - k) 0 (hf261.cons 0 rfl (hf261.cons 1 rfl (hf261.cons 2 rfl (hf261.cons 7 rfl (hf261.cons 8 rfl (hf261.cons 9 rfl (hf261.cons 10 rfl (hf261.cons 12 rfl (hf261.cons 13 rfl (hf261.cons 14 rfl (hf261.cons 15 rfl (hf261.cons 16 rfl (hf261.cons 17 rfl (hf261.cons 18 rfl (hf261.cons 19 rfl (hf261.cons 20 rfl (hf261.cons 21 rfl (hf261.cons 22 rfl (hf261.cons 23 rfl (hf261.cons 24 rfl (hf261.cons 32 rfl (hf261.cons 33 rfl (hf261.cons 34 rfl (hf261.cons 35 rfl (hf261.cons 36 rfl (hf261.cons 37 rfl (hf261.cons 38 rfl (hf261.cons 39 rfl (hf261.cons 40 rfl (hf261.cons 41 rfl (hf261.cons 42 rfl (hf261.cons 43 rfl (hf261.cons 44 rfl (hf261.cons 45 rfl (hf261.cons 46 rfl (hf261.cons 47 rfl (hf261.cons 48 rfl (hf261.cons 49 rfl (hf261.cons 50 rfl (hf261.cons 51 rfl (hf261.cons 58 rfl (hf261.cons 59 rfl (hf261.cons 60 rfl (hf261.cons 61 rfl (hf261.cons 62 rfl (hf261.cons 63 rfl (hf261.cons 64 rfl (hf261.cons 65 rfl (hf261.cons 66 rfl (hf261.cons 67 rfl (hf261.cons 68 rfl (hf261.cons 69 rfl (hf261.cons 70 rfl (hf261.cons 72 rfl (hf261.cons 73 rfl (hf261.cons 74 rfl (hf261.cons 75 rfl (hf261.cons 76 rfl (hf261.cons 77 rfl (hf261.cons 78 rfl (hf261.cons 79 rfl (hf261.cons 172 rfl (hf261.cons 173 rfl (hf261.cons 174 rfl (hf261.cons 175 rfl (hf261.cons 176 rfl (hf261.cons 177 rfl (hf261.cons 178 rfl (hf261.cons 179 rfl (hf261.cons 180 rfl (hf261.cons 181 rfl (hf261.cons 182 rfl (hf261.cons 183 rfl (hf261.cons 184 rfl (hf261.cons 185 rfl (hf261.cons 186 rfl (hf261.cons 187 rfl (hf261.cons 188 rfl (hf261.cons 189 rfl (hf261.cons 190 rfl (hf261.cons 191 rfl (hf261.cons 192 rfl (hf261.cons 193 rfl (hf261.cons 194 rfl (hf261.cons 195 rfl (hf261.cons 196 rfl (hf261.cons 197 rfl (hf261.cons 198 rfl (hf261.cons 199 rfl (hf261.cons 200 rfl (hf261.cons 201 rfl (hf261.cons 202 rfl (hf261.cons 203 rfl (hf261.cons 204 rfl (hf261.cons 205 rfl (hf261.cons 206 rfl (hf261.cons 207 rfl (hf261.cons 208 rfl (hf261.cons 209 rfl (hf261.cons 210 rfl (hf261.cons 211 rfl (hf261.cons 212 rfl (hf261.cons 213 rfl (hf261.cons 214 rfl (hf261.cons 215 rfl (hf261.cons 25 rfl hf261.nil)))))))))))))))))))))))))))))))))))))))))))))))))))))))))))))))))))))))))))))))))))))))))))))))))))))))))) ⟨hI46, Nat.zero_le _⟩ ?_
          intro k ac238 wd34 hf262 hL2
          obtain ⟨hI47, hx2⟩ := hL2
          clear ac237 wd33 hf261 hI46
          refine code_seq ?_
          refine code_seq ?_
          refine seq_start (l := [0, 1, 2]) rfl ?_
          refine seq_one (op_val (v := .int .i64 ((k : Int) - 1)) hf262 rfl rfl rfl rfl rfl rfl (r_move rfl) fun ac239 hf263 => ?_)
          refine seq_one (op_val (v := .int .i64 (N : Int)) hf263 rfl rfl rfl rfl rfl rfl (r_move rfl) fun ac240 hf264 => ?_)
          refine seq_one (op_val (v := .bool (decide (((k : Int) - 1) ≤ (N : Int)))) hf264 rfl rfl rfl rfl rfl rfl (r_leq rfl rfl) fun ac241 hf265 => ?_)
          refine seq_end ?_
          clear ac238 hf262 ac239 hf263 ac240 hf264
          refine then_normal ?_
          refine code_if hf265 rfl (fun c218_10 => ?_) (fun c218_10 => ?_)
          · have hf266 := hf265.know 218 (u := .bool true) rfl (congrArg Value.bool c218_10)
            refine wp_skip ?_
            refine then_normal ?_
            refine code_seq ?_
            refine wp_block ?_
            refine code_seq ?_
            refine seq_start (l := [0, 1, 2, 3, 4, 5, 6, 7]) rfl ?_
            refine seq_one (op_val (v := .pointer (some ⟨b6, 0, none⟩)) hf266 rfl rfl rfl rfl rfl rfl (r_move rfl) fun ac242 hf267 => ?_)
            refine seq_one (op_val (v := .int .i64 ((k : Int) - 1)) hf267 rfl rfl rfl rfl rfl rfl (r_move rfl) fun ac243 hf268 => ?_)
            refine seq_one (op_pureW hf268 rfl rfl rfl rfl ca_17 (credit_any (hI47.nd6 0 rfl rfl rfl rfl rfl rfl) d (Has.cons (hI47.at 0 rfl) (Has.cons (hI47.at 1 rfl) (Has.cons (hI47.at 2 rfl) (Has.cons (hI47.at 3 rfl) (Has.cons (hI47.at 4 rfl) (Has.cons (hI47.at 5 rfl) Has.nil)))))) ((k : Int) - 1)) hI47 fun ac244 wd35 hI48 hf269 => ?_)
            refine seq_one (op_val (v := .tuple #[.int .i64 (d.crV ((k : Int) - 1)), .bool (d.c.inn ((k : Int) - 1))]) hf269 rfl rfl rfl rfl rfl rfl (r_move rfl) fun ac245 hf270 => ?_)
            refine seq_one (op_val (v := .int .i64 (d.crV ((k : Int) - 1))) hf270 rfl rfl rfl rfl rfl rfl (r_extract rfl rfl) fun ac246 hf271 => ?_)
            refine seq_one (op_val (v := .bool (d.c.inn ((k : Int) - 1))) hf271 rfl rfl rfl rfl rfl rfl (r_extract rfl rfl) fun ac247 hf272 => ?_)
            refine seq_one (op_val (v := .int .i64 (d.crV ((k : Int) - 1))) hf272 rfl rfl rfl rfl rfl rfl (r_assign rfl) fun ac248 hf273 => ?_)
            refine seq_one (op_val (v := .bool (d.c.inn ((k : Int) - 1))) hf273 rfl rfl rfl rfl rfl rfl (r_assign rfl) fun ac249 hf274 => ?_)
            refine seq_end ?_
            clear hf265 ac241 hf266 ac242 hf267 ac243 wd34 hI47 hf268 ac244 hf269 ac245 hf270 ac246 hf271 ac247 hf272 ac248 hf273
            refine then_normal ?_
            refine code_seq ?_
            refine seq_start (l := [0, 1, 2, 3, 4, 5, 6, 7]) rfl ?_
            refine seq_one (op_val (v := .agg #[.int .i64 (N : Int), .int .i64 q, .slice u0 ((d.pl 0).length) uc0, .slice u1 ((d.pl 1).length) uc1]) hf274 rfl rfl rfl rfl rfl rfl (r_loadW ag_85 sz_85 rfl (hI48.at 6 rfl) rfl) fun ac250 hf275 => ?_)
            refine seq_one (op_val (v := .int .i64 ((k : Int) - 1)) hf275 rfl rfl rfl rfl rfl rfl (r_move rfl) fun ac251 hf276 => ?_)
            refine seq_one (op_pureW hf276 rfl rfl rfl rfl ca_50 (rcredit_walk (F := (d.pl 0)) (O := (d.pl 1)) (n := ((k : Int) - 1)) (hj40.2.1).1 (hj40.2.2.1).1 (Ro.pl_le d 0) (Ro.pl_le d 1) (View.rows hj40.2.1 hI48 (fk_app (fresh_keys (ks := [b1, b2, b3, b4, b5, b6, b8, b10]) rfl (fk_cons hb1 (fk_cons hb2 (fk_cons hb3 (fk_cons hb4 (fk_cons hb5 (fk_cons hb6 (fk_cons hb8 (fk_cons hb10 fk_nil))))))))) (fk_app (fk_app (fk_app (fk_app hj40.2.2.2 hyq11) hyq12) hyq13) hyq14)) (fun x hx => List.mem_append_right _ (List.mem_append_left _ (List.mem_append_left _ (List.mem_append_left _ (List.mem_append_left _ hx)))))) (View.rows hj40.2.2.1 hI48 (fk_app (fresh_keys (ks := [b1, b2, b3, b4, b5, b6, b8, b10]) rfl (fk_cons hb1 (fk_cons hb2 (fk_cons hb3 (fk_cons hb4 (fk_cons hb5 (fk_cons hb6 (fk_cons hb8 (fk_cons hb10 fk_nil))))))))) (fk_app (fk_app (fk_app (fk_app hj40.2.2.2 hyq11) hyq12) hyq13) hyq14)) (fun x hx => List.mem_append_right _ (List.mem_append_left _ (List.mem_append_left _ (List.mem_append_left _ (List.mem_append_left _ hx))))))) hI48 fun ac252 wd36 hI49 hf277 => ?_)
            refine seq_one (op_val (v := .tuple #[.int .i64 (crL ((d.pl 0) ++ (d.pl 1)) ((k : Int) - 1)), .bool (inL ((d.pl 0) ++ (d.pl 1)) ((k : Int) - 1))]) hf277 rfl rfl rfl rfl rfl rfl (r_move rfl) fun ac253 hf278 => ?_)
            refine seq_one (op_val (v := .int .i64 (crL ((d.pl 0) ++ (d.pl 1)) ((k : Int) - 1))) hf278 rfl rfl rfl rfl rfl rfl (r_extract rfl rfl) fun ac254 hf279 => ?_)
            refine seq_one (op_val (v := .bool (inL ((d.pl 0) ++ (d.pl 1)) ((k : Int) - 1))) hf279 rfl rfl rfl rfl rfl rfl (r_extract rfl rfl) fun ac255 hf280 => ?_)
            refine seq_one (op_val (v := .int .i64 (crL ((d.pl 0) ++ (d.pl 1)) ((k : Int) - 1))) hf280 rfl rfl rfl rfl rfl rfl (r_assign rfl) fun ac256 hf281 => ?_)
            refine seq_one (op_val (v := .bool (inL ((d.pl 0) ++ (d.pl 1)) ((k : Int) - 1))) hf281 rfl rfl rfl rfl rfl rfl (r_assign rfl) fun ac257 hf282 => ?_)
            refine seq_end ?_
            clear ac249 hf274 ac250 hf275 ac251 wd35 hI48 hf276 ac252 hf277 ac253 hf278 ac254 hf279 ac255 hf280 ac256 hf281
            refine then_normal ?_
            refine code_seq ?_
            refine seq_start (l := [0, 1, 2, 3, 4, 5, 6, 7]) rfl ?_
            refine seq_one (op_val (v := .int .i64 (d.crV ((k : Int) - 1))) hf282 rfl rfl rfl rfl rfl rfl (r_move rfl) fun ac258 hf283 => ?_)
            refine seq_one (op_val (v := .int .i64 (crL ((d.pl 0) ++ (d.pl 1)) ((k : Int) - 1))) hf283 rfl rfl rfl rfl rfl rfl (r_move rfl) fun ac259 hf284 => ?_)
            refine seq_one (op_val (v := .bool ((d.crV ((k : Int) - 1)) != (crL ((d.pl 0) ++ (d.pl 1)) ((k : Int) - 1)))) hf284 rfl rfl rfl rfl rfl rfl (r_neq rfl rfl) fun ac260 hf285 => ?_)
            refine seq_one (op_val (v := .bool ((d.crV ((k : Int) - 1)) != (crL ((d.pl 0) ++ (d.pl 1)) ((k : Int) - 1)))) hf285 rfl rfl rfl rfl rfl rfl (r_move rfl) fun ac261 hf286 => ?_)
            have hf287 := hf286.know 236 (u := .bool false) rfl (congrArg Value.bool (bne_eq_false_iff_eq.2 (Ro.pl_cr d _).1.symm))
            refine seq_one (op_val (v := .bool (d.c.inn ((k : Int) - 1))) hf287 rfl rfl rfl rfl rfl rfl (r_move rfl) fun ac262 hf288 => ?_)
            refine seq_one (op_val (v := .bool (inL ((d.pl 0) ++ (d.pl 1)) ((k : Int) - 1))) hf288 rfl rfl rfl rfl rfl rfl (r_move rfl) fun ac263 hf289 => ?_)
            refine seq_one (op_val (v := .bool ((d.c.inn ((k : Int) - 1)) != (inL ((d.pl 0) ++ (d.pl 1)) ((k : Int) - 1)))) hf289 rfl rfl rfl rfl rfl rfl (r_neB ub_4 rfl rfl) fun ac264 hf290 => ?_)
            refine seq_one (op_val (v := .bool ((d.c.inn ((k : Int) - 1)) != (inL ((d.pl 0) ++ (d.pl 1)) ((k : Int) - 1)))) hf290 rfl rfl rfl rfl rfl rfl (r_pickF rfl rfl) fun ac265 hf291 => ?_)
            refine seq_end ?_
            clear ac257 hf282 ac258 hf283 ac259 hf284 ac260 hf285 hf286 ac261 hf287 ac262 hf288 ac263 hf289 ac264 hf290
            refine then_normal ?_
            have hf292 := hf291.know 240 (u := .bool false) rfl (congrArg Value.bool (bne_eq_false_iff_eq.2 (Ro.pl_cr d _).2.symm))
            refine code_if_false hf292 rfl ?_
            refine wp_skip ?_
            refine block_normal ?_
            refine then_normal ?_
            refine seq_start (l := [0, 1, 2]) rfl ?_
            refine seq_one (op_val (v := .int .i64 ((k : Int) - 1)) hf292 rfl rfl rfl rfl rfl rfl (r_move rfl) fun ac266 hf293 => ?_)
            refine seq_one (op_val (v := .int .i64 (((k + 1 : Nat) : Int) - 1)) hf293 rfl rfl rfl rfl rfl rfl (r_add (c := (((k + 1 : Nat) : Int) - 1)) rfl rfl (by rw [show ((k : Int) - 1) + 1 = ((k + 1 : Nat) : Int) - 1 by omega]; exact (wrap_i64 (by have := of_decide_eq_true c218_10; omega) (by have := of_decide_eq_true c218_10; omega)))) fun ac267 hf294 => ?_)
            refine seq_one (op_val (v := .int .i64 (((k + 1 : Nat) : Int) - 1)) hf294 rfl rfl rfl rfl rfl rfl (r_assign rfl) fun ac268 hf295 => ?_)
            refine seq_end ?_
            clear hf291 ac265 hf292 ac266 hf293 ac267 hf294
            refine then_normal ?_
            exact ⟨k + 1, (hf295.cons 0 rfl (hf295.cons 1 rfl (hf295.cons 2 rfl (hf295.cons 7 rfl (hf295.cons 8 rfl (hf295.cons 9 rfl (hf295.cons 10 rfl (hf295.cons 12 rfl (hf295.cons 13 rfl (hf295.cons 14 rfl (hf295.cons 15 rfl (hf295.cons 16 rfl (hf295.cons 17 rfl (hf295.cons 18 rfl (hf295.cons 19 rfl (hf295.cons 20 rfl (hf295.cons 21 rfl (hf295.cons 22 rfl (hf295.cons 23 rfl (hf295.cons 24 rfl (hf295.cons 32 rfl (hf295.cons 33 rfl (hf295.cons 34 rfl (hf295.cons 35 rfl (hf295.cons 36 rfl (hf295.cons 37 rfl (hf295.cons 38 rfl (hf295.cons 39 rfl (hf295.cons 40 rfl (hf295.cons 41 rfl (hf295.cons 42 rfl (hf295.cons 43 rfl (hf295.cons 44 rfl (hf295.cons 45 rfl (hf295.cons 46 rfl (hf295.cons 47 rfl (hf295.cons 48 rfl (hf295.cons 49 rfl (hf295.cons 50 rfl (hf295.cons 51 rfl (hf295.cons 58 rfl (hf295.cons 59 rfl (hf295.cons 60 rfl (hf295.cons 61 rfl (hf295.cons 62 rfl (hf295.cons 63 rfl (hf295.cons 64 rfl (hf295.cons 65 rfl (hf295.cons 66 rfl (hf295.cons 67 rfl (hf295.cons 68 rfl (hf295.cons 69 rfl (hf295.cons 70 rfl (hf295.cons 72 rfl (hf295.cons 73 rfl (hf295.cons 74 rfl (hf295.cons 75 rfl (hf295.cons 76 rfl (hf295.cons 77 rfl (hf295.cons 78 rfl (hf295.cons 79 rfl (hf295.cons 172 rfl (hf295.cons 173 rfl (hf295.cons 174 rfl (hf295.cons 175 rfl (hf295.cons 176 rfl (hf295.cons 177 rfl (hf295.cons 178 rfl (hf295.cons 179 rfl (hf295.cons 180 rfl (hf295.cons 181 rfl (hf295.cons 182 rfl (hf295.cons 183 rfl (hf295.cons 184 rfl (hf295.cons 185 rfl (hf295.cons 186 rfl (hf295.cons 187 rfl (hf295.cons 188 rfl (hf295.cons 189 rfl (hf295.cons 190 rfl (hf295.cons 191 rfl (hf295.cons 192 rfl (hf295.cons 193 rfl (hf295.cons 194 rfl (hf295.cons 195 rfl (hf295.cons 196 rfl (hf295.cons 197 rfl (hf295.cons 198 rfl (hf295.cons 199 rfl (hf295.cons 200 rfl (hf295.cons 201 rfl (hf295.cons 202 rfl (hf295.cons 203 rfl (hf295.cons 204 rfl (hf295.cons 205 rfl (hf295.cons 206 rfl (hf295.cons 207 rfl (hf295.cons 208 rfl (hf295.cons 209 rfl (hf295.cons 210 rfl (hf295.cons 211 rfl (hf295.cons 212 rfl (hf295.cons 213 rfl (hf295.cons 214 rfl (hf295.cons 215 rfl (hf295.cons 25 rfl hf295.nil)))))))))))))))))))))))))))))))))))))))))))))))))))))))))))))))))))))))))))))))))))))))))))))))))))))))))), ⟨hI49, (by have := of_decide_eq_true c218_10; omega)⟩, (by have := of_decide_eq_true c218_10; show N + 2 - (k + 1) < N + 2 - k; omega)⟩
          · have hf296 := hf265.know 218 (u := .bool false) rfl (congrArg Value.bool c218_10)
            refine wp_exit ?_
            refine then_exit ?_
            refine then_exit ?_
            refine block_here ?_
            refine then_normal ?_
            refine code_seq ?_
            refine code_seq ?_
            refine seq_start (l := [0, 1, 2]) rfl ?_
            refine seq_one (op_val (v := .slice q11 ((d.c.lst 0).length) capq11) hf296 rfl rfl rfl rfl rfl rfl (r_move rfl) fun ac269 hf297 => ?_)
            refine seq_one (op_val (v := .int .i64 ((d.c.lst 0).length : Int)) hf297 rfl rfl rfl rfl rfl rfl (r_len sl_27 rfl) fun ac270 hf298 => ?_)
            refine seq_one (op_val (v := .int .i64 0) hf298 rfl rfl rfl rfl rfl rfl (r_move rfl) fun ac271 hf299 => ?_)
            refine seq_end ?_
            clear hf265 ac241 hf296 ac269 hf297 ac270 hf298
            refine then_normal ?_
            refine wp_block ?_
            have hI50 : Inv w ([(b1, arr .i64 d.c.lk, 103), (b2, arr .i64 d.c.of, 3), (b3, arr .i64 d.c.mn, 3), (b4, #[.slice (some ⟨b1, 0, none⟩) (N + 2) (N + 2), .slice (some ⟨b2, 0, none⟩) N N, .slice (some ⟨b3, 0, none⟩) 2 2], 79), (b5, arr .i64 d.cr, 3), (b6, #[.pointer (some ⟨b4, 0, none⟩), .slice (some ⟨b5, 0, none⟩) N N, .int .i64 d.q], 45), (b8, #[.int .i64 (N : Int), .int .i64 q, .slice u0 ((d.pl 0).length) uc0, .slice u1 ((d.pl 1).length) uc1], 85), (b10, #[.int .u8 kd9, .int .i64 ii9, .int .i64 nn9], 89)] ++ (((SU ++ Sq11) ++ Sq12) ++ Sq13)) _ := Inv.drop (A := ([(b1, arr .i64 d.c.lk, 103), (b2, arr .i64 d.c.of, 3), (b3, arr .i64 d.c.mn, 3), (b4, #[.slice (some ⟨b1, 0, none⟩) (N + 2) (N + 2), .slice (some ⟨b2, 0, none⟩) N N, .slice (some ⟨b3, 0, none⟩) 2 2], 79), (b5, arr .i64 d.cr, 3), (b6, #[.pointer (some ⟨b4, 0, none⟩), .slice (some ⟨b5, 0, none⟩) N N, .int .i64 d.q], 45), (b8, #[.int .i64 (N : Int), .int .i64 q, .slice u0 ((d.pl 0).length) uc0, .slice u1 ((d.pl 1).length) uc1], 85), (b10, #[.int .u8 kd9, .int .i64 ii9, .int .i64 nn9], 89)] ++ (((SU ++ Sq11) ++ Sq12) ++ Sq13))) (B := Sq14) hI47 hyq14
            have hI51 : Inv w ([(b1, arr .i64 d.c.lk, 103), (b2, arr .i64 d.c.of, 3), (b3, arr .i64 d.c.mn, 3), (b4, #[.slice (some ⟨b1, 0, none⟩) (N + 2) (N + 2), .slice (some ⟨b2, 0, none⟩) N N, .slice (some ⟨b3, 0, none⟩) 2 2], 79), (b5, arr .i64 d.cr, 3), (b6, #[.pointer (some ⟨b4, 0, none⟩), .slice (some ⟨b5, 0, none⟩) N N, .int .i64 d.q], 45), (b8, #[.int .i64 (N : Int), .int .i64 q, .slice u0 ((d.pl 0).length) uc0, .slice u1 ((d.pl 1).length) uc1], 85), (b10, #[.int .u8 kd9, .int .i64 ii9, .int .i64 nn9], 89)] ++ ((SU ++ Sq11) ++ Sq12)) _ := Inv.drop (A := ([(b1, arr .i64 d.c.lk, 103), (b2, arr .i64 d.c.of, 3), (b3, arr .i64 d.c.mn, 3), (b4, #[.slice (some ⟨b1, 0, none⟩) (N + 2) (N + 2), .slice (some ⟨b2, 0, none⟩) N N, .slice (some ⟨b3, 0, none⟩) 2 2], 79), (b5, arr .i64 d.cr, 3), (b6, #[.pointer (some ⟨b4, 0, none⟩), .slice (some ⟨b5, 0, none⟩) N N, .int .i64 d.q], 45), (b8, #[.int .i64 (N : Int), .int .i64 q, .slice u0 ((d.pl 0).length) uc0, .slice u1 ((d.pl 1).length) uc1], 85), (b10, #[.int .u8 kd9, .int .i64 ii9, .int .i64 nn9], 89)] ++ ((SU ++ Sq11) ++ Sq12))) (B := Sq13) hI50 hyq13
            have hI52 : Inv w ([(b1, arr .i64 d.c.lk, 103), (b2, arr .i64 d.c.of, 3), (b3, arr .i64 d.c.mn, 3), (b4, #[.slice (some ⟨b1, 0, none⟩) (N + 2) (N + 2), .slice (some ⟨b2, 0, none⟩) N N, .slice (some ⟨b3, 0, none⟩) 2 2], 79), (b5, arr .i64 d.cr, 3), (b6, #[.pointer (some ⟨b4, 0, none⟩), .slice (some ⟨b5, 0, none⟩) N N, .int .i64 d.q], 45), (b8, #[.int .i64 (N : Int), .int .i64 q, .slice u0 ((d.pl 0).length) uc0, .slice u1 ((d.pl 1).length) uc1], 85), (b10, #[.int .u8 kd9, .int .i64 ii9, .int .i64 nn9], 89)] ++ ((SU ++ Sq12) ++ Sq11)) _ := Inv.swapT (A := [(b1, arr .i64 d.c.lk, 103), (b2, arr .i64 d.c.of, 3), (b3, arr .i64 d.c.mn, 3), (b4, #[.slice (some ⟨b1, 0, none⟩) (N + 2) (N + 2), .slice (some ⟨b2, 0, none⟩) N N, .slice (some ⟨b3, 0, none⟩) 2 2], 79), (b5, arr .i64 d.cr, 3), (b6, #[.pointer (some ⟨b4, 0, none⟩), .slice (some ⟨b5, 0, none⟩) N N, .int .i64 d.q], 45), (b8, #[.int .i64 (N : Int), .int .i64 q, .slice u0 ((d.pl 0).length) uc0, .slice u1 ((d.pl 1).length) uc1], 85), (b10, #[.int .u8 kd9, .int .i64 ii9, .int .i64 nn9], 89)]) (X := SU) (Y := Sq11) (Z := Sq12) hI51
            refine code_loop (α := Nat × (List Int) × (List Blk)) (fun (x : Nat × (List Int) × (List Blk)) => match x with | (m, ws, SW) => [(0, .int .i64 (N : Int)), (1, .int .i64 q), (2, .slice p L cap), (7, .pointer (some ⟨b6, 0, none⟩)), (8, .int .i64 0), (9, .pointer (some ⟨b8, 0, none⟩)), (10, .bool true), (12, .pointer (some ⟨b10, 0, none⟩)), (13, .int .i64 A), (14, .int .i64 B), (15, .int .i64 A), (16, .int .i64 B), (17, .bool G), (18, .bool G), (19, .bool H), (20, .bool H), (21, .int .i64 X), (22, .int .i64 X), (23, .slice q11 ((d.c.lst 0).length) capq11), (24, .slice q12 ((d.c.lst 1).length) capq12), (25, .int .i64 ((k : Int) - 1)), (32, .tuple #[.pointer (some ⟨b6, 0, none⟩), .int .i64 0]), (33, .int .i64 (N : Int)), (34, .int .i64 q), (35, .tuple #[.pointer (some ⟨b6, 0, none⟩), .int .i64 0]), (36, .pointer (some ⟨b6, 0, none⟩)), (37, .int .i64 0), (38, .tuple #[.agg #[.int .i64 (N : Int), .int .i64 q, .slice none 0 0, .slice none 0 0], .bool true]), (39, .int .i64 (N : Int)), (40, .int .i64 q), (41, .tuple #[.agg #[.int .i64 (N : Int), .int .i64 q, .slice none 0 0, .slice none 0 0], .bool true]), (42, .agg #[.int .i64 (N : Int), .int .i64 q, .slice none 0 0, .slice none 0 0]), (43, .bool true), (44, .int .i64 0), (45, .bool true), (46, .bool true), (47, .bool false), (48, .bool false), (49, .bool true), (50, .bool false), (51, .bool false), (58, .bool false), (59, .bool false), (60, .bool true), (61, .bool false), (62, .bool false), (63, .int .i64 (N : Int)), (64, .bool (decide ((N : Int) > 30))), (65, .bool (decide ((N : Int) > 30))), (66, .bool false), (67, .slice p L cap), (68, .int .i64 (L : Int)), (69, .bool (decide ((L : Int) > 60))), (70, .bool false), (72, .slice p L cap), (73, .int .i64 (L : Int)), (74, .int .i64 (i : Int)), (75, .bool true), (76, .pointer (slAt p (i * 3))), (77, .agg #[.int .u8 kd9, .int .i64 ii9, .int .i64 nn9]), (78, .pointer (some ⟨b10, 0, none⟩)), (79, .int .u8 kd9), (172, .tuple #[.slice q11 ((d.c.lst 0).length) capq11, .slice q12 ((d.c.lst 1).length) capq12]), (173, .pointer (some ⟨b6, 0, none⟩)), (174, .tuple #[.slice q11 ((d.c.lst 0).length) capq11, .slice q12 ((d.c.lst 1).length) capq12]), (175, .slice q11 ((d.c.lst 0).length) capq11), (176, .slice q12 ((d.c.lst 1).length) capq12), (177, .int .i64 A), (178, .int .i64 A), (179, .bool (A != A)), (180, .bool false), (181, .int .i64 B), (182, .int .i64 B), (183, .bool (B != B)), (184, .bool (B != B)), (185, .bool false), (186, .bool G), (187, .bool G), (188, .bool (G != G)), (189, .bool (G != G)), (190, .bool false), (191, .bool H), (192, .bool H), (193, .bool (H != H)), (194, .bool (H != H)), (195, .bool false), (196, .int .i64 X), (197, .int .i64 X), (198, .bool (X != X)), (199, .bool (X != X)), (200, .bool false), (201, .slice q11 ((d.c.lst 0).length) capq11), (202, .pointer (some ⟨b8, 2, none⟩)), (203, .slice u0 ((d.pl 0).length) uc0), (204, .slice q13 (((d.pl 0).map Prod.fst).length) capq13), (205, .bool ((d.c.lst 0) == ((d.pl 0).map Prod.fst))), (206, .bool (!((d.c.lst 0) == ((d.pl 0).map Prod.fst)))), (207, .bool (!((d.c.lst 0) == ((d.pl 0).map Prod.fst)))), (208, .bool false), (209, .slice q12 ((d.c.lst 1).length) capq12), (210, .pointer (some ⟨b8, 3, none⟩)), (211, .slice u1 ((d.pl 1).length) uc1), (212, .slice q14 (((d.pl 1).map Prod.fst).length) capq14), (213, .bool ((d.c.lst 1) == ((d.pl 1).map Prod.fst))), (214, .bool (!((d.c.lst 1) == ((d.pl 1).map Prod.fst)))), (215, .bool false), (216, .int .i64 ((k : Int) - 1)), (217, .int .i64 (N : Int)), (218, .bool false), (241, .slice q11 ((d.c.lst 0).length) capq11), (242, .int .i64 ((d.c.lst 0).length : Int)), (243, .int .i64 (m : Int))]) (fun (x : Nat × (List Int) × (List Blk)) => match x with | (m, ws, SW) => fun wL => Inv w ([(b1, arr .i64 d.c.lk, 103), (b2, arr .i64 d.c.of, 3), (b3, arr .i64 d.c.mn, 3), (b4, #[.slice (some ⟨b1, 0, none⟩) (N + 2) (N + 2), .slice (some ⟨b2, 0, none⟩) N N, .slice (some ⟨b3, 0, none⟩) 2 2], 79), (b5, arr .i64 d.cr, 3), (b6, #[.pointer (some ⟨b4, 0, none⟩), .slice (some ⟨b5, 0, none⟩) N N, .int .i64 d.q], 45), (b8, #[.int .i64 (N : Int), .int .i64 q, .slice u0 ((d.pl 0).length) uc0, .slice u1 ((d.pl 1).length) uc1], 85), (b10, #[.int .u8 kd9, .int .i64 ii9, .int .i64 nn9], 89)] ++ ((SU ++ Sq12) ++ SW)) wL ∧ (m ≤ (d.c.lst 0).length ∧ ws.length = (d.c.lst 0).length ∧ Sl 3 .i64 SW q11 capq11 ws ∧ ∀ x ∈ SW, w.heap.size ≤ x.1)) (fun (x : Nat × (List Int) × (List Blk)) => match x with | (m, ws, SW) => (d.c.lst 0).length - m) (0, (d.c.lst 0), Sq11) (hf299.cons 0 rfl (hf299.cons 1 rfl (hf299.cons 2 rfl (hf299.cons 7 rfl (hf299.cons 8 rfl (hf299.cons 9 rfl (hf299.cons 10 rfl (hf299.cons 12 rfl (hf299.cons 13 rfl (hf299.cons 14 rfl (hf299.cons 15 rfl (hf299.cons 16 rfl (hf299.cons 17 rfl (hf299.cons 18 rfl (hf299.cons 19 rfl (hf299.cons 20 rfl (hf299.cons 21 rfl (hf299.cons 22 rfl (hf299.cons 23 rfl (hf299.cons 24 rfl (hf299.cons 25 rfl (hf299.cons 32 rfl (hf299.cons 33 rfl (hf299.cons 34 rfl (hf299.cons 35 rfl (hf299.cons 36 rfl (hf299.cons 37 rfl (hf299.cons 38 rfl (hf299.cons 39 rfl (hf299.cons 40 rfl (hf299.cons 41 rfl (hf299.cons 42 rfl (hf299.cons 43 rfl (hf299.cons 44 rfl (hf299.cons 45 rfl (hf299.cons 46 rfl (hf299.cons 47 rfl (hf299.cons 48 rfl (hf299.cons 49 rfl (hf299.cons 50 rfl (hf299.cons 51 rfl (hf299.cons 58 rfl (hf299.cons 59 rfl (hf299.cons 60 rfl (hf299.cons 61 rfl (hf299.cons 62 rfl (hf299.cons 63 rfl (hf299.cons 64 rfl (hf299.cons 65 rfl (hf299.cons 66 rfl (hf299.cons 67 rfl (hf299.cons 68 rfl (hf299.cons 69 rfl (hf299.cons 70 rfl (hf299.cons 72 rfl (hf299.cons 73 rfl (hf299.cons 74 rfl (hf299.cons 75 rfl (hf299.cons 76 rfl (hf299.cons 77 rfl (hf299.cons 78 rfl (hf299.cons 79 rfl (hf299.cons 172 rfl (hf299.cons 173 rfl (hf299.cons 174 rfl (hf299.cons 175 rfl (hf299.cons 176 rfl (hf299.cons 177 rfl (hf299.cons 178 rfl (hf299.cons 179 rfl (hf299.cons 180 rfl (hf299.cons 181 rfl (hf299.cons 182 rfl (hf299.cons 183 rfl (hf299.cons 184 rfl (hf299.cons 185 rfl (hf299.cons 186 rfl (hf299.cons 187 rfl (hf299.cons 188 rfl (hf299.cons 189 rfl (hf299.cons 190 rfl (hf299.cons 191 rfl (hf299.cons 192 rfl (hf299.cons 193 rfl (hf299.cons 194 rfl (hf299.cons 195 rfl (hf299.cons 196 rfl (hf299.cons 197 rfl (hf299.cons 198 rfl (hf299.cons 199 rfl (hf299.cons 200 rfl (hf299.cons 201 rfl (hf299.cons 202 rfl (hf299.cons 203 rfl (hf299.cons 204 rfl (hf299.cons 205 rfl (hf299.cons 206 rfl (hf299.cons 207 rfl (hf299.cons 208 rfl (hf299.cons 209 rfl (hf299.cons 210 rfl (hf299.cons 211 rfl (hf299.cons 212 rfl (hf299.cons 213 rfl (hf299.cons 214 rfl (hf299.cons 215 rfl (hf299.cons 216 rfl (hf299.cons 217 rfl (hf299.cons 218 rfl (hf299.cons 241 rfl (hf299.cons 242 rfl (hf299.cons 243 rfl hf299.nil)))))))))))))))))))))))))))))))))))))))))))))))))))))))))))))))))))))))))))))))))))))))))))))))))))))))))))))))) ⟨hI52, ⟨Nat.zero_le _, rfl, hsq11, hyq11⟩⟩ ?_
            intro ⟨m, ws, SW⟩ ac272 wd37 hf300 hL3
            obtain ⟨hI53, hx3⟩ := hL3
            dsimp only at hf300 hI53 hx3
            clear hI47 hI50 hI51 ac271 wd34 hf299 hI52
            refine code_seq ?_
            refine seq_start (l := [0]) rfl ?_
            refine seq_one (op_val (v := .bool (decide ((m : Int) < ((d.c.lst 0).length : Int)))) hf300 rfl rfl rfl rfl rfl rfl (r_lss rfl rfl) fun ac273 hf301 => ?_)
            refine seq_end ?_
            clear ac272 hf300
            refine then_normal ?_
            refine code_seq ?_
            refine code_if hf301 rfl (fun c244_11 => ?_) (fun c244_11 => ?_)
            · have hf302 := hf301.know 244 (u := .bool true) rfl (congrArg Value.bool c244_11)
              refine wp_skip ?_
              refine then_normal ?_
              refine code_seq ?_
              refine wp_block ?_
              refine code_seq ?_
              refine seq_start (l := [0, 1]) rfl ?_
              refine seq_one (op_val (v := .int .i64 (m : Int)) hf302 rfl rfl rfl rfl rfl rfl (r_move rfl) fun ac274 hf303 => ?_)
              refine seq_one (op_val (v := .int .i64 (m : Int)) hf303 rfl rfl rfl rfl rfl rfl (r_assign rfl) fun ac275 hf304 => ?_)
              refine seq_end ?_
              clear hf301 ac273 hf302 ac274 hf303
              refine then_normal ?_
              refine seq_start (l := [0, 1, 2, 3]) rfl ?_
              refine seq_one (op_val (v := .slice q11 ((d.c.lst 0).length) capq11) hf304 rfl rfl rfl rfl rfl rfl (r_move rfl) fun ac276 hf305 => ?_)
              refine seq_one (op_val (v := .int .i64 (m : Int)) hf305 rfl rfl rfl rfl rfl rfl (r_move rfl) fun ac277 hf306 => ?_)
              refine seq_one (op_val (v := .pointer (slAt q11 m)) hf306 rfl rfl rfl rfl rfl rfl (r_indexAddrV (i := m) sl_27 rfl rfl rfl (by have := of_decide_eq_true c244_11; have := hx3.2.1; omega) (let r := (hx3.2.2.1.rd hI53 (fun x hx => List.mem_append_right _ (List.mem_append_right _ hx))) m (by have := of_decide_eq_true c244_11; have := hx3.2.1; omega); ⟨r.choose, r.choose_spec.1⟩)) fun ac278 hf307 => ?_)
              refine seq_one (op_storeSl (A := ([(b1, arr .i64 d.c.lk, 103), (b2, arr .i64 d.c.of, 3), (b3, arr .i64 d.c.mn, 3), (b4, #[.slice (some ⟨b1, 0, none⟩) (N + 2) (N + 2), .slice (some ⟨b2, 0, none⟩) N N, .slice (some ⟨b3, 0, none⟩) 2 2], 79), (b5, arr .i64 d.cr, 3), (b6, #[.pointer (some ⟨b4, 0, none⟩), .slice (some ⟨b5, 0, none⟩) N N, .int .i64 d.q], 45), (b8, #[.int .i64 (N : Int), .int .i64 q, .slice u0 ((d.pl 0).length) uc0, .slice u1 ((d.pl 1).length) uc1], 85), (b10, #[.int .u8 kd9, .int .i64 ii9, .int .i64 nn9], 89)] ++ (SU ++ Sq12))) (S := SW) (xs := ws) hf307 rfl rfl rfl rfl sz_3 hx3.2.2.1 (by have := of_decide_eq_true c244_11; have := hx3.2.1; omega) hI53 hx3.2.2.2 fun wd38 Sw15 hsw15 hzw15 hI54 => ?_)
              have hI55 : Inv w ([(b1, arr .i64 d.c.lk, 103), (b2, arr .i64 d.c.of, 3), (b3, arr .i64 d.c.mn, 3), (b4, #[.slice (some ⟨b1, 0, none⟩) (N + 2) (N + 2), .slice (some ⟨b2, 0, none⟩) N N, .slice (some ⟨b3, 0, none⟩) 2 2], 79), (b5, arr .i64 d.cr, 3), (b6, #[.pointer (some ⟨b4, 0, none⟩), .slice (some ⟨b5, 0, none⟩) N N, .int .i64 d.q], 45), (b8, #[.int .i64 (N : Int), .int .i64 q, .slice u0 ((d.pl 0).length) uc0, .slice u1 ((d.pl 1).length) uc1], 85), (b10, #[.int .u8 kd9, .int .i64 ii9, .int .i64 nn9], 89)] ++ ((SU ++ Sq12) ++ Sw15)) wd38 := hI54
              refine seq_end ?_
              clear ac275 hf304 ac276 hf305 ac277 hf306 wd37 hI53 hI54
              refine block_normal ?_
              refine then_normal ?_
              refine seq_start (l := [0, 1]) rfl ?_
              refine seq_one (op_val (v := .int .i64 ((m + 1 : Nat) : Int)) hf307 rfl rfl rfl rfl rfl rfl (r_add (c := ((m + 1 : Nat) : Int)) rfl rfl (wrap_i64 (by have := of_decide_eq_true c244_11; have := Ch.lst_le d.c 0; omega) (by have := of_decide_eq_true c244_11; have := Ch.lst_le d.c 0; omega))) fun ac279 hf308 => ?_)
              refine seq_one (op_val (v := .int .i64 ((m + 1 : Nat) : Int)) hf308 rfl rfl rfl rfl rfl rfl (r_move rfl) fun ac280 hf309 => ?_)
              refine seq_end ?_
              clear ac278 hf307 ac279 hf308
              refine then_normal ?_
              exact ⟨(m + 1, (ws.set m (-1)), Sw15), (hf309.cons 0 rfl (hf309.cons 1 rfl (hf309.cons 2 rfl (hf309.cons 7 rfl (hf309.cons 8 rfl (hf309.cons 9 rfl (hf309.cons 10 rfl (hf309.cons 12 rfl (hf309.cons 13 rfl (hf309.cons 14 rfl (hf309.cons 15 rfl (hf309.cons 16 rfl (hf309.cons 17 rfl (hf309.cons 18 rfl (hf309.cons 19 rfl (hf309.cons 20 rfl (hf309.cons 21 rfl (hf309.cons 22 rfl (hf309.cons 23 rfl (hf309.cons 24 rfl (hf309.cons 25 rfl (hf309.cons 32 rfl (hf309.cons 33 rfl (hf309.cons 34 rfl (hf309.cons 35 rfl (hf309.cons 36 rfl (hf309.cons 37 rfl (hf309.cons 38 rfl (hf309.cons 39 rfl (hf309.cons 40 rfl (hf309.cons 41 rfl (hf309.cons 42 rfl (hf309.cons 43 rfl (hf309.cons 44 rfl (hf309.cons 45 rfl (hf309.cons 46 rfl (hf309.cons 47 rfl (hf309.cons 48 rfl (hf309.cons 49 rfl (hf309.cons 50 rfl (hf309.cons 51 rfl (hf309.cons 58 rfl (hf309.cons 59 rfl (hf309.cons 60 rfl (hf309.cons 61 rfl (hf309.cons 62 rfl (hf309.cons 63 rfl (hf309.cons 64 rfl (hf309.cons 65 rfl (hf309.cons 66 rfl (hf309.cons 67 rfl (hf309.cons 68 rfl (hf309.cons 69 rfl (hf309.cons 70 rfl (hf309.cons 72 rfl (hf309.cons 73 rfl (hf309.cons 74 rfl (hf309.cons 75 rfl (hf309.cons 76 rfl (hf309.cons 77 rfl (hf309.cons 78 rfl (hf309.cons 79 rfl (hf309.cons 172 rfl (hf309.cons 173 rfl (hf309.cons 174 rfl (hf309.cons 175 rfl (hf309.cons 176 rfl (hf309.cons 177 rfl (hf309.cons 178 rfl (hf309.cons 179 rfl (hf309.cons 180 rfl (hf309.cons 181 rfl (hf309.cons 182 rfl (hf309.cons 183 rfl (hf309.cons 184 rfl (hf309.cons 185 rfl (hf309.cons 186 rfl (hf309.cons 187 rfl (hf309.cons 188 rfl (hf309.cons 189 rfl (hf309.cons 190 rfl (hf309.cons 191 rfl (hf309.cons 192 rfl (hf309.cons 193 rfl (hf309.cons 194 rfl (hf309.cons 195 rfl (hf309.cons 196 rfl (hf309.cons 197 rfl (hf309.cons 198 rfl (hf309.cons 199 rfl (hf309.cons 200 rfl (hf309.cons 201 rfl (hf309.cons 202 rfl (hf309.cons 203 rfl (hf309.cons 204 rfl (hf309.cons 205 rfl (hf309.cons 206 rfl (hf309.cons 207 rfl (hf309.cons 208 rfl (hf309.cons 209 rfl (hf309.cons 210 rfl (hf309.cons 211 rfl (hf309.cons 212 rfl (hf309.cons 213 rfl (hf309.cons 214 rfl (hf309.cons 215 rfl (hf309.cons 216 rfl (hf309.cons 217 rfl (hf309.cons 218 rfl (hf309.cons 241 rfl (hf309.cons 242 rfl (hf309.cons 243 rfl hf309.nil)))))))))))))))))))))))))))))))))))))))))))))))))))))))))))))))))))))))))))))))))))))))))))))))))))))))))))))))), ⟨hI55, ⟨(by have := of_decide_eq_true c244_11; omega), List.length_set.trans hx3.2.1, hsw15, hzw15⟩⟩, (by have := of_decide_eq_true c244_11; show (d.c.lst 0).length - (m + 1) < (d.c.lst 0).length - m; omega)⟩
            · have hf310 := hf301.know 244 (u := .bool false) rfl (congrArg Value.bool c244_11)
              refine wp_exit ?_
              refine then_exit ?_
              refine then_exit ?_
              refine block_here ?_
              refine then_normal ?_
              refine code_seq ?_
              refine seq_start (l := [0, 1, 2]) rfl ?_
              refine seq_one (op_val (v := .slice q12 ((d.c.lst 1).length) capq12) hf310 rfl rfl rfl rfl rfl rfl (r_move rfl) fun ac281 hf311 => ?_)
              refine seq_one (op_val (v := .int .i64 ((d.c.lst 1).length : Int)) hf311 rfl rfl rfl rfl rfl rfl (r_len sl_27 rfl) fun ac282 hf312 => ?_)
              refine seq_one (op_val (v := .int .i64 0) hf312 rfl rfl rfl rfl rfl rfl (r_move rfl) fun ac283 hf313 => ?_)
              refine seq_end ?_
              clear hf301 ac273 hf310 ac281 hf311 ac282 hf312
              refine then_normal ?_
              refine wp_block ?_
              have hI56 : Inv w ([(b1, arr .i64 d.c.lk, 103), (b2, arr .i64 d.c.of, 3), (b3, arr .i64 d.c.mn, 3), (b4, #[.slice (some ⟨b1, 0, none⟩) (N + 2) (N + 2), .slice (some ⟨b2, 0, none⟩) N N, .slice (some ⟨b3, 0, none⟩) 2 2], 79), (b5, arr .i64 d.cr, 3), (b6, #[.pointer (some ⟨b4, 0, none⟩), .slice (some ⟨b5, 0, none⟩) N N, .int .i64 d.q], 45), (b8, #[.int .i64 (N : Int), .int .i64 q, .slice u0 ((d.pl 0).length) uc0, .slice u1 ((d.pl 1).length) uc1], 85), (b10, #[.int .u8 kd9, .int .i64 ii9, .int .i64 nn9], 89)] ++ (SU ++ Sq12)) _ := Inv.drop (A := ([(b1, arr .i64 d.c.lk, 103), (b2, arr .i64 d.c.of, 3), (b3, arr .i64 d.c.mn, 3), (b4, #[.slice (some ⟨b1, 0, none⟩) (N + 2) (N + 2), .slice (some ⟨b2, 0, none⟩) N N, .slice (some ⟨b3, 0, none⟩) 2 2], 79), (b5, arr .i64 d.cr, 3), (b6, #[.pointer (some ⟨b4, 0, none⟩), .slice (some ⟨b5, 0, none⟩) N N, .int .i64 d.q], 45), (b8, #[.int .i64 (N : Int), .int .i64 q, .slice u0 ((d.pl 0).length) uc0, .slice u1 ((d.pl 1).length) uc1], 85), (b10, #[.int .u8 kd9, .int .i64 ii9, .int .i64 nn9], 89)] ++ (SU ++ Sq12))) (B := SW) hI53 hx3.2.2.2
              refine code_loop (α := Nat × (List Int) × (List Blk)) (fun (x : Nat × (List Int) × (List Blk)) => match x with | (m, ws, SW) => [(0, .int .i64 (N : Int)), (1, .int .i64 q), (2, .slice p L cap), (7, .pointer (some ⟨b6, 0, none⟩)), (8, .int .i64 0), (9, .pointer (some ⟨b8, 0, none⟩)), (10, .bool true), (12, .pointer (some ⟨b10, 0, none⟩)), (13, .int .i64 A), (14, .int .i64 B), (15, .int .i64 A), (16, .int .i64 B), (17, .bool G), (18, .bool G), (19, .bool H), (20, .bool H), (21, .int .i64 X), (22, .int .i64 X), (23, .slice q11 ((d.c.lst 0).length) capq11), (24, .slice q12 ((d.c.lst 1).length) capq12), (25, .int .i64 ((k : Int) - 1)), (32, .tuple #[.pointer (some ⟨b6, 0, none⟩), .int .i64 0]), (33, .int .i64 (N : Int)), (34, .int .i64 q), (35, .tuple #[.pointer (some ⟨b6, 0, none⟩), .int .i64 0]), (36, .pointer (some ⟨b6, 0, none⟩)), (37, .int .i64 0), (38, .tuple #[.agg #[.int .i64 (N : Int), .int .i64 q, .slice none 0 0, .slice none 0 0], .bool true]), (39, .int .i64 (N : Int)), (40, .int .i64 q), (41, .tuple #[.agg #[.int .i64 (N : Int), .int .i64 q, .slice none 0 0, .slice none 0 0], .bool true]), (42, .agg #[.int .i64 (N : Int), .int .i64 q, .slice none 0 0, .slice none 0 0]), (43, .bool true), (44, .int .i64 0), (45, .bool true), (46, .bool true), (47, .bool false), (48, .bool false), (49, .bool true), (50, .bool false), (51, .bool false), (58, .bool false), (59, .bool false), (60, .bool true), (61, .bool false), (62, .bool false), (63, .int .i64 (N : Int)), (64, .bool (decide ((N : Int) > 30))), (65, .bool (decide ((N : Int) > 30))), (66, .bool false), (67, .slice p L cap), (68, .int .i64 (L : Int)), (69, .bool (decide ((L : Int) > 60))), (70, .bool false), (72, .slice p L cap), (73, .int .i64 (L : Int)), (74, .int .i64 (i : Int)), (75, .bool true), (76, .pointer (slAt p (i * 3))), (77, .agg #[.int .u8 kd9, .int .i64 ii9, .int .i64 nn9]), (78, .pointer (some ⟨b10, 0, none⟩)), (79, .int .u8 kd9), (172, .tuple #[.slice q11 ((d.c.lst 0).length) capq11, .slice q12 ((d.c.lst 1).length) capq12]), (173, .pointer (some ⟨b6, 0, none⟩)), (174, .tuple #[.slice q11 ((d.c.lst 0).length) capq11, .slice q12 ((d.c.lst 1).length) capq12]), (175, .slice q11 ((d.c.lst 0).length) capq11), (176, .slice q12 ((d.c.lst 1).length) capq12), (177, .int .i64 A), (178, .int .i64 A), (179, .bool (A != A)), (180, .bool false), (181, .int .i64 B), (182, .int .i64 B), (183, .bool (B != B)), (184, .bool (B != B)), (185, .bool false), (186, .bool G), (187, .bool G), (188, .bool (G != G)), (189, .bool (G != G)), (190, .bool false), (191, .bool H), (192, .bool H), (193, .bool (H != H)), (194, .bool (H != H)), (195, .bool false), (196, .int .i64 X), (197, .int .i64 X), (198, .bool (X != X)), (199, .bool (X != X)), (200, .bool false), (201, .slice q11 ((d.c.lst 0).length) capq11), (202, .pointer (some ⟨b8, 2, none⟩)), (203, .slice u0 ((d.pl 0).length) uc0), (204, .slice q13 (((d.pl 0).map Prod.fst).length) capq13), (205, .bool ((d.c.lst 0) == ((d.pl 0).map Prod.fst))), (206, .bool (!((d.c.lst 0) == ((d.pl 0).map Prod.fst)))), (207, .bool (!((d.c.lst 0) == ((d.pl 0).map Prod.fst)))), (208, .bool false), (209, .slice q12 ((d.c.lst 1).length) capq12), (210, .pointer (some ⟨b8, 3, none⟩)), (211, .slice u1 ((d.pl 1).length) uc1), (212, .slice q14 (((d.pl 1).map Prod.fst).length) capq14), (213, .bool ((d.c.lst 1) == ((d.pl 1).map Prod.fst))), (214, .bool (!((d.c.lst 1) == ((d.pl 1).map Prod.fst)))), (215, .bool false), (216, .int .i64 ((k : Int) - 1)), (217, .int .i64 (N : Int)), (218, .bool false), (241, .slice q11 ((d.c.lst 0).length) capq11), (242, .int .i64 ((d.c.lst 0).length : Int)), (244, .bool false), (250, .slice q12 ((d.c.lst 1).length) capq12), (251, .int .i64 ((d.c.lst 1).length : Int)), (252, .int .i64 (m : Int))]) (fun (x : Nat × (List Int) × (List Blk)) => match x with | (m, ws, SW) => fun wL => Inv w ([(b1, arr .i64 d.c.lk, 103), (b2, arr .i64 d.c.of, 3), (b3, arr .i64 d.c.mn, 3), (b4, #[.slice (some ⟨b1, 0, none⟩) (N + 2) (N + 2), .slice (some ⟨b2, 0, none⟩) N N, .slice (some ⟨b3, 0, none⟩) 2 2], 79), (b5, arr .i64 d.cr, 3), (b6, #[.pointer (some ⟨b4, 0, none⟩), .slice (some ⟨b5, 0, none⟩) N N, .int .i64 d.q], 45), (b8, #[.int .i64 (N : Int), .int .i64 q, .slice u0 ((d.pl 0).length) uc0, .slice u1 ((d.pl 1).length) uc1], 85), (b10, #[.int .u8 kd9, .int .i64 ii9, .int .i64 nn9], 89)] ++ (SU ++ SW)) wL ∧ (m ≤ (d.c.lst 1).length ∧ ws.length = (d.c.lst 1).length ∧ Sl 3 .i64 SW q12 capq12 ws ∧ ∀ x ∈ SW, w.heap.size ≤ x.1)) (fun (x : Nat × (List Int) × (List Blk)) => match x with | (m, ws, SW) => (d.c.lst 1).length - m) (0, (d.c.lst 1), Sq12) (hf313.cons 0 rfl (hf313.cons 1 rfl (hf313.cons 2 rfl (hf313.cons 7 rfl (hf313.cons 8 rfl (hf313.cons 9 rfl (hf313.cons 10 rfl (hf313.cons 12 rfl (hf313.cons 13 rfl (hf313.cons 14 rfl (hf313.cons 15 rfl (hf313.cons 16 rfl (hf313.cons 17 rfl (hf313.cons 18 rfl (hf313.cons 19 rfl (hf313.cons 20 rfl (hf313.cons 21 rfl (hf313.cons 22 rfl (hf313.cons 23 rfl (hf313.cons 24 rfl (hf313.cons 25 rfl (hf313.cons 32 rfl (hf313.cons 33 rfl (hf313.cons 34 rfl (hf313.cons 35 rfl (hf313.cons 36 rfl (hf313.cons 37 rfl (hf313.cons 38 rfl (hf313.cons 39 rfl (hf313.cons 40 rfl (hf313.cons 41 rfl (hf313.cons 42 rfl (hf313.cons 43 rfl (hf313.cons 44 rfl (hf313.cons 45 rfl (hf313.cons 46 rfl (hf313.cons 47 rfl (hf313.cons 48 rfl (hf313.cons 49 rfl (hf313.cons 50 rfl (hf313.cons 51 rfl (hf313.cons 58 rfl (hf313.cons 59 rfl (hf313.cons 60 rfl (hf313.cons 61 rfl (hf313.cons 62 rfl (hf313.cons 63 rfl (hf313.cons 64 rfl (hf313.cons 65 rfl (hf313.cons 66 rfl (hf313.cons 67 rfl (hf313.cons 68 rfl (hf313.cons 69 rfl (hf313.cons 70 rfl (hf313.cons 72 rfl (hf313.cons 73 rfl (hf313.cons 74 rfl (hf313.cons 75 rfl (hf313.cons 76 rfl (hf313.cons 77 rfl (hf313.cons 78 rfl (hf313.cons 79 rfl (hf313.cons 172 rfl (hf313.cons 173 rfl (hf313.cons 174 rfl (hf313.cons 175 rfl (hf313.cons 176 rfl (hf313.cons 177 rfl (hf313.cons 178 rfl (hf313.cons 179 rfl (hf313.cons 180 rfl (hf313.cons 181 rfl (hf313.cons 182 rfl (hf313.cons 183 rfl (hf313.cons 184 rfl (hf313.cons 185 rfl (hf313.cons 186 rfl (hf313.cons 187 rfl (hf313.cons 188 rfl (hf313.cons 189 rfl (hf313.cons 190 rfl (hf313.cons 191 rfl (hf313.cons 192 rfl (hf313.cons 193 rfl (hf313.cons 194 rfl (hf313.cons 195 rfl (hf313.cons 196 rfl (hf313.cons 197 rfl (hf313.cons 198 rfl (hf313.cons 199 rfl (hf313.cons 200 rfl (hf313.cons 201 rfl (hf313.cons 202 rfl (hf313.cons 203 rfl (hf313.cons 204 rfl (hf313.cons 205 rfl (hf313.cons 206 rfl (hf313.cons 207 rfl (hf313.cons 208 rfl (hf313.cons 209 rfl (hf313.cons 210 rfl (hf313.cons 211 rfl (hf313.cons 212 rfl (hf313.cons 213 rfl (hf313.cons 214 rfl (hf313.cons 215 rfl (hf313.cons 216 rfl (hf313.cons 217 rfl (hf313.cons 218 rfl (hf313.cons 241 rfl (hf313.cons 242 rfl (hf313.cons 244 rfl (hf313.cons 250 rfl (hf313.cons 251 rfl (hf313.cons 252 rfl hf313.nil))))))))))))))))))))))))))))))))))))))))))))))))))))))))))))))))))))))))))))))))))))))))))))))))))))))))))))))))))) ⟨hI56, ⟨Nat.zero_le _, rfl, hsq12, hyq12⟩⟩ ?_
              intro ⟨m, ws, SW⟩ ac284 wd39 hf314 hL4
              obtain ⟨hI57, hx4⟩ := hL4
              dsimp only at hf314 hI57 hx4
              clear hI53 ac283 wd37 hf313 hI56
              refine code_seq ?_
              refine seq_start (l := [0]) rfl ?_
              refine seq_one (op_val (v := .bool (decide ((m : Int) < ((d.c.lst 1).length : Int)))) hf314 rfl rfl rfl rfl rfl rfl (r_lss rfl rfl) fun ac285 hf315 => ?_)
              refine seq_end ?_
              clear ac284 hf314
              refine then_normal ?_
              refine code_seq ?_
              refine code_if hf315 rfl (fun c253_12 => ?_) (fun c253_12 => ?_)
              · have hf316 := hf315.know 253 (u := .bool true) rfl (congrArg Value.bool c253_12)
                refine wp_skip ?_
                refine then_normal ?_
                refine code_seq ?_
                refine wp_block ?_
                refine code_seq ?_
                refine seq_start (l := [0, 1]) rfl ?_
                refine seq_one (op_val (v := .int .i64 (m : Int)) hf316 rfl rfl rfl rfl rfl rfl (r_move rfl) fun ac286 hf317 => ?_)
                refine seq_one (op_val (v := .int .i64 (m : Int)) hf317 rfl rfl rfl rfl rfl rfl (r_assign rfl) fun ac287 hf318 => ?_)
                refine seq_end ?_
                clear hf315 ac285 hf316 ac286 hf317
                refine then_normal ?_
                refine seq_start (l := [0, 1, 2, 3]) rfl ?_
                refine seq_one (op_val (v := .slice q12 ((d.c.lst 1).length) capq12) hf318 rfl rfl rfl rfl rfl rfl (r_move rfl) fun ac288 hf319 => ?_)
                refine seq_one (op_val (v := .int .i64 (m : Int)) hf319 rfl rfl rfl rfl rfl rfl (r_move rfl) fun ac289 hf320 => ?_)
                refine seq_one (op_val (v := .pointer (slAt q12 m)) hf320 rfl rfl rfl rfl rfl rfl (r_indexAddrV (i := m) sl_27 rfl rfl rfl (by have := of_decide_eq_true c253_12; have := hx4.2.1; omega) (let r := (hx4.2.2.1.rd hI57 (fun x hx => List.mem_append_right _ (List.mem_append_right _ hx))) m (by have := of_decide_eq_true c253_12; have := hx4.2.1; omega); ⟨r.choose, r.choose_spec.1⟩)) fun ac290 hf321 => ?_)
                refine seq_one (op_storeSl (A := ([(b1, arr .i64 d.c.lk, 103), (b2, arr .i64 d.c.of, 3), (b3, arr .i64 d.c.mn, 3), (b4, #[.slice (some ⟨b1, 0, none⟩) (N + 2) (N + 2), .slice (some ⟨b2, 0, none⟩) N N, .slice (some ⟨b3, 0, none⟩) 2 2], 79), (b5, arr .i64 d.cr, 3), (b6, #[.pointer (some ⟨b4, 0, none⟩), .slice (some ⟨b5, 0, none⟩) N N, .int .i64 d.q], 45), (b8, #[.int .i64 (N : Int), .int .i64 q, .slice u0 ((d.pl 0).length) uc0, .slice u1 ((d.pl 1).length) uc1], 85), (b10, #[.int .u8 kd9, .int .i64 ii9, .int .i64 nn9], 89)] ++ SU)) (S := SW) (xs := ws) hf321 rfl rfl rfl rfl sz_3 hx4.2.2.1 (by have := of_decide_eq_true c253_12; have := hx4.2.1; omega) hI57 hx4.2.2.2 fun wd40 Sw15 hsw15 hzw15 hI58 => ?_)
                have hI59 : Inv w ([(b1, arr .i64 d.c.lk, 103), (b2, arr .i64 d.c.of, 3), (b3, arr .i64 d.c.mn, 3), (b4, #[.slice (some ⟨b1, 0, none⟩) (N + 2) (N + 2), .slice (some ⟨b2, 0, none⟩) N N, .slice (some ⟨b3, 0, none⟩) 2 2], 79), (b5, arr .i64 d.cr, 3), (b6, #[.pointer (some ⟨b4, 0, none⟩), .slice (some ⟨b5, 0, none⟩) N N, .int .i64 d.q], 45), (b8, #[.int .i64 (N : Int), .int .i64 q, .slice u0 ((d.pl 0).length) uc0, .slice u1 ((d.pl 1).length) uc1], 85), (b10, #[.int .u8 kd9, .int .i64 ii9, .int .i64 nn9], 89)] ++ (SU ++ Sw15)) wd40 := hI58
                refine seq_end ?_
                clear ac287 hf318 ac288 hf319 ac289 hf320 wd39 hI57 hI58
                refine block_normal ?_
                refine then_normal ?_
                refine seq_start (l := [0, 1]) rfl ?_
                refine seq_one (op_val (v := .int .i64 ((m + 1 : Nat) : Int)) hf321 rfl rfl rfl rfl rfl rfl (r_add (c := ((m + 1 : Nat) : Int)) rfl rfl (wrap_i64 (by have := of_decide_eq_true c253_12; have := Ch.lst_le d.c 1; omega) (by have := of_decide_eq_true c253_12; have := Ch.lst_le d.c 1; omega))) fun ac291 hf322 => ?_)
                refine seq_one (op_val (v := .int .i64 ((m + 1 : Nat) : Int)) hf322 rfl rfl rfl rfl rfl rfl (r_move rfl) fun ac292 hf323 => ?_)
                refine seq_end ?_
                clear ac290 hf321 ac291 hf322
                refine then_normal ?_
                exact ⟨(m + 1, (ws.set m (-1)), Sw15), (hf323.cons 0 rfl (hf323.cons 1 rfl (hf323.cons 2 rfl (hf323.cons 7 rfl (hf323.cons 8 rfl (hf323.cons 9 rfl (hf323.cons 10 rfl (hf323.cons 12 rfl (hf323.cons 13 rfl (hf323.cons 14 rfl (hf323.cons 15 rfl (hf323.cons 16 rfl (hf323.cons 17 rfl (hf323.cons 18 rfl (hf323.cons 19 rfl (hf323.cons 20 rfl (hf323.cons 21 rfl (hf323.cons 22 rfl (hf323.cons 23 rfl (hf323.cons 24 rfl (hf323.cons 25 rfl (hf323.cons 32 rfl (hf323.cons 33 rfl (hf323.cons 34 rfl (hf323.cons 35 rfl (hf323.cons 36 rfl (hf323.cons 37 rfl (hf323.cons 38 rfl (hf323.cons 39 rfl (hf323.cons 40 rfl (hf323.cons 41 rfl (hf323.cons 42 rfl (hf323.cons 43 rfl (hf323.cons 44 rfl (hf323.cons 45 rfl (hf323.cons 46 rfl (hf323.cons 47 rfl (hf323.cons 48 rfl (hf323.cons 49 rfl (hf323.cons 50 rfl (hf323.cons 51 rfl (hf323.cons 58 rfl (hf323.cons 59 rfl (hf323.cons 60 rfl (hf323.cons 61 rfl (hf323.cons 62 rfl (hf323.cons 63 rfl (hf323.cons 64 rfl (hf323.cons 65 rfl (hf323.cons 66 rfl (hf323.cons 67 rfl (hf323.cons 68 rfl (hf323.cons 69 rfl (hf323.cons 70 rfl (hf323.cons 72 rfl (hf323.cons 73 rfl (hf323.cons 74 rfl (hf323.cons 75 rfl (hf323.cons 76 rfl (hf323.cons 77 rfl (hf323.cons 78 rfl (hf323.cons 79 rfl (hf323.cons 172 rfl (hf323.cons 173 rfl (hf323.cons 174 rfl (hf323.cons 175 rfl (hf323.cons 176 rfl (hf323.cons 177 rfl (hf323.cons 178 rfl (hf323.cons 179 rfl (hf323.cons 180 rfl (hf323.cons 181 rfl (hf323.cons 182 rfl (hf323.cons 183 rfl (hf323.cons 184 rfl (hf323.cons 185 rfl (hf323.cons 186 rfl (hf323.cons 187 rfl (hf323.cons 188 rfl (hf323.cons 189 rfl (hf323.cons 190 rfl (hf323.cons 191 rfl (hf323.cons 192 rfl (hf323.cons 193 rfl (hf323.cons 194 rfl (hf323.cons 195 rfl (hf323.cons 196 rfl (hf323.cons 197 rfl (hf323.cons 198 rfl (hf323.cons 199 rfl (hf323.cons 200 rfl (hf323.cons 201 rfl (hf323.cons 202 rfl (hf323.cons 203 rfl (hf323.cons 204 rfl (hf323.cons 205 rfl (hf323.cons 206 rfl (hf323.cons 207 rfl (hf323.cons 208 rfl (hf323.cons 209 rfl (hf323.cons 210 rfl (hf323.cons 211 rfl (hf323.cons 212 rfl (hf323.cons 213 rfl (hf323.cons 214 rfl (hf323.cons 215 rfl (hf323.cons 216 rfl (hf323.cons 217 rfl (hf323.cons 218 rfl (hf323.cons 241 rfl (hf323.cons 242 rfl (hf323.cons 244 rfl (hf323.cons 250 rfl (hf323.cons 251 rfl (hf323.cons 252 rfl hf323.nil))))))))))))))))))))))))))))))))))))))))))))))))))))))))))))))))))))))))))))))))))))))))))))))))))))))))))))))))))), ⟨hI59, ⟨(by have := of_decide_eq_true c253_12; omega), List.length_set.trans hx4.2.1, hsw15, hzw15⟩⟩, (by have := of_decide_eq_true c253_12; show (d.c.lst 1).length - (m + 1) < (d.c.lst 1).length - m; omega)⟩
              · have hf324 := hf315.know 253 (u := .bool false) rfl (congrArg Value.bool c253_12)
                refine wp_exit ?_
                refine then_exit ?_
                refine then_exit ?_
                refine block_here ?_
                refine block_normal ?_
                refine then_normal ?_
                refine seq_start (l := [0, 1]) rfl ?_
                refine seq_one (op_val (v := .int .i64 ((i + 1 : Nat) : Int)) hf324 rfl rfl rfl rfl rfl rfl (r_add (c := ((i + 1 : Nat) : Int)) rfl rfl (wrap_i64 (by have := of_decide_eq_false c70_2; have := of_decide_eq_true c75_3; omega) (by have := of_decide_eq_false c70_2; have := of_decide_eq_true c75_3; omega))) fun ac293 hf325 => ?_)
                refine seq_one (op_val (v := .int .i64 ((i + 1 : Nat) : Int)) hf325 rfl rfl rfl rfl rfl rfl (r_move rfl) fun ac294 hf326 => ?_)
                refine seq_end ?_
                clear hf315 ac285 hf324 ac293 hf325
                refine then_normal ?_
                have hI60 : Inv w ([(b1, arr .i64 d.c.lk, 103), (b2, arr .i64 d.c.of, 3), (b3, arr .i64 d.c.mn, 3), (b4, #[.slice (some ⟨b1, 0, none⟩) (N + 2) (N + 2), .slice (some ⟨b2, 0, none⟩) N N, .slice (some ⟨b3, 0, none⟩) 2 2], 79), (b5, arr .i64 d.cr, 3), (b6, #[.pointer (some ⟨b4, 0, none⟩), .slice (some ⟨b5, 0, none⟩) N N, .int .i64 d.q], 45), (b8, #[.int .i64 (N : Int), .int .i64 q, .slice u0 ((d.pl 0).length) uc0, .slice u1 ((d.pl 1).length) uc1], 85), (b10, #[.int .u8 kd9, .int .i64 ii9, .int .i64 nn9], 89)] ++ SU) _ := Inv.drop (A := ([(b1, arr .i64 d.c.lk, 103), (b2, arr .i64 d.c.of, 3), (b3, arr .i64 d.c.mn, 3), (b4, #[.slice (some ⟨b1, 0, none⟩) (N + 2) (N + 2), .slice (some ⟨b2, 0, none⟩) N N, .slice (some ⟨b3, 0, none⟩) 2 2], 79), (b5, arr .i64 d.cr, 3), (b6, #[.pointer (some ⟨b4, 0, none⟩), .slice (some ⟨b5, 0, none⟩) N N, .int .i64 d.q], 45), (b8, #[.int .i64 (N : Int), .int .i64 q, .slice u0 ((d.pl 0).length) uc0, .slice u1 ((d.pl 1).length) uc1], 85), (b10, #[.int .u8 kd9, .int .i64 ii9, .int .i64 nn9], 89)] ++ SU)) (B := SW) hI57 hx4.2.2.2
                exact ⟨(i + 1, d, u0, uc0, u1, uc1, SU), (hf326.cons 0 rfl (hf326.cons 1 rfl (hf326.cons 2 rfl (hf326.cons 7 rfl (hf326.cons 8 rfl (hf326.cons 9 rfl (hf326.cons 10 rfl (hf326.cons 32 rfl (hf326.cons 33 rfl (hf326.cons 34 rfl (hf326.cons 35 rfl (hf326.cons 36 rfl (hf326.cons 37 rfl (hf326.cons 38 rfl (hf326.cons 39 rfl (hf326.cons 40 rfl (hf326.cons 41 rfl (hf326.cons 42 rfl (hf326.cons 43 rfl (hf326.cons 44 rfl (hf326.cons 45 rfl (hf326.cons 46 rfl (hf326.cons 47 rfl (hf326.cons 48 rfl (hf326.cons 49 rfl (hf326.cons 50 rfl (hf326.cons 51 rfl (hf326.cons 58 rfl (hf326.cons 59 rfl (hf326.cons 60 rfl (hf326.cons 61 rfl (hf326.cons 62 rfl (hf326.cons 63 rfl (hf326.cons 64 rfl (hf326.cons 65 rfl (hf326.cons 66 rfl (hf326.cons 67 rfl (hf326.cons 68 rfl (hf326.cons 69 rfl (hf326.cons 70 rfl (hf326.cons 72 rfl (hf326.cons 73 rfl (hf326.cons 74 rfl hf326.nil))))))))))))))))))))))))))))))))))))))))))), ⟨(Inv.keep (A := [(b1, arr .i64 d.c.lk, 103), (b2, arr .i64 d.c.of, 3), (b3, arr .i64 d.c.mn, 3), (b4, #[.slice (some ⟨b1, 0, none⟩) (N + 2) (N + 2), .slice (some ⟨b2, 0, none⟩) N N, .slice (some ⟨b3, 0, none⟩) 2 2], 79), (b5, arr .i64 d.cr, 3), (b6, #[.pointer (some ⟨b4, 0, none⟩), .slice (some ⟨b5, 0, none⟩) N N, .int .i64 d.q], 45), (b8, #[.int .i64 (N : Int), .int .i64 q, .slice u0 ((d.pl 0).length) uc0, .slice u1 ((d.pl 1).length) uc1], 85)]) (N := [(b10, #[.int .u8 kd9, .int .i64 ii9, .int .i64 nn9], 89)]) (T := SU) hI60 (fresh_keys (ks := [b10]) rfl (fk_cons hb10 fk_nil))), ⟨(by have := of_decide_eq_true c75_3; omega), hj40⟩⟩, (by have := of_decide_eq_true c75_3; show L - (i + 1) < L - i; omega)⟩
      · have hf327 := hf62.know 75 (u := .bool false) rfl (congrArg Value.bool c75_3)
        refine wp_exit ?_
        refine then_exit ?_
        refine then_exit ?_
        refine block_here ?_
        refine then_normal ?_
        refine code_seq ?_
        refine seq_start (l := [0, 1]) rfl ?_
        refine seq_one (op_pure hf327 rfl rfl rfl rfl ca_23 awake17_pur hI11 fun ac295 wd41 hI61 hf328 => ?_)
        refine seq_one (op_val (v := .bool true) hf328 rfl rfl rfl rfl rfl rfl (r_assign rfl) fun ac296 hf329 => ?_)
        refine seq_end ?_
        clear hf62 ac58 wd7 hI11 hf327 ac295 hf328
        refine then_normal ?_
        refine wp_ret ?_
        refine post1 rfl hf329 rfl ⟨?_, hI61.done (fk_app (fresh_keys (ks := [b1, b2, b3, b4, b5, b6, b8]) rfl (fk_cons hb1 (fk_cons hb2 (fk_cons hb3 (fk_cons hb4 (fk_cons hb5 (fk_cons hb6 (fk_cons hb8 fk_nil)))))))) hx1.2.2.2.2)⟩
        rfl
theorem drrTells_walk {p : Option Addr} {L cap : Nat} {rows : List (List Value)} (hl : rows.length = L) (hc : L ≤ cap) (ho : ∀ row ∈ rows, Oks opKinds row) {n q : Int} {w : World} (hr : Rows_ w p 3 rows) : Calls Try.prog 12 [.int .i64 n, .int .i64 q, .slice p L cap].toArray w fun e w' => e = .returned (.bool true) ∧ Inv w [] w' := by
  by_cases h : n < 1 ∨ n > 4096 ∨ q < 64 ∨ q > 1048576
  · exact drrTells0_walk hl hc ho h hr
  · obtain ⟨N, rfl⟩ := Int.eq_ofNat_of_zero_le (show 0 ≤ n by omega)
    exact drrTells1_walk hl hc ho (by omega) (by omega) (by omega) hr
end Go.Proofs.Ytjelaoblpchmmaa
