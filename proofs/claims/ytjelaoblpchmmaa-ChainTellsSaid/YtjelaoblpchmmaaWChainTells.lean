/-
  The walk of ChainTells.
-/
import Derived.Test.YtjelaoblpchmmaaRef05f
namespace Go.Proofs.Ytjelaoblpchmmaa
set_option linter.unusedVariables false
set_option linter.unusedSimpArgs false
set_option maxRecDepth 100000
open Go.RowKit
set_option maxHeartbeats 8000000 in
theorem chainTells0_walk {p : Option Addr} {L cap : Nat} {rows : List (List Value)} (hl : rows.length = L) (hc : L ≤ cap) (ho : ∀ row ∈ rows, Oks opKinds row) {k n k2 n2 : Int} (hbad : k < 1 ∨ k > 64 ∨ n < 1 ∨ n > 65536) (ek : (if 65 < k then 65 else k) = k2) (en : (if 65537 < n then 65537 else n) = n2) (hbad2 : k2 < 1 ∨ k2 > 64 ∨ n2 < 1 ∨ n2 > 65536) {w : World} (hr : Rows_ w p 3 rows) : Calls Try.prog 6 [.int .i64 k, .int .i64 n, .slice p L cap].toArray w fun e w' => e = .returned (.bool true) ∧ Inv w [] w' := by
  have hI1 := Inv.start w
  refine enter (n := 234) Try.func6 rfl rfl rfl ?_
  intro ac1 hf1
  refine code_seq ?_
  refine seq_start (l := [0]) rfl ?_
  refine seq_one (op_val (v := .bool false) hf1 rfl rfl rfl rfl rfl rfl (r_assign rfl) fun ac2 hf2 => ?_)
  refine seq_end ?_
  clear ac1 hf1
  refine then_normal ?_
  refine code_seq ?_
  refine seq_start (l := [0, 1, 2, 3, 4, 5, 6, 7]) rfl ?_
  refine seq_one (op_val (v := .int .i64 k) hf2 rfl rfl rfl rfl rfl rfl (r_move rfl) fun ac3 hf3 => ?_)
  refine seq_one (op_val (v := .int .i64 n) hf3 rfl rfl rfl rfl rfl rfl (r_move rfl) fun ac4 hf4 => ?_)
  refine seq_one (op_pure hf4 rfl rfl rfl rfl ca_34 (new_bad hbad) hI1 fun ac5 wd1 hI2 hf5 => ?_)
  refine seq_one (op_val (v := .tuple #[.pointer none, .int .i64 2]) hf5 rfl rfl rfl rfl rfl rfl (r_move rfl) fun ac6 hf6 => ?_)
  refine seq_one (op_val (v := .pointer none) hf6 rfl rfl rfl rfl rfl rfl (r_extract rfl rfl) fun ac7 hf7 => ?_)
  refine seq_one (op_val (v := .int .i64 2) hf7 rfl rfl rfl rfl rfl rfl (r_extract rfl rfl) fun ac8 hf8 => ?_)
  refine seq_one (op_val (v := .pointer none) hf8 rfl rfl rfl rfl rfl rfl (r_assign rfl) fun ac9 hf9 => ?_)
  refine seq_one (op_val (v := .int .i64 2) hf9 rfl rfl rfl rfl rfl rfl (r_assign rfl) fun ac10 hf10 => ?_)
  refine seq_end ?_
  clear ac2 hf2 ac3 hf3 ac4 hI1 hf4 ac5 hf5 ac6 hf6 ac7 hf7 ac8 hf8 ac9 hf9
  refine then_normal ?_
  refine code_seq ?_
  refine seq_start (l := [0, 1, 2, 3, 4, 5, 6, 7, 8, 9, 10]) rfl ?_
  refine seq_one (op_val (v := .int .i64 k) hf10 rfl rfl rfl rfl rfl rfl (r_move rfl) fun ac11 hf11 => ?_)
  refine seq_one (op_val (v := .int .i64 k2) hf11 rfl rfl rfl rfl rfl rfl (r_minC (c := k2) rfl rfl ek) fun ac12 hf12 => ?_)
  refine seq_one (op_val (v := .int .i64 n) hf12 rfl rfl rfl rfl rfl rfl (r_move rfl) fun ac13 hf13 => ?_)
  refine seq_one (op_val (v := .int .i64 n2) hf13 rfl rfl rfl rfl rfl rfl (r_minC (c := n2) rfl rfl en) fun ac14 hf14 => ?_)
  refine seq_one (op_pureW hf14 rfl rfl rfl rfl ca_35 (rnew5_bad hbad2 _) hI2 fun ac15 wd2 hI3 hf15 => ?_)
  refine seq_one (op_val (v := .tuple #[.agg #[.int .i64 0, .slice none 0 0], .int .i64 2]) hf15 rfl rfl rfl rfl rfl rfl (r_move rfl) fun ac16 hf16 => ?_)
  refine seq_one (op_val (v := .agg #[.int .i64 0, .slice none 0 0]) hf16 rfl rfl rfl rfl rfl rfl (r_extract rfl rfl) fun ac17 hf17 => ?_)
  refine seq_one (op_val (v := .int .i64 2) hf17 rfl rfl rfl rfl rfl rfl (r_extract rfl rfl) fun ac18 hf18 => ?_)
  refine seq_one (op_alloc hf18 rfl rfl rfl ze_63 hI3 fun ac19 b1 wd3 hb1 hI4 hf19 => ?_)
  have hI5 : Inv w [(b1, #[.int .i64 0, .slice none 0 0], 63)] wd3 := hI4
  refine seq_one (op_storeW (cells := #[.int .i64 0, .slice none 0 0]) 0 hf19 rfl rfl rfl rfl rfl sz_63 rfl rfl hI5 rfl rfl fun wd4 hI6 => ?_)
  refine seq_one (op_val (v := .int .i64 2) hf19 rfl rfl rfl rfl rfl rfl (r_assign rfl) fun ac20 hf20 => ?_)
  refine seq_end ?_
  clear ac10 hf10 ac11 hf11 ac12 hf12 ac13 hf13 ac14 wd1 hI2 hf14 ac15 hf15 ac16 hf16 ac17 hf17 ac18 wd2 hI3 hf18 hI4 wd3 hI5 ac19 hf19
  refine then_normal ?_
  refine code_seq ?_
  refine code_seq ?_
  refine seq_start (l := [0, 1, 2, 3, 4, 5, 6, 7, 8, 9, 10]) rfl ?_
  refine seq_one (op_val (v := .int .i64 2) hf20 rfl rfl rfl rfl rfl rfl (r_move rfl) fun ac21 hf21 => ?_)
  refine seq_one (op_val (v := .int .i64 2) hf21 rfl rfl rfl rfl rfl rfl (r_move rfl) fun ac22 hf22 => ?_)
  refine seq_one (op_val (v := .bool false) hf22 rfl rfl rfl rfl rfl rfl (r_neqC rfl rfl (by decide)) fun ac23 hf23 => ?_)
  refine seq_one (op_val (v := .bool false) hf23 rfl rfl rfl rfl rfl rfl (r_move rfl) fun ac24 hf24 => ?_)
  refine seq_one (op_val (v := .int .i64 2) hf24 rfl rfl rfl rfl rfl rfl (r_move rfl) fun ac25 hf25 => ?_)
  refine seq_one (op_val (v := .bool true) hf25 rfl rfl rfl rfl rfl rfl (r_neqC rfl rfl (by decide)) fun ac26 hf26 => ?_)
  refine seq_one (op_val (v := .bool true) hf26 rfl rfl rfl rfl rfl rfl (r_move rfl) fun ac27 hf27 => ?_)
  refine seq_one (op_val (v := .pointer none) hf27 rfl rfl rfl rfl rfl rfl (r_move rfl) fun ac28 hf28 => ?_)
  refine seq_one (op_val (v := .bool false) hf28 rfl rfl rfl rfl rfl rfl (r_neNil up_41 rfl rfl rfl) fun ac29 hf29 => ?_)
  refine seq_one (op_val (v := .bool false) hf29 rfl rfl rfl rfl rfl rfl (r_pickT rfl rfl) fun ac30 hf30 => ?_)
  refine seq_one (op_val (v := .bool false) hf30 rfl rfl rfl rfl rfl rfl (r_pickF rfl rfl) fun ac31 hf31 => ?_)
  refine seq_end ?_
  clear ac20 hf20 ac21 hf21 ac22 hf22 ac23 hf23 ac24 hf24 ac25 hf25 ac26 hf26 ac27 hf27 ac28 hf28 ac29 hf29 ac30 hf30
  refine then_normal ?_
  refine code_if_false hf31 rfl ?_
  refine wp_skip ?_
  refine then_normal ?_
  refine code_seq ?_
  refine code_seq ?_
  refine seq_start (l := [0, 1, 2, 3, 4, 5, 6, 7, 8, 9, 10]) rfl ?_
  refine seq_one (op_val (v := .int .i64 2) hf31 rfl rfl rfl rfl rfl rfl (r_move rfl) fun ac32 hf32 => ?_)
  refine seq_one (op_val (v := .bool true) hf32 rfl rfl rfl rfl rfl rfl (r_neqC rfl rfl (by decide)) fun ac33 hf33 => ?_)
  refine seq_one (op_val (v := .bool true) hf33 rfl rfl rfl rfl rfl rfl (r_move rfl) fun ac34 hf34 => ?_)
  refine seq_one (op_skip hf34 rfl rfl rfl rfl fun ac35 hf35 => ?_)
  refine seq_one (op_skip hf35 rfl rfl rfl rfl fun ac36 hf36 => ?_)
  refine seq_one (op_val (v := .bool true) hf36 rfl rfl rfl rfl rfl rfl (r_pickT rfl rfl) fun ac37 hf37 => ?_)
  refine seq_one (op_val (v := .bool true) hf37 rfl rfl rfl rfl rfl rfl (r_move rfl) fun ac38 hf38 => ?_)
  refine seq_one (op_skip hf38 rfl rfl rfl rfl fun ac39 hf39 => ?_)
  refine seq_one (op_skip hf39 rfl rfl rfl rfl fun ac40 hf40 => ?_)
  refine seq_one (op_skip hf40 rfl rfl rfl rfl fun ac41 hf41 => ?_)
  refine seq_one (op_val (v := .bool true) hf41 rfl rfl rfl rfl rfl rfl (r_pickT rfl rfl) fun ac42 hf42 => ?_)
  refine seq_end ?_
  clear ac31 hf31 ac32 hf32 ac33 hf33 ac34 hf34 ac35 hf35 ac36 hf36 ac37 hf37 ac38 hf38 ac39 hf39 ac40 hf40 ac41 hf41
  refine then_normal ?_
  refine code_if_true hf42 rfl ?_
  refine code_seq ?_
  refine seq_start (l := [0, 1]) rfl ?_
  refine seq_one (op_pure hf42 rfl rfl rfl rfl ca_33 awake5_pur hI6 fun ac43 wd5 hI7 hf43 => ?_)
  refine seq_one (op_val (v := .bool true) hf43 rfl rfl rfl rfl rfl rfl (r_assign rfl) fun ac44 hf44 => ?_)
  refine seq_end ?_
  clear ac42 wd4 hI6 hf42 ac43 hf43
  refine then_normal ?_
  refine wp_ret ?_
  refine then_ret ?_
  refine post1 rfl hf44 rfl ⟨?_, hI7.done (fresh_keys (ks := [b1]) rfl (fk_cons hb1 fk_nil))⟩
  rfl
set_option maxHeartbeats 8000000 in
theorem chainTells1_walk {p : Option Addr} {L cap : Nat} {rows : List (List Value)} (hl : rows.length = L) (hc : L ≤ cap) (ho : ∀ row ∈ rows, Oks opKinds row) {N K : Nat} (hN : 1 ≤ N ∧ N ≤ 65536) (hK : 1 ≤ K ∧ K ≤ 64) {w : World} (hr : Rows_ w p 3 rows) : Calls Try.prog 6 [.int .i64 (K : Int), .int .i64 (N : Int), .slice p L cap].toArray w fun e w' => e = .returned (.bool true) ∧ Inv w [] w' := by
  have hI1 := Inv.start w
  refine enter (n := 234) Try.func6 rfl rfl rfl ?_
  intro ac1 hf1
  refine code_seq ?_
  refine seq_start (l := [0]) rfl ?_
  refine seq_one (op_val (v := .bool false) hf1 rfl rfl rfl rfl rfl rfl (r_assign rfl) fun ac2 hf2 => ?_)
  refine seq_end ?_
  clear ac1 hf1
  refine then_normal ?_
  refine code_seq ?_
  refine seq_start (l := [0, 1, 2, 3, 4, 5, 6, 7]) rfl ?_
  refine seq_one (op_val (v := .int .i64 (K : Int)) hf2 rfl rfl rfl rfl rfl rfl (r_move rfl) fun ac3 hf3 => ?_)
  refine seq_one (op_val (v := .int .i64 (N : Int)) hf3 rfl rfl rfl rfl rfl rfl (r_move rfl) fun ac4 hf4 => ?_)
  refine seq_one (op_call (R := fun v w' => ∃ lb ob mb cb, Array.size (World.heap w) ≤ lb ∧ Array.size (World.heap w) ≤ ob ∧ Array.size (World.heap w) ≤ mb ∧ Array.size (World.heap w) ≤ cb ∧ v = .tuple #[.pointer (some ⟨cb, 0, none⟩), .int .i64 0] ∧ Inv w [(lb, arr .i64 (Ch.new N K hN hK).lk, 103), (ob, arr .i64 (Ch.new N K hN hK).of, 3), (mb, arr .i64 (Ch.new N K hN hK).mn, 3), (cb, #[.slice (some ⟨lb, 0, none⟩) (N + K) (N + K), .slice (some ⟨ob, 0, none⟩) N N, .slice (some ⟨mb, 0, none⟩) K K], 79)] w') hf4 rfl rfl rfl rfl ca_34 ((new_walk (N := N) (K := K) hN hK _).mono fun e w' ⟨lb, ob, mb, cb, h1, h2, h3, h4, h5, h6⟩ => ⟨_, h5, lb, ob, mb, cb, h1, h2, h3, h4, rfl, h6⟩) fun ac5 v wd1 hR hf5 => ?_)
  obtain ⟨b1, b2, b3, b4, hqb1, hqb2, hqb3, hqb4, rfl, hw4⟩ := hR
  have hb1 := Nat.le_trans hI1.size hqb1
  have hb2 := Nat.le_trans hI1.size hqb2
  have hb3 := Nat.le_trans hI1.size hqb3
  have hb4 := Nat.le_trans hI1.size hqb4
  have hI2 : Inv w [(b1, arr .i64 (Ch.new N K hN hK).lk, 103), (b2, arr .i64 (Ch.new N K hN hK).of, 3), (b3, arr .i64 (Ch.new N K hN hK).mn, 3), (b4, #[.slice (some ⟨b1, 0, none⟩) (N + K) (N + K), .slice (some ⟨b2, 0, none⟩) N N, .slice (some ⟨b3, 0, none⟩) K K], 79)] _ := hI1.callN hw4 (fk4 hqb1 hqb2 hqb3 hqb4)
  obtain ⟨c5, ec5⟩ : ∃ c : Ch N K, c = (Ch.new N K hN hK) := ⟨_, rfl⟩
  rw [← ec5] at hI2
  refine seq_one (op_val (v := .tuple #[.pointer (some ⟨b4, 0, none⟩), .int .i64 0]) hf5 rfl rfl rfl rfl rfl rfl (r_move rfl) fun ac6 hf6 => ?_)
  refine seq_one (op_val (v := .pointer (some ⟨b4, 0, none⟩)) hf6 rfl rfl rfl rfl rfl rfl (r_extract rfl rfl) fun ac7 hf7 => ?_)
  refine seq_one (op_val (v := .int .i64 0) hf7 rfl rfl rfl rfl rfl rfl (r_extract rfl rfl) fun ac8 hf8 => ?_)
  refine seq_one (op_val (v := .pointer (some ⟨b4, 0, none⟩)) hf8 rfl rfl rfl rfl rfl rfl (r_assign rfl) fun ac9 hf9 => ?_)
  refine seq_one (op_val (v := .int .i64 0) hf9 rfl rfl rfl rfl rfl rfl (r_assign rfl) fun ac10 hf10 => ?_)
  refine seq_end ?_
  clear ac2 hf2 ac3 hf3 ac4 hf4 hI1 hw4 hqb1 hqb2 hqb3 hqb4 ac5 hf5 ac6 hf6 ac7 hf7 ac8 hf8 ac9 hf9
  refine then_normal ?_
  refine code_seq ?_
  refine seq_start (l := [0, 1, 2, 3, 4, 5, 6, 7, 8, 9, 10]) rfl ?_
  refine seq_one (op_val (v := .int .i64 (K : Int)) hf10 rfl rfl rfl rfl rfl rfl (r_move rfl) fun ac11 hf11 => ?_)
  refine seq_one (op_val (v := .int .i64 (K : Int)) hf11 rfl rfl rfl rfl rfl rfl (r_minC (c := (K : Int)) rfl rfl (by split <;> omega)) fun ac12 hf12 => ?_)
  refine seq_one (op_val (v := .int .i64 (N : Int)) hf12 rfl rfl rfl rfl rfl rfl (r_move rfl) fun ac13 hf13 => ?_)
  refine seq_one (op_val (v := .int .i64 (N : Int)) hf13 rfl rfl rfl rfl rfl rfl (r_minC (c := (N : Int)) rfl rfl (by split <;> omega)) fun ac14 hf14 => ?_)
  refine seq_one (op_call (R := fun v w' => ∃ S P2 C2 L2, v = .tuple #[.agg #[.int .i64 (N : Int), .slice P2 (List.length L2) C2], .int .i64 0] ∧ SO S P2 C2 L2 ∧ (L2.map fun (e : En) => e.2.2) = List.replicate K [] ∧ Inv _ S w' ∧ ∀ x ∈ S, Array.size (World.heap _) ≤ x.1) hf14 rfl rfl rfl rfl ca_35 ((rnew5_walk (N := N) (K := K) hN hK _).mono fun _ _ ⟨S, P2, C2, L2, he, h1, h2, h3, h4⟩ => ⟨_, he, S, P2, C2, L2, rfl, h1, h2, h3, h4⟩) fun ac15 v wd2 hR hf15 => ?_)
  obtain ⟨Sq6, z6, cz6, L6, rfl, ho6, hem6, hw6, hz6⟩ := hR
  have hy6 := fk_le hI2.size hz6
  have hI3 : Inv w ([(b1, arr .i64 c5.lk, 103), (b2, arr .i64 c5.of, 3), (b3, arr .i64 c5.mn, 3), (b4, #[.slice (some ⟨b1, 0, none⟩) (N + K) (N + K), .slice (some ⟨b2, 0, none⟩) N N, .slice (some ⟨b3, 0, none⟩) K K], 79)] ++ Sq6) _ := hI2.callN hw6 hz6
  have hV6 := VL.empty (w0 := w) ho6 hem6
  have hlf6 : Ch.Lof c5 L6 := by rw [ec5]; exact Ch.new_lof hem6
  refine seq_one (op_val (v := .tuple #[.agg #[.int .i64 (N : Int), .slice z6 (List.length L6) cz6], .int .i64 0]) hf15 rfl rfl rfl rfl rfl rfl (r_move rfl) fun ac16 hf16 => ?_)
  refine seq_one (op_val (v := .agg #[.int .i64 (N : Int), .slice z6 (List.length L6) cz6]) hf16 rfl rfl rfl rfl rfl rfl (r_extract rfl rfl) fun ac17 hf17 => ?_)
  refine seq_one (op_val (v := .int .i64 0) hf17 rfl rfl rfl rfl rfl rfl (r_extract rfl rfl) fun ac18 hf18 => ?_)
  refine seq_one (op_alloc hf18 rfl rfl rfl ze_63 hI3 fun ac19 b7 wd3 hb7 hI4 hf19 => ?_)
  have hI5 : Inv w ([(b1, arr .i64 c5.lk, 103), (b2, arr .i64 c5.of, 3), (b3, arr .i64 c5.mn, 3), (b4, #[.slice (some ⟨b1, 0, none⟩) (N + K) (N + K), .slice (some ⟨b2, 0, none⟩) N N, .slice (some ⟨b3, 0, none⟩) K K], 79), (b7, #[.int .i64 0, .slice none 0 0], 63)] ++ Sq6) wd3 := Inv.tail (A := [(b1, arr .i64 c5.lk, 103), (b2, arr .i64 c5.of, 3), (b3, arr .i64 c5.mn, 3), (b4, #[.slice (some ⟨b1, 0, none⟩) (N + K) (N + K), .slice (some ⟨b2, 0, none⟩) N N, .slice (some ⟨b3, 0, none⟩) K K], 79)]) (T := Sq6) (N := [(b7, #[.int .i64 0, .slice none 0 0], 63)]) hI4
  refine seq_one (op_storeW (cells := #[.int .i64 (N : Int), .slice z6 (List.length L6) cz6]) 4 hf19 rfl rfl rfl rfl rfl sz_63 rfl rfl hI5 rfl rfl fun wd4 hI6 => ?_)
  have hI7 : Inv w ([(b1, arr .i64 c5.lk, 103), (b2, arr .i64 c5.of, 3), (b3, arr .i64 c5.mn, 3), (b4, #[.slice (some ⟨b1, 0, none⟩) (N + K) (N + K), .slice (some ⟨b2, 0, none⟩) N N, .slice (some ⟨b3, 0, none⟩) K K], 79), (b7, #[.int .i64 (N : Int), .slice z6 (List.length L6) cz6], 63)] ++ Sq6) wd4 := hI6
  refine seq_one (op_val (v := .int .i64 0) hf19 rfl rfl rfl rfl rfl rfl (r_assign rfl) fun ac20 hf20 => ?_)
  refine seq_end ?_
  clear ac10 hf10 ac11 hf11 ac12 hf12 ac13 hf13 ac14 wd1 hf14 hI2 hw6 hz6 ac15 hf15 ac16 hf16 ac17 hf17 ac18 wd2 hI3 hf18 hI4 wd3 hI5 hI6 ac19 hf19
  refine then_normal ?_
  refine code_seq ?_
  refine code_seq ?_
  refine seq_start (l := [0, 1, 2, 3, 4, 5, 6, 7, 8, 9, 10]) rfl ?_
  refine seq_one (op_val (v := .int .i64 0) hf20 rfl rfl rfl rfl rfl rfl (r_move rfl) fun ac21 hf21 => ?_)
  refine seq_one (op_val (v := .int .i64 0) hf21 rfl rfl rfl rfl rfl rfl (r_move rfl) fun ac22 hf22 => ?_)
  refine seq_one (op_val (v := .bool false) hf22 rfl rfl rfl rfl rfl rfl (r_neqC rfl rfl (by decide)) fun ac23 hf23 => ?_)
  refine seq_one (op_val (v := .bool false) hf23 rfl rfl rfl rfl rfl rfl (r_move rfl) fun ac24 hf24 => ?_)
  refine seq_one (op_val (v := .int .i64 0) hf24 rfl rfl rfl rfl rfl rfl (r_move rfl) fun ac25 hf25 => ?_)
  refine seq_one (op_val (v := .bool false) hf25 rfl rfl rfl rfl rfl rfl (r_neqC rfl rfl (by decide)) fun ac26 hf26 => ?_)
  refine seq_one (op_val (v := .bool false) hf26 rfl rfl rfl rfl rfl rfl (r_move rfl) fun ac27 hf27 => ?_)
  refine seq_one (op_skip hf27 rfl rfl rfl rfl fun ac28 hf28 => ?_)
  refine seq_one (op_skip hf28 rfl rfl rfl rfl fun ac29 hf29 => ?_)
  refine seq_one (op_val (v := .bool false) hf29 rfl rfl rfl rfl rfl rfl (r_pickF rfl rfl) fun ac30 hf30 => ?_)
  refine seq_one (op_val (v := .bool false) hf30 rfl rfl rfl rfl rfl rfl (r_pickF rfl rfl) fun ac31 hf31 => ?_)
  refine seq_end ?_
  clear ac20 hf20 ac21 hf21 ac22 hf22 ac23 hf23 ac24 hf24 ac25 hf25 ac26 hf26 ac27 hf27 ac28 hf28 ac29 hf29 ac30 hf30
  refine then_normal ?_
  refine code_if_false hf31 rfl ?_
  refine wp_skip ?_
  refine then_normal ?_
  refine code_seq ?_
  refine code_seq ?_
  refine seq_start (l := [0, 1, 2, 3, 4, 5, 6, 7, 8, 9, 10]) rfl ?_
  refine seq_one (op_val (v := .int .i64 0) hf31 rfl rfl rfl rfl rfl rfl (r_move rfl) fun ac32 hf32 => ?_)
  refine seq_one (op_val (v := .bool false) hf32 rfl rfl rfl rfl rfl rfl (r_neqC rfl rfl (by decide)) fun ac33 hf33 => ?_)
  refine seq_one (op_val (v := .bool false) hf33 rfl rfl rfl rfl rfl rfl (r_move rfl) fun ac34 hf34 => ?_)
  refine seq_one (op_val (v := .int .i64 (N : Int)) hf34 rfl rfl rfl rfl rfl rfl (r_move rfl) fun ac35 hf35 => ?_)
  refine seq_one (op_val (v := .bool (decide ((N : Int) > 64))) hf35 rfl rfl rfl rfl rfl rfl (r_gtr rfl rfl) fun ac36 hf36 => ?_)
  refine seq_one (op_val (v := .bool (decide ((N : Int) > 64))) hf36 rfl rfl rfl rfl rfl rfl (r_pickF rfl rfl) fun ac37 hf37 => ?_)
  refine seq_one (op_val (v := .bool (decide ((N : Int) > 64))) hf37 rfl rfl rfl rfl rfl rfl (r_move rfl) fun ac38 hf38 => ?_)
  rcases Bool.eq_false_or_eq_true (decide ((N : Int) > 64) : Bool) with g66_1 | g66_1
  · have hf39 := hf38.know 66 (u := .bool true) rfl (congrArg Value.bool g66_1)
    refine seq_one (op_skip hf39 rfl rfl rfl rfl fun ac39 hf40 => ?_)
    refine seq_one (op_skip hf40 rfl rfl rfl rfl fun ac40 hf41 => ?_)
    refine seq_one (op_skip hf41 rfl rfl rfl rfl fun ac41 hf42 => ?_)
    refine seq_one (op_val (v := .bool true) hf42 rfl rfl rfl rfl rfl rfl (r_pickT rfl rfl) fun ac42 hf43 => ?_)
    refine seq_end ?_
    clear ac31 hf31 ac32 hf32 ac33 hf33 ac34 hf34 ac35 hf35 ac36 hf36 ac37 hf37 hf38 ac38 hf39 ac39 hf40 ac40 hf41 ac41 hf42
    refine then_normal ?_
    refine code_if_true hf43 rfl ?_
    refine code_seq ?_
    refine seq_start (l := [0, 1]) rfl ?_
    refine seq_one (op_pure hf43 rfl rfl rfl rfl ca_33 awake5_pur hI7 fun ac43 wd5 hI8 hf44 => ?_)
    refine seq_one (op_val (v := .bool true) hf44 rfl rfl rfl rfl rfl rfl (r_assign rfl) fun ac44 hf45 => ?_)
    refine seq_end ?_
    clear ac42 wd4 hI7 hf43 ac43 hf44
    refine then_normal ?_
    refine wp_ret ?_
    refine then_ret ?_
    refine post1 rfl hf45 rfl ⟨?_, hI8.done (fk_app (fresh_keys (ks := [b1, b2, b3, b4, b7]) rfl (fk_cons hb1 (fk_cons hb2 (fk_cons hb3 (fk_cons hb4 (fk_cons hb7 fk_nil)))))) hy6)⟩
    rfl
  · have hf46 := hf38.know 66 (u := .bool false) rfl (congrArg Value.bool g66_1)
    refine seq_one (op_val (v := .slice p L cap) hf46 rfl rfl rfl rfl rfl rfl (r_move rfl) fun ac45 hf47 => ?_)
    refine seq_one (op_val (v := .int .i64 (L : Int)) hf47 rfl rfl rfl rfl rfl rfl (r_len sl_51 rfl) fun ac46 hf48 => ?_)
    refine seq_one (op_val (v := .bool (decide ((L : Int) > 60))) hf48 rfl rfl rfl rfl rfl rfl (r_gtr rfl rfl) fun ac47 hf49 => ?_)
    refine seq_one (op_val (v := .bool (decide ((L : Int) > 60))) hf49 rfl rfl rfl rfl rfl rfl (r_pickF rfl rfl) fun ac48 hf50 => ?_)
    refine seq_end ?_
    clear ac31 hf31 ac32 hf32 ac33 hf33 ac34 hf34 ac35 hf35 ac36 hf36 ac37 hf37 hf38 ac38 hf46 ac45 hf47 ac46 hf48 ac47 hf49
    refine then_normal ?_
    refine code_if hf50 rfl (fun c70_2 => ?_) (fun c70_2 => ?_)
    · have hf51 := hf50.know 70 (u := .bool true) rfl (congrArg Value.bool c70_2)
      refine code_seq ?_
      refine seq_start (l := [0, 1]) rfl ?_
      refine seq_one (op_pure hf51 rfl rfl rfl rfl ca_33 awake5_pur hI7 fun ac49 wd6 hI9 hf52 => ?_)
      refine seq_one (op_val (v := .bool true) hf52 rfl rfl rfl rfl rfl rfl (r_assign rfl) fun ac50 hf53 => ?_)
      refine seq_end ?_
      clear hf50 ac48 wd4 hI7 hf51 ac49 hf52
      refine then_normal ?_
      refine wp_ret ?_
      refine then_ret ?_
      refine post1 rfl hf53 rfl ⟨?_, hI9.done (fk_app (fresh_keys (ks := [b1, b2, b3, b4, b7]) rfl (fk_cons hb1 (fk_cons hb2 (fk_cons hb3 (fk_cons hb4 (fk_cons hb7 fk_nil)))))) hy6)⟩
      rfl
    · have hf54 := hf50.know 70 (u := .bool false) rfl (congrArg Value.bool c70_2)
      refine wp_skip ?_
      refine then_normal ?_
      refine code_seq ?_
      refine code_seq ?_
      refine seq_start (l := [0, 1, 2]) rfl ?_
      refine seq_one (op_val (v := .slice p L cap) hf54 rfl rfl rfl rfl rfl rfl (r_move rfl) fun ac51 hf55 => ?_)
      refine seq_one (op_val (v := .int .i64 (L : Int)) hf55 rfl rfl rfl rfl rfl rfl (r_len sl_51 rfl) fun ac52 hf56 => ?_)
      refine seq_one (op_val (v := .int .i64 0) hf56 rfl rfl rfl rfl rfl rfl (r_move rfl) fun ac53 hf57 => ?_)
      refine seq_end ?_
      clear hf50 ac48 hf54 ac51 hf55 ac52 hf56
      refine then_normal ?_
      refine wp_block ?_
      refine code_loop (α := Nat × (Ch N K) × (Option Addr) × Nat × (List En) × (List Blk)) (fun (x : Nat × (Ch N K) × (Option Addr) × Nat × (List En) × (List Blk)) => match x with | (i, c, P0, C0, LL, SS) => [(0, .int .i64 (K : Int)), (1, .int .i64 (N : Int)), (2, .slice p L cap), (7, .pointer (some ⟨b4, 0, none⟩)), (8, .int .i64 0), (9, .pointer (some ⟨b7, 0, none⟩)), (10, .int .i64 0), (35, .tuple #[.pointer (some ⟨b4, 0, none⟩), .int .i64 0]), (36, .int .i64 (K : Int)), (37, .int .i64 (N : Int)), (38, .tuple #[.pointer (some ⟨b4, 0, none⟩), .int .i64 0]), (39, .pointer (some ⟨b4, 0, none⟩)), (40, .int .i64 0), (41, .tuple #[.agg #[.int .i64 (N : Int), .slice z6 (List.length L6) cz6], .int .i64 0]), (42, .int .i64 (K : Int)), (43, .int .i64 (K : Int)), (44, .int .i64 (N : Int)), (45, .int .i64 (N : Int)), (46, .tuple #[.agg #[.int .i64 (N : Int), .slice z6 (List.length L6) cz6], .int .i64 0]), (47, .agg #[.int .i64 (N : Int), .slice z6 (List.length L6) cz6]), (48, .int .i64 0), (49, .int .i64 0), (50, .int .i64 0), (51, .bool false), (52, .bool false), (53, .int .i64 0), (54, .bool false), (55, .bool false), (58, .bool false), (59, .bool false), (60, .int .i64 0), (61, .bool false), (62, .bool false), (63, .int .i64 (N : Int)), (64, .bool (decide ((N : Int) > 64))), (65, .bool (decide ((N : Int) > 64))), (66, .bool false), (67, .slice p L cap), (68, .int .i64 (L : Int)), (69, .bool (decide ((L : Int) > 60))), (70, .bool false), (72, .slice p L cap), (73, .int .i64 (L : Int)), (74, .int .i64 (i : Int))]) (fun (x : Nat × (Ch N K) × (Option Addr) × Nat × (List En) × (List Blk)) => match x with | (i, c, P0, C0, LL, SS) => fun wL => Inv w ([(b1, arr .i64 c.lk, 103), (b2, arr .i64 c.of, 3), (b3, arr .i64 c.mn, 3), (b4, #[.slice (some ⟨b1, 0, none⟩) (N + K) (N + K), .slice (some ⟨b2, 0, none⟩) N N, .slice (some ⟨b3, 0, none⟩) K K], 79), (b7, #[.int .i64 (N : Int), .slice P0 (List.length LL) C0], 63)] ++ SS) wL ∧ (i ≤ L ∧ Ch.Lof c LL ∧ VL w SS P0 C0 LL ∧ ∀ x ∈ SS, w.heap.size ≤ x.1)) (fun (x : Nat × (Ch N K) × (Option Addr) × Nat × (List En) × (List Blk)) => match x with | (i, c, P0, C0, LL, SS) => L - i) (0, c5, z6, cz6, L6, Sq6) (hf57.cons 0 rfl (hf57.cons 1 rfl (hf57.cons 2 rfl (hf57.cons 7 rfl (hf57.cons 8 rfl (hf57.cons 9 rfl (hf57.cons 10 rfl (hf57.cons 35 rfl (hf57.cons 36 rfl (hf57.cons 37 rfl (hf57.cons 38 rfl (hf57.cons 39 rfl (hf57.cons 40 rfl (hf57.cons 41 rfl (hf57.cons 42 rfl (hf57.cons 43 rfl (hf57.cons 44 rfl (hf57.cons 45 rfl (hf57.cons 46 rfl (hf57.cons 47 rfl (hf57.cons 48 rfl (hf57.cons 49 rfl (hf57.cons 50 rfl (hf57.cons 51 rfl (hf57.cons 52 rfl (hf57.cons 53 rfl (hf57.cons 54 rfl (hf57.cons 55 rfl (hf57.cons 58 rfl (hf57.cons 59 rfl (hf57.cons 60 rfl (hf57.cons 61 rfl (hf57.cons 62 rfl (hf57.cons 63 rfl (hf57.cons 64 rfl (hf57.cons 65 rfl (hf57.cons 66 rfl (hf57.cons 67 rfl (hf57.cons 68 rfl (hf57.cons 69 rfl (hf57.cons 70 rfl (hf57.cons 72 rfl (hf57.cons 73 rfl (hf57.cons 74 rfl hf57.nil)))))))))))))))))))))))))))))))))))))))))))) ⟨hI7, ⟨Nat.zero_le _, hlf6, hV6, hy6⟩⟩ ?_
      intro ⟨i, c, P0, C0, LL, SS⟩ ac54 wd7 hf58 hL1
      obtain ⟨hI10, hx1⟩ := hL1
      dsimp only at hf58 hI10 hx1
      clear ac53 wd4 hf57 hI7
      refine code_seq ?_
      refine seq_start (l := [0]) rfl ?_
      refine seq_one (op_val (v := .bool (decide ((i : Int) < (L : Int)))) hf58 rfl rfl rfl rfl rfl rfl (r_lss rfl rfl) fun ac55 hf59 => ?_)
      refine seq_end ?_
      clear ac54 hf58
      refine then_normal ?_
      refine code_seq ?_
      refine code_if hf59 rfl (fun c75_3 => ?_) (fun c75_3 => ?_)
      · have hf60 := hf59.know 75 (u := .bool true) rfl (congrArg Value.bool c75_3)
        refine wp_skip ?_
        refine then_normal ?_
        refine code_seq ?_
        refine wp_block ?_
        refine code_seq ?_
        refine seq_start (l := [0, 1, 2, 3]) rfl ?_
        obtain ⟨kd8, ii8, nn8, hri8, hii8, hnn8⟩ := op_row (i := i) ho (by have := of_decide_eq_true c75_3; omega)
        refine seq_one (op_val (v := .pointer (slAt p (i * 3))) hf60 rfl rfl rfl rfl rfl rfl (r_indexAddrR (i := i) (sz := 3) sl_51 rfl rfl rfl (by have := of_decide_eq_true c75_3; omega) rfl ⟨_, ((hr.old hI10 (fk_app (fresh_keys (ks := [b1, b2, b3, b4, b7]) rfl (fk_cons hb1 (fk_cons hb2 (fk_cons hb3 (fk_cons hb4 (fk_cons hb7 fk_nil)))))) hx1.2.2.2)) _ _ hri8).choose_spec.1⟩) fun ac56 hf61 => ?_)
        refine seq_one (op_val (v := .agg #[.int .u8 kd8, .int .i64 ii8, .int .i64 nn8]) hf61 rfl rfl rfl rfl rfl rfl (r_loadRow ag_56 sz_56 rfl (hr.old hI10 (fk_app (fresh_keys (ks := [b1, b2, b3, b4, b7]) rfl (fk_cons hb1 (fk_cons hb2 (fk_cons hb3 (fk_cons hb4 (fk_cons hb7 fk_nil)))))) hx1.2.2.2)) hri8 rfl) fun ac57 hf62 => ?_)
        refine seq_one (op_alloc hf62 rfl rfl rfl ze_56 hI10 fun ac58 b9 wd8 hb9 hI11 hf63 => ?_)
        have hI12 : Inv w ([(b1, arr .i64 c.lk, 103), (b2, arr .i64 c.of, 3), (b3, arr .i64 c.mn, 3), (b4, #[.slice (some ⟨b1, 0, none⟩) (N + K) (N + K), .slice (some ⟨b2, 0, none⟩) N N, .slice (some ⟨b3, 0, none⟩) K K], 79), (b7, #[.int .i64 (N : Int), .slice P0 (List.length LL) C0], 63), (b9, #[.int .u8 0, .int .i64 0, .int .i64 0], 56)] ++ SS) wd8 := Inv.tail (A := [(b1, arr .i64 c.lk, 103), (b2, arr .i64 c.of, 3), (b3, arr .i64 c.mn, 3), (b4, #[.slice (some ⟨b1, 0, none⟩) (N + K) (N + K), .slice (some ⟨b2, 0, none⟩) N N, .slice (some ⟨b3, 0, none⟩) K K], 79), (b7, #[.int .i64 (N : Int), .slice P0 (List.length LL) C0], 63)]) (T := SS) (N := [(b9, #[.int .u8 0, .int .i64 0, .int .i64 0], 56)]) hI11
        refine seq_one (op_storeW (cells := #[.int .u8 kd8, .int .i64 ii8, .int .i64 nn8]) 5 hf63 rfl rfl rfl rfl rfl sz_56 rfl rfl hI12 rfl rfl fun wd9 hI13 => ?_)
        have hI14 : Inv w ([(b1, arr .i64 c.lk, 103), (b2, arr .i64 c.of, 3), (b3, arr .i64 c.mn, 3), (b4, #[.slice (some ⟨b1, 0, none⟩) (N + K) (N + K), .slice (some ⟨b2, 0, none⟩) N N, .slice (some ⟨b3, 0, none⟩) K K], 79), (b7, #[.int .i64 (N : Int), .slice P0 (List.length LL) C0], 63), (b9, #[.int .u8 kd8, .int .i64 ii8, .int .i64 nn8], 56)] ++ SS) wd9 := hI13
        refine seq_end ?_
        clear hf59 ac55 hf60 ac56 hf61 ac57 wd7 hI10 hf62 hI11 wd8 hI12 hI13
        refine then_normal ?_
        refine code_seq ?_
        refine code_seq ?_
        refine seq_start (l := [0, 1]) rfl ?_
        refine seq_one (op_val (v := .pointer (some ⟨b9, 0, none⟩)) hf63 rfl rfl rfl rfl rfl rfl (r_fieldAddr fi_56_0 rfl rfl) fun ac59 hf64 => ?_)
        refine seq_one (op_val (v := .int .u8 kd8) hf64 rfl rfl rfl rfl rfl rfl (r_load ag_5 rfl (hI14.at 5 rfl) rfl) fun ac60 hf65 => ?_)
        refine seq_end ?_
        clear ac58 hf63 ac59 hf64
        refine then_normal ?_
        refine code_joinG 234 ((Ch N K) × (Option Addr) × (Nat) × (List En) × (List Blk)) (fun (x : (Ch N K) × (Option Addr) × (Nat) × (List En) × (List Blk)) => match x with | (d, U0, UC, LU, SU) => [(0, .int .i64 (K : Int)), (1, .int .i64 (N : Int)), (2, .slice p L cap), (7, .pointer (some ⟨b4, 0, none⟩)), (8, .int .i64 0), (9, .pointer (some ⟨b7, 0, none⟩)), (10, .int .i64 0), (12, .pointer (some ⟨b9, 0, none⟩)), (35, .tuple #[.pointer (some ⟨b4, 0, none⟩), .int .i64 0]), (36, .int .i64 (K : Int)), (37, .int .i64 (N : Int)), (38, .tuple #[.pointer (some ⟨b4, 0, none⟩), .int .i64 0]), (39, .pointer (some ⟨b4, 0, none⟩)), (40, .int .i64 0), (41, .tuple #[.agg #[.int .i64 (N : Int), .slice z6 (List.length L6) cz6], .int .i64 0]), (42, .int .i64 (K : Int)), (43, .int .i64 (K : Int)), (44, .int .i64 (N : Int)), (45, .int .i64 (N : Int)), (46, .tuple #[.agg #[.int .i64 (N : Int), .slice z6 (List.length L6) cz6], .int .i64 0]), (47, .agg #[.int .i64 (N : Int), .slice z6 (List.length L6) cz6]), (48, .int .i64 0), (49, .int .i64 0), (50, .int .i64 0), (51, .bool false), (52, .bool false), (53, .int .i64 0), (54, .bool false), (55, .bool false), (58, .bool false), (59, .bool false), (60, .int .i64 0), (61, .bool false), (62, .bool false), (63, .int .i64 (N : Int)), (64, .bool (decide ((N : Int) > 64))), (65, .bool (decide ((N : Int) > 64))), (66, .bool false), (67, .slice p L cap), (68, .int .i64 (L : Int)), (69, .bool (decide ((L : Int) > 60))), (70, .bool false), (72, .slice p L cap), (73, .int .i64 (L : Int)), (74, .int .i64 (i : Int)), (75, .bool true), (76, .pointer (slAt p (i * 3))), (77, .agg #[.int .u8 kd8, .int .i64 ii8, .int .i64 nn8]), (78, .pointer (some ⟨b9, 0, none⟩)), (79, .int .u8 kd8)]) (fun (x : (Ch N K) × (Option Addr) × (Nat) × (List En) × (List Blk)) => match x with | (d, U0, UC, LU, SU) => fun w' => Inv w ([(b1, arr .i64 d.lk, 103), (b2, arr .i64 d.of, 3), (b3, arr .i64 d.mn, 3), (b4, #[.slice (some ⟨b1, 0, none⟩) (N + K) (N + K), .slice (some ⟨b2, 0, none⟩) N N, .slice (some ⟨b3, 0, none⟩) K K], 79), (b7, #[.int .i64 (N : Int), .slice U0 (List.length LU) UC], 63), (b9, #[.int .u8 kd8, .int .i64 ii8, .int .i64 nn8], 56)] ++ SU) w' ∧ (Ch.Lof d LU ∧ VL w SU U0 UC LU ∧ ∀ x ∈ SU, w.heap.size ≤ x.1)) ?_ ?_
        ·
          refine wp_block ?_
          refine code_seq ?_
          refine seq_start (l := [0, 1]) rfl ?_
          refine seq_one (op_val (v := .bool (kd8 == 1)) hf65 rfl rfl rfl rfl rfl rfl (r_eql rfl rfl) fun ac61 hf66 => ?_)
          refine seq_one (op_val (v := .bool (kd8 == 1)) hf66 rfl rfl rfl rfl rfl rfl (r_assign rfl) fun ac62 hf67 => ?_)
          refine seq_end ?_
          clear ac60 hf65 ac61 hf66
          refine then_normal ?_
          refine code_if hf67 rfl (fun c80_4 => ?_) (fun c80_4 => ?_)
          · have hf68 := hf67.know 80 (u := .bool true) rfl (congrArg Value.bool c80_4)
            refine code_seq ?_
            refine seq_start (l := [0, 1, 2, 3, 4, 5, 6]) rfl ?_
            refine seq_one (op_val (v := .pointer (some ⟨b4, 0, none⟩)) hf68 rfl rfl rfl rfl rfl rfl (r_move rfl) fun ac63 hf69 => ?_)
            refine seq_one (op_val (v := .pointer (some ⟨b9, 1, none⟩)) hf69 rfl rfl rfl rfl rfl rfl (r_fieldAddr fi_56_1 rfl rfl) fun ac64 hf70 => ?_)
            refine seq_one (op_val (v := .int .i64 ii8) hf70 rfl rfl rfl rfl rfl rfl (r_load ag_3 rfl (hI14.at 5 rfl) rfl) fun ac65 hf71 => ?_)
            refine seq_one (op_val (v := .pointer (some ⟨b9, 2, none⟩)) hf71 rfl rfl rfl rfl rfl rfl (r_fieldAddr fi_56_2 rfl rfl) fun ac66 hf72 => ?_)
            refine seq_one (op_val (v := .int .i64 nn8) hf72 rfl rfl rfl rfl rfl rfl (r_load ag_3 rfl (hI14.at 5 rfl) rfl) fun ac67 hf73 => ?_)
            refine seq_one (op_call (R := fun v w' => v = .int .i64 (c.pushE ii8 nn8) ∧ Inv _ [(b1, arr .i64 (c.push ii8 nn8).lk, 103), (b2, arr .i64 (c.push ii8 nn8).of, 3), (b3, arr .i64 (c.push ii8 nn8).mn, 3), (b4, #[.slice (some ⟨b1, 0, none⟩) (N + K) (N + K), .slice (some ⟨b2, 0, none⟩) N N, .slice (some ⟨b3, 0, none⟩) K K], 79)] w') hf73 rfl rfl rfl rfl ca_30 ((push_any (hI14.nd 0 rfl rfl rfl rfl) c (Has.cons (hI14.at 0 rfl) (Has.cons (hI14.at 1 rfl) (Has.cons (hI14.at 2 rfl) (Has.cons (hI14.at 3 rfl) Has.nil)))) ii8 nn8).mono fun _ _ h => ⟨_, h.1, rfl, h.2⟩) fun ac68 v wd10 hR10 hf74 => ?_)
            obtain ⟨rfl, hR10⟩ := hR10
            have hI15 : Inv w ([(b1, arr .i64 (c.push ii8 nn8).lk, 103), (b2, arr .i64 (c.push ii8 nn8).of, 3), (b3, arr .i64 (c.push ii8 nn8).mn, 3), (b4, #[.slice (some ⟨b1, 0, none⟩) (N + K) (N + K), .slice (some ⟨b2, 0, none⟩) N N, .slice (some ⟨b3, 0, none⟩) K K], 79), (b7, #[.int .i64 (N : Int), .slice P0 (List.length LL) C0], 63), (b9, #[.int .u8 kd8, .int .i64 ii8, .int .i64 nn8], 56)] ++ SS) _ := Inv.callST (A := []) (S := [(b1, arr .i64 c.lk, 103), (b2, arr .i64 c.of, 3), (b3, arr .i64 c.mn, 3), (b4, #[.slice (some ⟨b1, 0, none⟩) (N + K) (N + K), .slice (some ⟨b2, 0, none⟩) N N, .slice (some ⟨b3, 0, none⟩) K K], 79)]) (S' := [(b1, arr .i64 (c.push ii8 nn8).lk, 103), (b2, arr .i64 (c.push ii8 nn8).of, 3), (b3, arr .i64 (c.push ii8 nn8).mn, 3), (b4, #[.slice (some ⟨b1, 0, none⟩) (N + K) (N + K), .slice (some ⟨b2, 0, none⟩) N N, .slice (some ⟨b3, 0, none⟩) K K], 79)]) (L := [(b7, #[.int .i64 (N : Int), .slice P0 (List.length LL) C0], 63), (b9, #[.int .u8 kd8, .int .i64 ii8, .int .i64 nn8], 56)]) (N := []) (T := SS) hI14 hR10 rfl (fun _ h => by cases h)
            refine seq_one (op_val (v := .int .i64 (c.pushE ii8 nn8)) hf74 rfl rfl rfl rfl rfl rfl (r_assign rfl) fun ac69 hf75 => ?_)
            refine seq_end ?_
            clear hf67 ac62 hf68 ac63 hf69 ac64 hf70 ac65 hf71 ac66 hf72 ac67 wd9 hf73 hI14 hR10 ac68 hf74
            refine then_normal ?_
            refine code_seq ?_
            refine seq_start (l := [0, 1, 2, 3, 4, 5, 6, 7, 8, 9, 10, 11]) rfl ?_
            refine seq_one (op_val (v := .agg #[.int .i64 (N : Int), .slice P0 (List.length LL) C0]) hf75 rfl rfl rfl rfl rfl rfl (r_loadW ag_63 sz_63 rfl (hI15.at 4 rfl) rfl) fun ac70 hf76 => ?_)
            refine seq_one (op_val (v := .pointer (some ⟨b9, 1, none⟩)) hf76 rfl rfl rfl rfl rfl rfl (r_fieldAddr fi_56_1 rfl rfl) fun ac71 hf77 => ?_)
            refine seq_one (op_val (v := .int .i64 ii8) hf77 rfl rfl rfl rfl rfl rfl (r_load ag_3 rfl (hI15.at 5 rfl) rfl) fun ac72 hf78 => ?_)
            refine seq_one (op_val (v := .pointer (some ⟨b9, 2, none⟩)) hf78 rfl rfl rfl rfl rfl rfl (r_fieldAddr fi_56_2 rfl rfl) fun ac73 hf79 => ?_)
            refine seq_one (op_val (v := .int .i64 nn8) hf79 rfl rfl rfl rfl rfl rfl (r_load ag_3 rfl (hI15.at 5 rfl) rfl) fun ac74 hf80 => ?_)
            refine seq_one (op_call (R := fun v w' => ∃ S P2 C2 L2, v = .tuple #[.agg #[.int .i64 (N : Int), .slice P2 (List.length L2) C2], .int .i64 (c.pushE ii8 nn8)] ∧ Inv _ S w' ∧ (∀ x ∈ S, Array.size (World.heap _) ≤ x.1) ∧ Ch.Lof (c.push ii8 nn8) L2 ∧ ∀ w0 SB, VL w0 SB P0 C0 LL → VL w0 (SB ++ S) P2 C2 L2) hf80 rfl rfl rfl rfl ca_36 ((rpush_walk hx1.2.1 (VL.start_le hx1.2.2.1) (VL.rows hx1.2.2.1 hI15 (fk_app (fresh_keys (ks := [b1, b2, b3, b4, b7, b9]) rfl (fk_cons hb1 (fk_cons hb2 (fk_cons hb3 (fk_cons hb4 (fk_cons hb7 (fk_cons hb9 fk_nil))))))) hx1.2.2.2) (fun x hx => List.mem_append_right _ hx)) (VL.rds hx1.2.2.1 hI15 (fk_app (fresh_keys (ks := [b1, b2, b3, b4, b7, b9]) rfl (fk_cons hb1 (fk_cons hb2 (fk_cons hb3 (fk_cons hb4 (fk_cons hb7 (fk_cons hb9 fk_nil))))))) hx1.2.2.2) (fun x hx => List.mem_append_right _ hx)) (l := ii8) (n := nn8)).mono fun _ _ ⟨S, P2, C2, L2, he, h1, h2, h3, h4⟩ => ⟨_, he, S, P2, C2, L2, rfl, h1, h2, h3, h4⟩) fun ac75 v wd11 hR hf81 => ?_)
            obtain ⟨Sq11, z11, cz11, L11, rfl, hw11, hz11, hlf11, hvl11⟩ := hR
            have hy11 := fk_le hI15.size hz11
            have hI16 : Inv w ([(b1, arr .i64 (c.push ii8 nn8).lk, 103), (b2, arr .i64 (c.push ii8 nn8).of, 3), (b3, arr .i64 (c.push ii8 nn8).mn, 3), (b4, #[.slice (some ⟨b1, 0, none⟩) (N + K) (N + K), .slice (some ⟨b2, 0, none⟩) N N, .slice (some ⟨b3, 0, none⟩) K K], 79), (b7, #[.int .i64 (N : Int), .slice P0 (List.length LL) C0], 63), (b9, #[.int .u8 kd8, .int .i64 ii8, .int .i64 nn8], 56)] ++ (SS ++ Sq11)) _ := hI15.callN hw11 hz11
            have hV11 := hvl11 _ _ hx1.2.2.1
            refine seq_one (op_val (v := .tuple #[.agg #[.int .i64 (N : Int), .slice z11 (List.length L11) cz11], .int .i64 (c.pushE ii8 nn8)]) hf81 rfl rfl rfl rfl rfl rfl (r_move rfl) fun ac76 hf82 => ?_)
            refine seq_one (op_val (v := .agg #[.int .i64 (N : Int), .slice z11 (List.length L11) cz11]) hf82 rfl rfl rfl rfl rfl rfl (r_extract rfl rfl) fun ac77 hf83 => ?_)
            refine seq_one (op_val (v := .int .i64 (c.pushE ii8 nn8)) hf83 rfl rfl rfl rfl rfl rfl (r_extract rfl rfl) fun ac78 hf84 => ?_)
            refine seq_one (op_alloc hf84 rfl rfl rfl ze_63 hI16 fun ac79 b12 wd12 hb12 hI17 hf85 => ?_)
            have hI18 : Inv w ([(b1, arr .i64 (c.push ii8 nn8).lk, 103), (b2, arr .i64 (c.push ii8 nn8).of, 3), (b3, arr .i64 (c.push ii8 nn8).mn, 3), (b4, #[.slice (some ⟨b1, 0, none⟩) (N + K) (N + K), .slice (some ⟨b2, 0, none⟩) N N, .slice (some ⟨b3, 0, none⟩) K K], 79), (b7, #[.int .i64 (N : Int), .slice P0 (List.length LL) C0], 63), (b9, #[.int .u8 kd8, .int .i64 ii8, .int .i64 nn8], 56), (b12, #[.int .i64 0, .slice none 0 0], 63)] ++ (SS ++ Sq11)) wd12 := Inv.tail (A := [(b1, arr .i64 (c.push ii8 nn8).lk, 103), (b2, arr .i64 (c.push ii8 nn8).of, 3), (b3, arr .i64 (c.push ii8 nn8).mn, 3), (b4, #[.slice (some ⟨b1, 0, none⟩) (N + K) (N + K), .slice (some ⟨b2, 0, none⟩) N N, .slice (some ⟨b3, 0, none⟩) K K], 79), (b7, #[.int .i64 (N : Int), .slice P0 (List.length LL) C0], 63), (b9, #[.int .u8 kd8, .int .i64 ii8, .int .i64 nn8], 56)]) (T := (SS ++ Sq11)) (N := [(b12, #[.int .i64 0, .slice none 0 0], 63)]) hI17
            refine seq_one (op_storeW (cells := #[.int .i64 (N : Int), .slice z11 (List.length L11) cz11]) 6 hf85 rfl rfl rfl rfl rfl sz_63 rfl rfl hI18 rfl rfl fun wd13 hI19 => ?_)
            have hI20 : Inv w ([(b1, arr .i64 (c.push ii8 nn8).lk, 103), (b2, arr .i64 (c.push ii8 nn8).of, 3), (b3, arr .i64 (c.push ii8 nn8).mn, 3), (b4, #[.slice (some ⟨b1, 0, none⟩) (N + K) (N + K), .slice (some ⟨b2, 0, none⟩) N N, .slice (some ⟨b3, 0, none⟩) K K], 79), (b7, #[.int .i64 (N : Int), .slice P0 (List.length LL) C0], 63), (b9, #[.int .u8 kd8, .int .i64 ii8, .int .i64 nn8], 56), (b12, #[.int .i64 (N : Int), .slice z11 (List.length L11) cz11], 63)] ++ (SS ++ Sq11)) wd13 := hI19
            refine seq_one (op_val (v := .int .i64 (c.pushE ii8 nn8)) hf85 rfl rfl rfl rfl rfl rfl (r_assign rfl) fun ac80 hf86 => ?_)
            refine seq_end ?_
            clear ac69 hf75 ac70 hf76 ac71 hf77 ac72 hf78 ac73 hf79 ac74 wd10 hf80 hI15 hw11 hz11 ac75 hf81 ac76 hf82 ac77 hf83 ac78 wd11 hI16 hf84 hI17 wd12 hI18 hI19 ac79 hf85
            refine then_normal ?_
            refine code_seq ?_
            refine seq_start (l := [0, 1]) rfl ?_
            refine seq_one (op_val (v := .agg #[.int .i64 (N : Int), .slice z11 (List.length L11) cz11]) hf86 rfl rfl rfl rfl rfl rfl (r_loadW ag_63 sz_63 rfl (hI20.at 6 rfl) rfl) fun ac81 hf87 => ?_)
            refine seq_one (op_storeW (cells := #[.int .i64 (N : Int), .slice z11 (List.length L11) cz11]) 4 hf87 rfl rfl rfl rfl rfl sz_63 rfl rfl hI20 rfl rfl fun wd14 hI21 => ?_)
            have hI22 : Inv w ([(b1, arr .i64 (c.push ii8 nn8).lk, 103), (b2, arr .i64 (c.push ii8 nn8).of, 3), (b3, arr .i64 (c.push ii8 nn8).mn, 3), (b4, #[.slice (some ⟨b1, 0, none⟩) (N + K) (N + K), .slice (some ⟨b2, 0, none⟩) N N, .slice (some ⟨b3, 0, none⟩) K K], 79), (b7, #[.int .i64 (N : Int), .slice z11 (List.length L11) cz11], 63), (b9, #[.int .u8 kd8, .int .i64 ii8, .int .i64 nn8], 56), (b12, #[.int .i64 (N : Int), .slice z11 (List.length L11) cz11], 63)] ++ (SS ++ Sq11)) wd14 := hI21
            refine seq_end ?_
            clear ac80 hf86 wd13 hI20 hI21
            refine then_normal ?_
            refine code_seq ?_
            refine seq_start (l := [0, 1, 2]) rfl ?_
            refine seq_one (op_val (v := .int .i64 (c.pushE ii8 nn8)) hf87 rfl rfl rfl rfl rfl rfl (r_move rfl) fun ac82 hf88 => ?_)
            refine seq_one (op_val (v := .int .i64 (c.pushE ii8 nn8)) hf88 rfl rfl rfl rfl rfl rfl (r_move rfl) fun ac83 hf89 => ?_)
            refine seq_one (op_val (v := .bool ((c.pushE ii8 nn8) != (c.pushE ii8 nn8))) hf89 rfl rfl rfl rfl rfl rfl (r_neq rfl rfl) fun ac84 hf90 => ?_)
            refine seq_end ?_
            clear ac81 hf87 ac82 hf88 ac83 hf89
            refine then_normal ?_
            have hf91 := hf90.know 100 (u := .bool false) rfl (congrArg Value.bool (bne_self_eq_false _))
            refine code_if_false hf91 rfl ?_
            refine wp_skip ?_
            refine block_normal ?_
            refine then_normal ?_
            clear hf90
            exact ⟨((c.push ii8 nn8), z11, cz11, L11, (SS ++ Sq11)), (hf91.cons 0 rfl (hf91.cons 1 rfl (hf91.cons 2 rfl (hf91.cons 7 rfl (hf91.cons 8 rfl (hf91.cons 9 rfl (hf91.cons 10 rfl (hf91.cons 12 rfl (hf91.cons 35 rfl (hf91.cons 36 rfl (hf91.cons 37 rfl (hf91.cons 38 rfl (hf91.cons 39 rfl (hf91.cons 40 rfl (hf91.cons 41 rfl (hf91.cons 42 rfl (hf91.cons 43 rfl (hf91.cons 44 rfl (hf91.cons 45 rfl (hf91.cons 46 rfl (hf91.cons 47 rfl (hf91.cons 48 rfl (hf91.cons 49 rfl (hf91.cons 50 rfl (hf91.cons 51 rfl (hf91.cons 52 rfl (hf91.cons 53 rfl (hf91.cons 54 rfl (hf91.cons 55 rfl (hf91.cons 58 rfl (hf91.cons 59 rfl (hf91.cons 60 rfl (hf91.cons 61 rfl (hf91.cons 62 rfl (hf91.cons 63 rfl (hf91.cons 64 rfl (hf91.cons 65 rfl (hf91.cons 66 rfl (hf91.cons 67 rfl (hf91.cons 68 rfl (hf91.cons 69 rfl (hf91.cons 70 rfl (hf91.cons 72 rfl (hf91.cons 73 rfl (hf91.cons 74 rfl (hf91.cons 75 rfl (hf91.cons 76 rfl (hf91.cons 77 rfl (hf91.cons 78 rfl (hf91.cons 79 rfl hf91.nil)))))))))))))))))))))))))))))))))))))))))))))))))), ⟨(Inv.keep (A := [(b1, arr .i64 (c.push ii8 nn8).lk, 103), (b2, arr .i64 (c.push ii8 nn8).of, 3), (b3, arr .i64 (c.push ii8 nn8).mn, 3), (b4, #[.slice (some ⟨b1, 0, none⟩) (N + K) (N + K), .slice (some ⟨b2, 0, none⟩) N N, .slice (some ⟨b3, 0, none⟩) K K], 79), (b7, #[.int .i64 (N : Int), .slice z11 (List.length L11) cz11], 63), (b9, #[.int .u8 kd8, .int .i64 ii8, .int .i64 nn8], 56)]) (N := [(b12, #[.int .i64 (N : Int), .slice z11 (List.length L11) cz11], 63)]) (T := (SS ++ Sq11)) hI22 (fresh_keys (ks := [b12]) rfl (fk_cons hb12 fk_nil))), ⟨hlf11, hV11, (fk_app hx1.2.2.2 hy11)⟩⟩⟩
          · have hf92 := hf67.know 80 (u := .bool false) rfl (congrArg Value.bool c80_4)
            refine code_seq ?_
            refine seq_start (l := [0, 1]) rfl ?_
            refine seq_one (op_val (v := .bool (kd8 == 2)) hf92 rfl rfl rfl rfl rfl rfl (r_eql rfl rfl) fun ac85 hf93 => ?_)
            refine seq_one (op_val (v := .bool (kd8 == 2)) hf93 rfl rfl rfl rfl rfl rfl (r_assign rfl) fun ac86 hf94 => ?_)
            refine seq_end ?_
            clear hf67 ac62 hf92 ac85 hf93
            refine then_normal ?_
            refine code_if hf94 rfl (fun c101_5 => ?_) (fun c101_5 => ?_)
            · have hf95 := hf94.know 101 (u := .bool true) rfl (congrArg Value.bool c101_5)
              refine code_seq ?_
              refine seq_start (l := [0, 1, 2, 3, 4, 5, 6, 7, 8]) rfl ?_
              refine seq_one (op_val (v := .pointer (some ⟨b4, 0, none⟩)) hf95 rfl rfl rfl rfl rfl rfl (r_move rfl) fun ac87 hf96 => ?_)
              refine seq_one (op_val (v := .pointer (some ⟨b9, 1, none⟩)) hf96 rfl rfl rfl rfl rfl rfl (r_fieldAddr fi_56_1 rfl rfl) fun ac88 hf97 => ?_)
              refine seq_one (op_val (v := .int .i64 ii8) hf97 rfl rfl rfl rfl rfl rfl (r_load ag_3 rfl (hI14.at 5 rfl) rfl) fun ac89 hf98 => ?_)
              refine seq_one (op_call (R := fun v w' => v = .tuple #[.int .i64 (c.fst ii8), .bool (c.some_ ii8)] ∧ Inv _ [(b1, arr .i64 (c.pop ii8).lk, 103), (b2, arr .i64 (c.pop ii8).of, 3), (b3, arr .i64 (c.pop ii8).mn, 3), (b4, #[.slice (some ⟨b1, 0, none⟩) (N + K) (N + K), .slice (some ⟨b2, 0, none⟩) N N, .slice (some ⟨b3, 0, none⟩) K K], 79)] w') hf98 rfl rfl rfl rfl ca_31 ((pop_any (hI14.nd 0 rfl rfl rfl rfl) c (Has.cons (hI14.at 0 rfl) (Has.cons (hI14.at 1 rfl) (Has.cons (hI14.at 2 rfl) (Has.cons (hI14.at 3 rfl) Has.nil)))) ii8).mono fun _ _ h => ⟨_, h.1, rfl, h.2⟩) fun ac90 v wd15 hR10 hf99 => ?_)
              obtain ⟨rfl, hR10⟩ := hR10
              have hI23 : Inv w ([(b1, arr .i64 (c.pop ii8).lk, 103), (b2, arr .i64 (c.pop ii8).of, 3), (b3, arr .i64 (c.pop ii8).mn, 3), (b4, #[.slice (some ⟨b1, 0, none⟩) (N + K) (N + K), .slice (some ⟨b2, 0, none⟩) N N, .slice (some ⟨b3, 0, none⟩) K K], 79), (b7, #[.int .i64 (N : Int), .slice P0 (List.length LL) C0], 63), (b9, #[.int .u8 kd8, .int .i64 ii8, .int .i64 nn8], 56)] ++ SS) _ := Inv.callST (A := []) (S := [(b1, arr .i64 c.lk, 103), (b2, arr .i64 c.of, 3), (b3, arr .i64 c.mn, 3), (b4, #[.slice (some ⟨b1, 0, none⟩) (N + K) (N + K), .slice (some ⟨b2, 0, none⟩) N N, .slice (some ⟨b3, 0, none⟩) K K], 79)]) (S' := [(b1, arr .i64 (c.pop ii8).lk, 103), (b2, arr .i64 (c.pop ii8).of, 3), (b3, arr .i64 (c.pop ii8).mn, 3), (b4, #[.slice (some ⟨b1, 0, none⟩) (N + K) (N + K), .slice (some ⟨b2, 0, none⟩) N N, .slice (some ⟨b3, 0, none⟩) K K], 79)]) (L := [(b7, #[.int .i64 (N : Int), .slice P0 (List.length LL) C0], 63), (b9, #[.int .u8 kd8, .int .i64 ii8, .int .i64 nn8], 56)]) (N := []) (T := SS) hI14 hR10 rfl (fun _ h => by cases h)
              refine seq_one (op_val (v := .tuple #[.int .i64 (c.fst ii8), .bool (c.some_ ii8)]) hf99 rfl rfl rfl rfl rfl rfl (r_move rfl) fun ac91 hf100 => ?_)
              refine seq_one (op_val (v := .int .i64 (c.fst ii8)) hf100 rfl rfl rfl rfl rfl rfl (r_extract rfl rfl) fun ac92 hf101 => ?_)
              refine seq_one (op_val (v := .bool (c.some_ ii8)) hf101 rfl rfl rfl rfl rfl rfl (r_extract rfl rfl) fun ac93 hf102 => ?_)
              refine seq_one (op_val (v := .int .i64 (c.fst ii8)) hf102 rfl rfl rfl rfl rfl rfl (r_assign rfl) fun ac94 hf103 => ?_)
              refine seq_one (op_val (v := .bool (c.some_ ii8)) hf103 rfl rfl rfl rfl rfl rfl (r_assign rfl) fun ac95 hf104 => ?_)
              refine seq_end ?_
              clear hf94 ac86 hf95 ac87 hf96 ac88 hf97 ac89 wd9 hf98 hI14 hR10 ac90 hf99 ac91 hf100 ac92 hf101 ac93 hf102 ac94 hf103
              refine then_normal ?_
              refine code_seq ?_
              refine seq_start (l := [0, 1, 2, 3, 4, 5, 6, 7, 8, 9, 10, 11]) rfl ?_
              refine seq_one (op_val (v := .agg #[.int .i64 (N : Int), .slice P0 (List.length LL) C0]) hf104 rfl rfl rfl rfl rfl rfl (r_loadW ag_63 sz_63 rfl (hI23.at 4 rfl) rfl) fun ac96 hf105 => ?_)
              refine seq_one (op_val (v := .pointer (some ⟨b9, 1, none⟩)) hf105 rfl rfl rfl rfl rfl rfl (r_fieldAddr fi_56_1 rfl rfl) fun ac97 hf106 => ?_)
              refine seq_one (op_val (v := .int .i64 ii8) hf106 rfl rfl rfl rfl rfl rfl (r_load ag_3 rfl (hI23.at 5 rfl) rfl) fun ac98 hf107 => ?_)
              refine seq_one (op_call (R := fun v w' => ∃ S P2 C2 L2, v = .tuple #[.agg #[.int .i64 (N : Int), .slice P2 (List.length L2) C2], .int .i64 (c.fst ii8), .bool (c.some_ ii8)] ∧ Inv _ S w' ∧ (∀ x ∈ S, Array.size (World.heap _) ≤ x.1) ∧ Ch.Lof (c.pop ii8) L2 ∧ ∀ w0 SB, VL w0 SB P0 C0 LL → VL w0 (SB ++ S) P2 C2 L2) hf107 rfl rfl rfl rfl ca_37 ((rpop_walk hx1.2.1 (VL.start_le hx1.2.2.1) (VL.rows hx1.2.2.1 hI23 (fk_app (fresh_keys (ks := [b1, b2, b3, b4, b7, b9]) rfl (fk_cons hb1 (fk_cons hb2 (fk_cons hb3 (fk_cons hb4 (fk_cons hb7 (fk_cons hb9 fk_nil))))))) hx1.2.2.2) (fun x hx => List.mem_append_right _ hx)) (VL.rds hx1.2.2.1 hI23 (fk_app (fresh_keys (ks := [b1, b2, b3, b4, b7, b9]) rfl (fk_cons hb1 (fk_cons hb2 (fk_cons hb3 (fk_cons hb4 (fk_cons hb7 (fk_cons hb9 fk_nil))))))) hx1.2.2.2) (fun x hx => List.mem_append_right _ hx)) (l := ii8)).mono fun _ _ ⟨S, P2, C2, L2, he, h1, h2, h3, h4⟩ => ⟨_, he, S, P2, C2, L2, rfl, h1, h2, h3, h4⟩) fun ac99 v wd16 hR hf108 => ?_)
              obtain ⟨Sq11, z11, cz11, L11, rfl, hw11, hz11, hlf11, hvl11⟩ := hR
              have hy11 := fk_le hI23.size hz11
              have hI24 : Inv w ([(b1, arr .i64 (c.pop ii8).lk, 103), (b2, arr .i64 (c.pop ii8).of, 3), (b3, arr .i64 (c.pop ii8).mn, 3), (b4, #[.slice (some ⟨b1, 0, none⟩) (N + K) (N + K), .slice (some ⟨b2, 0, none⟩) N N, .slice (some ⟨b3, 0, none⟩) K K], 79), (b7, #[.int .i64 (N : Int), .slice P0 (List.length LL) C0], 63), (b9, #[.int .u8 kd8, .int .i64 ii8, .int .i64 nn8], 56)] ++ (SS ++ Sq11)) _ := hI23.callN hw11 hz11
              have hV11 := hvl11 _ _ hx1.2.2.1
              refine seq_one (op_val (v := .tuple #[.agg #[.int .i64 (N : Int), .slice z11 (List.length L11) cz11], .int .i64 (c.fst ii8), .bool (c.some_ ii8)]) hf108 rfl rfl rfl rfl rfl rfl (r_move rfl) fun ac100 hf109 => ?_)
              refine seq_one (op_val (v := .agg #[.int .i64 (N : Int), .slice z11 (List.length L11) cz11]) hf109 rfl rfl rfl rfl rfl rfl (r_extract rfl rfl) fun ac101 hf110 => ?_)
              refine seq_one (op_val (v := .int .i64 (c.fst ii8)) hf110 rfl rfl rfl rfl rfl rfl (r_extract rfl rfl) fun ac102 hf111 => ?_)
              refine seq_one (op_val (v := .bool (c.some_ ii8)) hf111 rfl rfl rfl rfl rfl rfl (r_extract rfl rfl) fun ac103 hf112 => ?_)
              refine seq_one (op_alloc hf112 rfl rfl rfl ze_63 hI24 fun ac104 b12 wd17 hb12 hI25 hf113 => ?_)
              have hI26 : Inv w ([(b1, arr .i64 (c.pop ii8).lk, 103), (b2, arr .i64 (c.pop ii8).of, 3), (b3, arr .i64 (c.pop ii8).mn, 3), (b4, #[.slice (some ⟨b1, 0, none⟩) (N + K) (N + K), .slice (some ⟨b2, 0, none⟩) N N, .slice (some ⟨b3, 0, none⟩) K K], 79), (b7, #[.int .i64 (N : Int), .slice P0 (List.length LL) C0], 63), (b9, #[.int .u8 kd8, .int .i64 ii8, .int .i64 nn8], 56), (b12, #[.int .i64 0, .slice none 0 0], 63)] ++ (SS ++ Sq11)) wd17 := Inv.tail (A := [(b1, arr .i64 (c.pop ii8).lk, 103), (b2, arr .i64 (c.pop ii8).of, 3), (b3, arr .i64 (c.pop ii8).mn, 3), (b4, #[.slice (some ⟨b1, 0, none⟩) (N + K) (N + K), .slice (some ⟨b2, 0, none⟩) N N, .slice (some ⟨b3, 0, none⟩) K K], 79), (b7, #[.int .i64 (N : Int), .slice P0 (List.length LL) C0], 63), (b9, #[.int .u8 kd8, .int .i64 ii8, .int .i64 nn8], 56)]) (T := (SS ++ Sq11)) (N := [(b12, #[.int .i64 0, .slice none 0 0], 63)]) hI25
              refine seq_one (op_storeW (cells := #[.int .i64 (N : Int), .slice z11 (List.length L11) cz11]) 6 hf113 rfl rfl rfl rfl rfl sz_63 rfl rfl hI26 rfl rfl fun wd18 hI27 => ?_)
              have hI28 : Inv w ([(b1, arr .i64 (c.pop ii8).lk, 103), (b2, arr .i64 (c.pop ii8).of, 3), (b3, arr .i64 (c.pop ii8).mn, 3), (b4, #[.slice (some ⟨b1, 0, none⟩) (N + K) (N + K), .slice (some ⟨b2, 0, none⟩) N N, .slice (some ⟨b3, 0, none⟩) K K], 79), (b7, #[.int .i64 (N : Int), .slice P0 (List.length LL) C0], 63), (b9, #[.int .u8 kd8, .int .i64 ii8, .int .i64 nn8], 56), (b12, #[.int .i64 (N : Int), .slice z11 (List.length L11) cz11], 63)] ++ (SS ++ Sq11)) wd18 := hI27
              refine seq_one (op_val (v := .int .i64 (c.fst ii8)) hf113 rfl rfl rfl rfl rfl rfl (r_assign rfl) fun ac105 hf114 => ?_)
              refine seq_one (op_val (v := .bool (c.some_ ii8)) hf114 rfl rfl rfl rfl rfl rfl (r_assign rfl) fun ac106 hf115 => ?_)
              refine seq_end ?_
              clear ac95 hf104 ac96 hf105 ac97 hf106 ac98 wd15 hf107 hI23 hw11 hz11 ac99 hf108 ac100 hf109 ac101 hf110 ac102 hf111 ac103 wd16 hI24 hf112 hI25 wd17 hI26 hI27 ac104 hf113 ac105 hf114
              refine then_normal ?_
              refine code_seq ?_
              refine seq_start (l := [0, 1]) rfl ?_
              refine seq_one (op_val (v := .agg #[.int .i64 (N : Int), .slice z11 (List.length L11) cz11]) hf115 rfl rfl rfl rfl rfl rfl (r_loadW ag_63 sz_63 rfl (hI28.at 6 rfl) rfl) fun ac107 hf116 => ?_)
              refine seq_one (op_storeW (cells := #[.int .i64 (N : Int), .slice z11 (List.length L11) cz11]) 4 hf116 rfl rfl rfl rfl rfl sz_63 rfl rfl hI28 rfl rfl fun wd19 hI29 => ?_)
              have hI30 : Inv w ([(b1, arr .i64 (c.pop ii8).lk, 103), (b2, arr .i64 (c.pop ii8).of, 3), (b3, arr .i64 (c.pop ii8).mn, 3), (b4, #[.slice (some ⟨b1, 0, none⟩) (N + K) (N + K), .slice (some ⟨b2, 0, none⟩) N N, .slice (some ⟨b3, 0, none⟩) K K], 79), (b7, #[.int .i64 (N : Int), .slice z11 (List.length L11) cz11], 63), (b9, #[.int .u8 kd8, .int .i64 ii8, .int .i64 nn8], 56), (b12, #[.int .i64 (N : Int), .slice z11 (List.length L11) cz11], 63)] ++ (SS ++ Sq11)) wd19 := hI29
              refine seq_end ?_
              clear ac106 hf115 wd18 hI28 hI29
              refine then_normal ?_
              refine code_seq ?_
              refine seq_start (l := [0, 1, 2, 3, 4, 5, 6, 7]) rfl ?_
              refine seq_one (op_val (v := .int .i64 (c.fst ii8)) hf116 rfl rfl rfl rfl rfl rfl (r_move rfl) fun ac108 hf117 => ?_)
              refine seq_one (op_val (v := .int .i64 (c.fst ii8)) hf117 rfl rfl rfl rfl rfl rfl (r_move rfl) fun ac109 hf118 => ?_)
              refine seq_one (op_val (v := .bool ((c.fst ii8) != (c.fst ii8))) hf118 rfl rfl rfl rfl rfl rfl (r_neq rfl rfl) fun ac110 hf119 => ?_)
              refine seq_one (op_val (v := .bool ((c.fst ii8) != (c.fst ii8))) hf119 rfl rfl rfl rfl rfl rfl (r_move rfl) fun ac111 hf120 => ?_)
              have hf121 := hf120.know 122 (u := .bool false) rfl (congrArg Value.bool (bne_self_eq_false _))
              refine seq_one (op_val (v := .bool (c.some_ ii8)) hf121 rfl rfl rfl rfl rfl rfl (r_move rfl) fun ac112 hf122 => ?_)
              refine seq_one (op_val (v := .bool (c.some_ ii8)) hf122 rfl rfl rfl rfl rfl rfl (r_move rfl) fun ac113 hf123 => ?_)
              refine seq_one (op_val (v := .bool ((c.some_ ii8) != (c.some_ ii8))) hf123 rfl rfl rfl rfl rfl rfl (r_neB ub_4 rfl rfl) fun ac114 hf124 => ?_)
              refine seq_one (op_val (v := .bool ((c.some_ ii8) != (c.some_ ii8))) hf124 rfl rfl rfl rfl rfl rfl (r_pickF rfl rfl) fun ac115 hf125 => ?_)
              refine seq_end ?_
              clear ac107 hf116 ac108 hf117 ac109 hf118 ac110 hf119 hf120 ac111 hf121 ac112 hf122 ac113 hf123 ac114 hf124
              refine then_normal ?_
              have hf126 := hf125.know 126 (u := .bool false) rfl (congrArg Value.bool (bne_self_eq_false _))
              refine code_if_false hf126 rfl ?_
              refine wp_skip ?_
              refine block_normal ?_
              refine then_normal ?_
              clear hf125
              exact ⟨((c.pop ii8), z11, cz11, L11, (SS ++ Sq11)), (hf126.cons 0 rfl (hf126.cons 1 rfl (hf126.cons 2 rfl (hf126.cons 7 rfl (hf126.cons 8 rfl (hf126.cons 9 rfl (hf126.cons 10 rfl (hf126.cons 12 rfl (hf126.cons 35 rfl (hf126.cons 36 rfl (hf126.cons 37 rfl (hf126.cons 38 rfl (hf126.cons 39 rfl (hf126.cons 40 rfl (hf126.cons 41 rfl (hf126.cons 42 rfl (hf126.cons 43 rfl (hf126.cons 44 rfl (hf126.cons 45 rfl (hf126.cons 46 rfl (hf126.cons 47 rfl (hf126.cons 48 rfl (hf126.cons 49 rfl (hf126.cons 50 rfl (hf126.cons 51 rfl (hf126.cons 52 rfl (hf126.cons 53 rfl (hf126.cons 54 rfl (hf126.cons 55 rfl (hf126.cons 58 rfl (hf126.cons 59 rfl (hf126.cons 60 rfl (hf126.cons 61 rfl (hf126.cons 62 rfl (hf126.cons 63 rfl (hf126.cons 64 rfl (hf126.cons 65 rfl (hf126.cons 66 rfl (hf126.cons 67 rfl (hf126.cons 68 rfl (hf126.cons 69 rfl (hf126.cons 70 rfl (hf126.cons 72 rfl (hf126.cons 73 rfl (hf126.cons 74 rfl (hf126.cons 75 rfl (hf126.cons 76 rfl (hf126.cons 77 rfl (hf126.cons 78 rfl (hf126.cons 79 rfl hf126.nil)))))))))))))))))))))))))))))))))))))))))))))))))), ⟨(Inv.keep (A := [(b1, arr .i64 (c.pop ii8).lk, 103), (b2, arr .i64 (c.pop ii8).of, 3), (b3, arr .i64 (c.pop ii8).mn, 3), (b4, #[.slice (some ⟨b1, 0, none⟩) (N + K) (N + K), .slice (some ⟨b2, 0, none⟩) N N, .slice (some ⟨b3, 0, none⟩) K K], 79), (b7, #[.int .i64 (N : Int), .slice z11 (List.length L11) cz11], 63), (b9, #[.int .u8 kd8, .int .i64 ii8, .int .i64 nn8], 56)]) (N := [(b12, #[.int .i64 (N : Int), .slice z11 (List.length L11) cz11], 63)]) (T := (SS ++ Sq11)) hI30 (fresh_keys (ks := [b12]) rfl (fk_cons hb12 fk_nil))), ⟨hlf11, hV11, (fk_app hx1.2.2.2 hy11)⟩⟩⟩
            · have hf127 := hf94.know 101 (u := .bool false) rfl (congrArg Value.bool c101_5)
              refine code_seq ?_
              refine seq_start (l := [0, 1]) rfl ?_
              refine seq_one (op_val (v := .bool (kd8 == 3)) hf127 rfl rfl rfl rfl rfl rfl (r_eql rfl rfl) fun ac116 hf128 => ?_)
              refine seq_one (op_val (v := .bool (kd8 == 3)) hf128 rfl rfl rfl rfl rfl rfl (r_assign rfl) fun ac117 hf129 => ?_)
              refine seq_end ?_
              clear hf94 ac86 hf127 ac116 hf128
              refine then_normal ?_
              refine code_if hf129 rfl (fun c127_6 => ?_) (fun c127_6 => ?_)
              · have hf130 := hf129.know 127 (u := .bool true) rfl (congrArg Value.bool c127_6)
                refine code_seq ?_
                refine seq_start (l := [0, 1, 2, 3, 4]) rfl ?_
                refine seq_one (op_val (v := .pointer (some ⟨b4, 0, none⟩)) hf130 rfl rfl rfl rfl rfl rfl (r_move rfl) fun ac118 hf131 => ?_)
                refine seq_one (op_val (v := .pointer (some ⟨b9, 2, none⟩)) hf131 rfl rfl rfl rfl rfl rfl (r_fieldAddr fi_56_2 rfl rfl) fun ac119 hf132 => ?_)
                refine seq_one (op_val (v := .int .i64 nn8) hf132 rfl rfl rfl rfl rfl rfl (r_load ag_3 rfl (hI14.at 5 rfl) rfl) fun ac120 hf133 => ?_)
                refine seq_one (op_call (R := fun v w' => v = .bool (c.inn nn8) ∧ Inv _ [(b1, arr .i64 (c.drop nn8).lk, 103), (b2, arr .i64 (c.drop nn8).of, 3), (b3, arr .i64 (c.drop nn8).mn, 3), (b4, #[.slice (some ⟨b1, 0, none⟩) (N + K) (N + K), .slice (some ⟨b2, 0, none⟩) N N, .slice (some ⟨b3, 0, none⟩) K K], 79)] w') hf133 rfl rfl rfl rfl ca_32 ((drop_any (hI14.nd 0 rfl rfl rfl rfl) c (Has.cons (hI14.at 0 rfl) (Has.cons (hI14.at 1 rfl) (Has.cons (hI14.at 2 rfl) (Has.cons (hI14.at 3 rfl) Has.nil)))) nn8).mono fun _ _ h => ⟨_, h.1, rfl, h.2⟩) fun ac121 v wd20 hR10 hf134 => ?_)
                obtain ⟨rfl, hR10⟩ := hR10
                have hI31 : Inv w ([(b1, arr .i64 (c.drop nn8).lk, 103), (b2, arr .i64 (c.drop nn8).of, 3), (b3, arr .i64 (c.drop nn8).mn, 3), (b4, #[.slice (some ⟨b1, 0, none⟩) (N + K) (N + K), .slice (some ⟨b2, 0, none⟩) N N, .slice (some ⟨b3, 0, none⟩) K K], 79), (b7, #[.int .i64 (N : Int), .slice P0 (List.length LL) C0], 63), (b9, #[.int .u8 kd8, .int .i64 ii8, .int .i64 nn8], 56)] ++ SS) _ := Inv.callST (A := []) (S := [(b1, arr .i64 c.lk, 103), (b2, arr .i64 c.of, 3), (b3, arr .i64 c.mn, 3), (b4, #[.slice (some ⟨b1, 0, none⟩) (N + K) (N + K), .slice (some ⟨b2, 0, none⟩) N N, .slice (some ⟨b3, 0, none⟩) K K], 79)]) (S' := [(b1, arr .i64 (c.drop nn8).lk, 103), (b2, arr .i64 (c.drop nn8).of, 3), (b3, arr .i64 (c.drop nn8).mn, 3), (b4, #[.slice (some ⟨b1, 0, none⟩) (N + K) (N + K), .slice (some ⟨b2, 0, none⟩) N N, .slice (some ⟨b3, 0, none⟩) K K], 79)]) (L := [(b7, #[.int .i64 (N : Int), .slice P0 (List.length LL) C0], 63), (b9, #[.int .u8 kd8, .int .i64 ii8, .int .i64 nn8], 56)]) (N := []) (T := SS) hI14 hR10 rfl (fun _ h => by cases h)
                refine seq_one (op_val (v := .bool (c.inn nn8)) hf134 rfl rfl rfl rfl rfl rfl (r_assign rfl) fun ac122 hf135 => ?_)
                refine seq_end ?_
                clear hf129 ac117 hf130 ac118 hf131 ac119 hf132 ac120 wd9 hf133 hI14 hR10 ac121 hf134
                refine then_normal ?_
                refine code_seq ?_
                refine seq_start (l := [0, 1, 2, 3, 4, 5, 6, 7, 8, 9]) rfl ?_
                refine seq_one (op_val (v := .agg #[.int .i64 (N : Int), .slice P0 (List.length LL) C0]) hf135 rfl rfl rfl rfl rfl rfl (r_loadW ag_63 sz_63 rfl (hI31.at 4 rfl) rfl) fun ac123 hf136 => ?_)
                refine seq_one (op_val (v := .pointer (some ⟨b9, 2, none⟩)) hf136 rfl rfl rfl rfl rfl rfl (r_fieldAddr fi_56_2 rfl rfl) fun ac124 hf137 => ?_)
                refine seq_one (op_val (v := .int .i64 nn8) hf137 rfl rfl rfl rfl rfl rfl (r_load ag_3 rfl (hI31.at 5 rfl) rfl) fun ac125 hf138 => ?_)
                refine seq_one (op_call (R := fun v w' => ∃ S P2 C2 L2, v = .tuple #[.agg #[.int .i64 (N : Int), .slice P2 (List.length L2) C2], .bool (c.inn nn8)] ∧ Inv _ S w' ∧ (∀ x ∈ S, Array.size (World.heap _) ≤ x.1) ∧ Ch.Lof (c.drop nn8) L2 ∧ ∀ w0 SB, VL w0 SB P0 C0 LL → VL w0 (SB ++ S) P2 C2 L2) hf138 rfl rfl rfl rfl ca_38 ((rdrop_walk hx1.2.1 (VL.start_le hx1.2.2.1) (VL.rows hx1.2.2.1 hI31 (fk_app (fresh_keys (ks := [b1, b2, b3, b4, b7, b9]) rfl (fk_cons hb1 (fk_cons hb2 (fk_cons hb3 (fk_cons hb4 (fk_cons hb7 (fk_cons hb9 fk_nil))))))) hx1.2.2.2) (fun x hx => List.mem_append_right _ hx)) (VL.rds hx1.2.2.1 hI31 (fk_app (fresh_keys (ks := [b1, b2, b3, b4, b7, b9]) rfl (fk_cons hb1 (fk_cons hb2 (fk_cons hb3 (fk_cons hb4 (fk_cons hb7 (fk_cons hb9 fk_nil))))))) hx1.2.2.2) (fun x hx => List.mem_append_right _ hx)) (n := nn8)).mono fun _ _ ⟨S, P2, C2, L2, he, h1, h2, h3, h4⟩ => ⟨_, he, S, P2, C2, L2, rfl, h1, h2, h3, h4⟩) fun ac126 v wd21 hR hf139 => ?_)
                obtain ⟨Sq11, z11, cz11, L11, rfl, hw11, hz11, hlf11, hvl11⟩ := hR
                have hy11 := fk_le hI31.size hz11
                have hI32 : Inv w ([(b1, arr .i64 (c.drop nn8).lk, 103), (b2, arr .i64 (c.drop nn8).of, 3), (b3, arr .i64 (c.drop nn8).mn, 3), (b4, #[.slice (some ⟨b1, 0, none⟩) (N + K) (N + K), .slice (some ⟨b2, 0, none⟩) N N, .slice (some ⟨b3, 0, none⟩) K K], 79), (b7, #[.int .i64 (N : Int), .slice P0 (List.length LL) C0], 63), (b9, #[.int .u8 kd8, .int .i64 ii8, .int .i64 nn8], 56)] ++ (SS ++ Sq11)) _ := hI31.callN hw11 hz11
                have hV11 := hvl11 _ _ hx1.2.2.1
                refine seq_one (op_val (v := .tuple #[.agg #[.int .i64 (N : Int), .slice z11 (List.length L11) cz11], .bool (c.inn nn8)]) hf139 rfl rfl rfl rfl rfl rfl (r_move rfl) fun ac127 hf140 => ?_)
                refine seq_one (op_val (v := .agg #[.int .i64 (N : Int), .slice z11 (List.length L11) cz11]) hf140 rfl rfl rfl rfl rfl rfl (r_extract rfl rfl) fun ac128 hf141 => ?_)
                refine seq_one (op_val (v := .bool (c.inn nn8)) hf141 rfl rfl rfl rfl rfl rfl (r_extract rfl rfl) fun ac129 hf142 => ?_)
                refine seq_one (op_alloc hf142 rfl rfl rfl ze_63 hI32 fun ac130 b12 wd22 hb12 hI33 hf143 => ?_)
                have hI34 : Inv w ([(b1, arr .i64 (c.drop nn8).lk, 103), (b2, arr .i64 (c.drop nn8).of, 3), (b3, arr .i64 (c.drop nn8).mn, 3), (b4, #[.slice (some ⟨b1, 0, none⟩) (N + K) (N + K), .slice (some ⟨b2, 0, none⟩) N N, .slice (some ⟨b3, 0, none⟩) K K], 79), (b7, #[.int .i64 (N : Int), .slice P0 (List.length LL) C0], 63), (b9, #[.int .u8 kd8, .int .i64 ii8, .int .i64 nn8], 56), (b12, #[.int .i64 0, .slice none 0 0], 63)] ++ (SS ++ Sq11)) wd22 := Inv.tail (A := [(b1, arr .i64 (c.drop nn8).lk, 103), (b2, arr .i64 (c.drop nn8).of, 3), (b3, arr .i64 (c.drop nn8).mn, 3), (b4, #[.slice (some ⟨b1, 0, none⟩) (N + K) (N + K), .slice (some ⟨b2, 0, none⟩) N N, .slice (some ⟨b3, 0, none⟩) K K], 79), (b7, #[.int .i64 (N : Int), .slice P0 (List.length LL) C0], 63), (b9, #[.int .u8 kd8, .int .i64 ii8, .int .i64 nn8], 56)]) (T := (SS ++ Sq11)) (N := [(b12, #[.int .i64 0, .slice none 0 0], 63)]) hI33
                refine seq_one (op_storeW (cells := #[.int .i64 (N : Int), .slice z11 (List.length L11) cz11]) 6 hf143 rfl rfl rfl rfl rfl sz_63 rfl rfl hI34 rfl rfl fun wd23 hI35 => ?_)
                have hI36 : Inv w ([(b1, arr .i64 (c.drop nn8).lk, 103), (b2, arr .i64 (c.drop nn8).of, 3), (b3, arr .i64 (c.drop nn8).mn, 3), (b4, #[.slice (some ⟨b1, 0, none⟩) (N + K) (N + K), .slice (some ⟨b2, 0, none⟩) N N, .slice (some ⟨b3, 0, none⟩) K K], 79), (b7, #[.int .i64 (N : Int), .slice P0 (List.length LL) C0], 63), (b9, #[.int .u8 kd8, .int .i64 ii8, .int .i64 nn8], 56), (b12, #[.int .i64 (N : Int), .slice z11 (List.length L11) cz11], 63)] ++ (SS ++ Sq11)) wd23 := hI35
                refine seq_one (op_val (v := .bool (c.inn nn8)) hf143 rfl rfl rfl rfl rfl rfl (r_assign rfl) fun ac131 hf144 => ?_)
                refine seq_end ?_
                clear ac122 hf135 ac123 hf136 ac124 hf137 ac125 wd20 hf138 hI31 hw11 hz11 ac126 hf139 ac127 hf140 ac128 hf141 ac129 wd21 hI32 hf142 hI33 wd22 hI34 hI35 ac130 hf143
                refine then_normal ?_
                refine code_seq ?_
                refine seq_start (l := [0, 1]) rfl ?_
                refine seq_one (op_val (v := .agg #[.int .i64 (N : Int), .slice z11 (List.length L11) cz11]) hf144 rfl rfl rfl rfl rfl rfl (r_loadW ag_63 sz_63 rfl (hI36.at 6 rfl) rfl) fun ac132 hf145 => ?_)
                refine seq_one (op_storeW (cells := #[.int .i64 (N : Int), .slice z11 (List.length L11) cz11]) 4 hf145 rfl rfl rfl rfl rfl sz_63 rfl rfl hI36 rfl rfl fun wd24 hI37 => ?_)
                have hI38 : Inv w ([(b1, arr .i64 (c.drop nn8).lk, 103), (b2, arr .i64 (c.drop nn8).of, 3), (b3, arr .i64 (c.drop nn8).mn, 3), (b4, #[.slice (some ⟨b1, 0, none⟩) (N + K) (N + K), .slice (some ⟨b2, 0, none⟩) N N, .slice (some ⟨b3, 0, none⟩) K K], 79), (b7, #[.int .i64 (N : Int), .slice z11 (List.length L11) cz11], 63), (b9, #[.int .u8 kd8, .int .i64 ii8, .int .i64 nn8], 56), (b12, #[.int .i64 (N : Int), .slice z11 (List.length L11) cz11], 63)] ++ (SS ++ Sq11)) wd24 := hI37
                refine seq_end ?_
                clear ac131 hf144 wd23 hI36 hI37
                refine then_normal ?_
                refine code_seq ?_
                refine seq_start (l := [0, 1, 2]) rfl ?_
                refine seq_one (op_val (v := .bool (c.inn nn8)) hf145 rfl rfl rfl rfl rfl rfl (r_move rfl) fun ac133 hf146 => ?_)
                refine seq_one (op_val (v := .bool (c.inn nn8)) hf146 rfl rfl rfl rfl rfl rfl (r_move rfl) fun ac134 hf147 => ?_)
                refine seq_one (op_val (v := .bool ((c.inn nn8) != (c.inn nn8))) hf147 rfl rfl rfl rfl rfl rfl (r_neB ub_4 rfl rfl) fun ac135 hf148 => ?_)
                refine seq_end ?_
                clear ac132 hf145 ac133 hf146 ac134 hf147
                refine then_normal ?_
                have hf149 := hf148.know 143 (u := .bool false) rfl (congrArg Value.bool (bne_self_eq_false _))
                refine code_if_false hf149 rfl ?_
                refine wp_skip ?_
                refine block_normal ?_
                refine then_normal ?_
                clear hf148
                exact ⟨((c.drop nn8), z11, cz11, L11, (SS ++ Sq11)), (hf149.cons 0 rfl (hf149.cons 1 rfl (hf149.cons 2 rfl (hf149.cons 7 rfl (hf149.cons 8 rfl (hf149.cons 9 rfl (hf149.cons 10 rfl (hf149.cons 12 rfl (hf149.cons 35 rfl (hf149.cons 36 rfl (hf149.cons 37 rfl (hf149.cons 38 rfl (hf149.cons 39 rfl (hf149.cons 40 rfl (hf149.cons 41 rfl (hf149.cons 42 rfl (hf149.cons 43 rfl (hf149.cons 44 rfl (hf149.cons 45 rfl (hf149.cons 46 rfl (hf149.cons 47 rfl (hf149.cons 48 rfl (hf149.cons 49 rfl (hf149.cons 50 rfl (hf149.cons 51 rfl (hf149.cons 52 rfl (hf149.cons 53 rfl (hf149.cons 54 rfl (hf149.cons 55 rfl (hf149.cons 58 rfl (hf149.cons 59 rfl (hf149.cons 60 rfl (hf149.cons 61 rfl (hf149.cons 62 rfl (hf149.cons 63 rfl (hf149.cons 64 rfl (hf149.cons 65 rfl (hf149.cons 66 rfl (hf149.cons 67 rfl (hf149.cons 68 rfl (hf149.cons 69 rfl (hf149.cons 70 rfl (hf149.cons 72 rfl (hf149.cons 73 rfl (hf149.cons 74 rfl (hf149.cons 75 rfl (hf149.cons 76 rfl (hf149.cons 77 rfl (hf149.cons 78 rfl (hf149.cons 79 rfl hf149.nil)))))))))))))))))))))))))))))))))))))))))))))))))), ⟨(Inv.keep (A := [(b1, arr .i64 (c.drop nn8).lk, 103), (b2, arr .i64 (c.drop nn8).of, 3), (b3, arr .i64 (c.drop nn8).mn, 3), (b4, #[.slice (some ⟨b1, 0, none⟩) (N + K) (N + K), .slice (some ⟨b2, 0, none⟩) N N, .slice (some ⟨b3, 0, none⟩) K K], 79), (b7, #[.int .i64 (N : Int), .slice z11 (List.length L11) cz11], 63), (b9, #[.int .u8 kd8, .int .i64 ii8, .int .i64 nn8], 56)]) (N := [(b12, #[.int .i64 (N : Int), .slice z11 (List.length L11) cz11], 63)]) (T := (SS ++ Sq11)) hI38 (fresh_keys (ks := [b12]) rfl (fk_cons hb12 fk_nil))), ⟨hlf11, hV11, (fk_app hx1.2.2.2 hy11)⟩⟩⟩
              · have hf150 := hf129.know 127 (u := .bool false) rfl (congrArg Value.bool c127_6)
                refine wp_skip ?_
                refine block_normal ?_
                refine then_normal ?_
                clear hf129
                exact ⟨(c, P0, C0, LL, SS), (hf150.cons 0 rfl (hf150.cons 1 rfl (hf150.cons 2 rfl (hf150.cons 7 rfl (hf150.cons 8 rfl (hf150.cons 9 rfl (hf150.cons 10 rfl (hf150.cons 12 rfl (hf150.cons 35 rfl (hf150.cons 36 rfl (hf150.cons 37 rfl (hf150.cons 38 rfl (hf150.cons 39 rfl (hf150.cons 40 rfl (hf150.cons 41 rfl (hf150.cons 42 rfl (hf150.cons 43 rfl (hf150.cons 44 rfl (hf150.cons 45 rfl (hf150.cons 46 rfl (hf150.cons 47 rfl (hf150.cons 48 rfl (hf150.cons 49 rfl (hf150.cons 50 rfl (hf150.cons 51 rfl (hf150.cons 52 rfl (hf150.cons 53 rfl (hf150.cons 54 rfl (hf150.cons 55 rfl (hf150.cons 58 rfl (hf150.cons 59 rfl (hf150.cons 60 rfl (hf150.cons 61 rfl (hf150.cons 62 rfl (hf150.cons 63 rfl (hf150.cons 64 rfl (hf150.cons 65 rfl (hf150.cons 66 rfl (hf150.cons 67 rfl (hf150.cons 68 rfl (hf150.cons 69 rfl (hf150.cons 70 rfl (hf150.cons 72 rfl (hf150.cons 73 rfl (hf150.cons 74 rfl (hf150.cons 75 rfl (hf150.cons 76 rfl (hf150.cons 77 rfl (hf150.cons 78 rfl (hf150.cons 79 rfl hf150.nil)))))))))))))))))))))))))))))))))))))))))))))))))), ⟨hI14, ⟨hx1.2.1, hx1.2.2.1, hx1.2.2.2⟩⟩⟩
        ·
          intro ⟨d, U0, UC, LU, SU⟩ ac136 wd25 hf151 ⟨hI39, hj39⟩
          clear ac60 wd9 hf65 hI14
          refine then_normal ?_
          refine code_seq ?_
          refine code_seq ?_
          refine seq_start (l := [0]) rfl ?_
          refine seq_one (op_val (v := .int .i64 (-1)) hf151 rfl rfl rfl rfl rfl rfl (r_assign rfl) fun ac137 hf152 => ?_)
          refine seq_end ?_
          clear ac136 hf151
          refine then_normal ?_
          refine wp_block ?_
          refine code_loop (α := Nat) (fun (k : Nat) => [(0, .int .i64 (K : Int)), (1, .int .i64 (N : Int)), (2, .slice p L cap), (7, .pointer (some ⟨b4, 0, none⟩)), (8, .int .i64 0), (9, .pointer (some ⟨b7, 0, none⟩)), (10, .int .i64 0), (12, .pointer (some ⟨b9, 0, none⟩)), (35, .tuple #[.pointer (some ⟨b4, 0, none⟩), .int .i64 0]), (36, .int .i64 (K : Int)), (37, .int .i64 (N : Int)), (38, .tuple #[.pointer (some ⟨b4, 0, none⟩), .int .i64 0]), (39, .pointer (some ⟨b4, 0, none⟩)), (40, .int .i64 0), (41, .tuple #[.agg #[.int .i64 (N : Int), .slice z6 (List.length L6) cz6], .int .i64 0]), (42, .int .i64 (K : Int)), (43, .int .i64 (K : Int)), (44, .int .i64 (N : Int)), (45, .int .i64 (N : Int)), (46, .tuple #[.agg #[.int .i64 (N : Int), .slice z6 (List.length L6) cz6], .int .i64 0]), (47, .agg #[.int .i64 (N : Int), .slice z6 (List.length L6) cz6]), (48, .int .i64 0), (49, .int .i64 0), (50, .int .i64 0), (51, .bool false), (52, .bool false), (53, .int .i64 0), (54, .bool false), (55, .bool false), (58, .bool false), (59, .bool false), (60, .int .i64 0), (61, .bool false), (62, .bool false), (63, .int .i64 (N : Int)), (64, .bool (decide ((N : Int) > 64))), (65, .bool (decide ((N : Int) > 64))), (66, .bool false), (67, .slice p L cap), (68, .int .i64 (L : Int)), (69, .bool (decide ((L : Int) > 60))), (70, .bool false), (72, .slice p L cap), (73, .int .i64 (L : Int)), (74, .int .i64 (i : Int)), (75, .bool true), (76, .pointer (slAt p (i * 3))), (77, .agg #[.int .u8 kd8, .int .i64 ii8, .int .i64 nn8]), (78, .pointer (some ⟨b9, 0, none⟩)), (79, .int .u8 kd8), (24, .int .i64 ((k : Int) - 1))]) (fun (k : Nat) => fun wL => Inv w ([(b1, arr .i64 d.lk, 103), (b2, arr .i64 d.of, 3), (b3, arr .i64 d.mn, 3), (b4, #[.slice (some ⟨b1, 0, none⟩) (N + K) (N + K), .slice (some ⟨b2, 0, none⟩) N N, .slice (some ⟨b3, 0, none⟩) K K], 79), (b7, #[.int .i64 (N : Int), .slice U0 (List.length LU) UC], 63), (b9, #[.int .u8 kd8, .int .i64 ii8, .int .i64 nn8], 56)] ++ SU) wL ∧ (k ≤ K + 2)) (fun (k : Nat) => K + 2 - k) 0 (hf152.cons 0 rfl (hf152.cons 1 rfl (hf152.cons 2 rfl (hf152.cons 7 rfl (hf152.cons 8 rfl (hf152.cons 9 rfl (hf152.cons 10 rfl (hf152.cons 12 rfl (hf152.cons 35 rfl (hf152.cons 36 rfl (hf152.cons 37 rfl (hf152.cons 38 rfl (hf152.cons 39 rfl (hf152.cons 40 rfl (hf152.cons 41 rfl (hf152.cons 42 rfl (hf152.cons 43 rfl (hf152.cons 44 rfl (hf152.cons 45 rfl (hf152.cons 46 rfl (hf152.cons 47 rfl (hf152.cons 48 rfl (hf152.cons 49 rfl (hf152.cons 50 rfl (hf152.cons 51 rfl (hf152.cons 52 rfl (hf152.cons 53 rfl (hf152.cons 54 rfl (hf152.cons 55 rfl (hf152.cons 58 rfl (hf152.cons 59 rfl (hf152.cons 60 rfl (hf152.cons 61 rfl (hf152.cons 62 rfl (hf152.cons 63 rfl (hf152.cons 64 rfl (hf152.cons 65 rfl (hf152.cons 66 rfl (hf152.cons 67 rfl (hf152.cons 68 rfl (hf152.cons 69 rfl (hf152.cons 70 rfl (hf152.cons 72 rfl (hf152.cons 73 rfl (hf152.cons 74 rfl (hf152.cons 75 rfl (hf152.cons 76 rfl (hf152.cons 77 rfl (hf152.cons 78 rfl (hf152.cons 79 rfl (hf152.cons 24 rfl hf152.nil))))))))))))))))))))))))))))))))))))))))))))))))))) ⟨hI39, Nat.zero_le _⟩ ?_
          intro k ac138 wd26 hf153 hL2
          obtain ⟨hI40, hx2⟩ := hL2
          clear ac137 wd25 hf152 hI39
          refine code_seq ?_
          refine code_seq ?_
          refine seq_start (l := [0, 1, 2]) rfl ?_
          refine seq_one (op_val (v := .int .i64 ((k : Int) - 1)) hf153 rfl rfl rfl rfl rfl rfl (r_move rfl) fun ac139 hf154 => ?_)
          refine seq_one (op_val (v := .int .i64 (K : Int)) hf154 rfl rfl rfl rfl rfl rfl (r_move rfl) fun ac140 hf155 => ?_)
          refine seq_one (op_val (v := .bool (decide (((k : Int) - 1) ≤ (K : Int)))) hf155 rfl rfl rfl rfl rfl rfl (r_leq rfl rfl) fun ac141 hf156 => ?_)
          refine seq_end ?_
          clear ac138 hf153 ac139 hf154 ac140 hf155
          refine then_normal ?_
          refine code_if hf156 rfl (fun c146_7 => ?_) (fun c146_7 => ?_)
          · have hf157 := hf156.know 146 (u := .bool true) rfl (congrArg Value.bool c146_7)
            refine wp_skip ?_
            refine then_normal ?_
            refine code_seq ?_
            refine wp_block ?_
            refine code_seq ?_
            refine any_start (fun w => Has [(b7, #[.int .i64 (N : Int), .slice U0 (List.length LU) UC], 63)] w) follows (Has.drew (Has.cons (hI40.at 4 rfl) Has.nil)) ?_
            have hS1 : Has [(b7, #[.int .i64 (N : Int), .slice U0 (List.length LU) UC], 63)] _ := Has.drew (Has.cons (hI40.at 4 rfl) Has.nil)
            have hI41 := hI40.drew
            refine any_val (i := 0) (v := .pointer (some ⟨b4, 0, none⟩)) hf157 rfl rfl rfl rfl rfl rfl (fun _ _ _ h => h) (by kernel_rfl) (by kernel_rfl) (by kernel_rfl) (fun wd26 hS1 => (r_move rfl)) hS1 fun ac142 hf158 => ?_
            refine any_val (i := 1) (v := .int .i64 ((k : Int) - 1)) hf158 rfl rfl rfl rfl rfl rfl (fun _ _ _ h => h) (by kernel_rfl) (by kernel_rfl) (by kernel_rfl) (fun wd26 hS1 => (r_move rfl)) hS1 fun ac143 hf159 => ?_
            refine any_val (i := 3) (v := .agg #[.int .i64 (N : Int), .slice U0 (List.length LU) UC]) hf159 rfl rfl rfl rfl rfl rfl (fun _ _ _ h => h) (by kernel_rfl) (by kernel_rfl) (by kernel_rfl) (fun wd26 hS1 => (r_loadW ag_63 sz_63 rfl (hS1.at 0 rfl) rfl)) hS1 fun ac144 hf160 => ?_
            refine any_val (i := 4) (v := .int .i64 ((k : Int) - 1)) hf160 rfl rfl rfl rfl rfl rfl (fun _ _ _ h => h) (by kernel_rfl) (by kernel_rfl) (by kernel_rfl) (fun wd26 hS1 => (r_move rfl)) hS1 fun ac145 hf161 => ?_
            refine any_one (i := 2) (by kernel_rfl) ?_
            refine (op_call (R := fun v w' => ∃ S p cap, v = .slice p (d.lst ((k : Int) - 1)).length cap ∧ Sl 3 .i64 S p cap (d.lst ((k : Int) - 1)) ∧ Inv _ S w' ∧ ∀ x ∈ S, Array.size (World.heap _) ≤ x.1) hf161 rfl rfl rfl rfl ca_28 ((list_any (hI41.nd 0 rfl rfl rfl rfl) d (Has.cons (hI41.at 0 rfl) (Has.cons (hI41.at 1 rfl) (Has.cons (hI41.at 2 rfl) (Has.cons (hI41.at 3 rfl) Has.nil)))) ((k : Int) - 1)).mono fun _ _ ⟨S, p, cap, he, h1, h3, h4⟩ => ⟨_, he, S, p, cap, rfl, h1, h3, h4⟩) fun ac146 v wd27 hR hf162 => ?_)
            obtain ⟨Sq10, q10, capq10, rfl, hsq10, hwq10, hzq10⟩ := hR
            have hyq10 := fk_le hI41.size hzq10
            have hI42 : Inv w ([(b1, arr .i64 d.lk, 103), (b2, arr .i64 d.of, 3), (b3, arr .i64 d.mn, 3), (b4, #[.slice (some ⟨b1, 0, none⟩) (N + K) (N + K), .slice (some ⟨b2, 0, none⟩) N N, .slice (some ⟨b3, 0, none⟩) K K], 79), (b7, #[.int .i64 (N : Int), .slice U0 (List.length LU) UC], 63), (b9, #[.int .u8 kd8, .int .i64 ii8, .int .i64 nn8], 56)] ++ (SU ++ Sq10)) _ := hI41.callN hwq10 hzq10
            refine ⟨?_, ?_⟩
            · exact (Has.cons (hI42.at 4 rfl) Has.nil)
            have hS2 : Has [(b7, #[.int .i64 (N : Int), .slice U0 (List.length LU) UC], 63)] _ := (Has.cons (hI42.at 4 rfl) Has.nil)
            refine any_one (i := 5) (by kernel_rfl) ?_
            refine (op_call (R := fun v w' => ∃ p cap, v = .slice p (d.lst ((k : Int) - 1)).length cap ∧ (∀ w0 SB, VL w0 SB U0 UC LU → VN w0 SB p (d.lst ((k : Int) - 1))) ∧ Inv _ [] w') hf162 rfl rfl rfl rfl ca_39 ((rlist_walk (l := ((k : Int) - 1)) hj39.1 (VL.start_le hj39.2.1) (VL.rows hj39.2.1 hI42 (fk_app (fresh_keys (ks := [b1, b2, b3, b4, b7, b9]) rfl (fk_cons hb1 (fk_cons hb2 (fk_cons hb3 (fk_cons hb4 (fk_cons hb7 (fk_cons hb9 fk_nil))))))) (fk_app hj39.2.2 hyq10)) (fun x hx => List.mem_append_right _ (List.mem_append_left _ hx))) (VL.rds hj39.2.1 hI42 (fk_app (fresh_keys (ks := [b1, b2, b3, b4, b7, b9]) rfl (fk_cons hb1 (fk_cons hb2 (fk_cons hb3 (fk_cons hb4 (fk_cons hb7 (fk_cons hb9 fk_nil))))))) (fk_app hj39.2.2 hyq10)) (fun x hx => List.mem_append_right _ (List.mem_append_left _ hx)))).mono fun _ _ ⟨p, cap, he, h1, h2⟩ => ⟨_, he, p, cap, rfl, h1, h2⟩) fun ac147 v wd28 hR hf163 => ?_)
            obtain ⟨v11, u11, rfl, hv11, hw11⟩ := hR
            have hI43 := hI42.call0 hw11
            have hV11 := hv11 _ _ hj39.2.1
            refine ⟨?_, ?_⟩
            · exact (Has.cons (hI43.at 4 rfl) Has.nil)
            have hS3 : Has [(b7, #[.int .i64 (N : Int), .slice U0 (List.length LU) UC], 63)] _ := (Has.cons (hI43.at 4 rfl) Has.nil)
            refine any_val (i := 6) (v := .slice q10 ((d.lst ((k : Int) - 1)).length) capq10) hf163 rfl rfl rfl rfl rfl rfl (fun _ _ _ h => h) (by kernel_rfl) (by kernel_rfl) (by kernel_rfl) (fun wd28 hS3 => (r_assign rfl)) hS3 fun ac148 hf164 => ?_
            refine any_val (i := 7) (v := .slice v11 ((d.lst ((k : Int) - 1)).length) u11) hf164 rfl rfl rfl rfl rfl rfl (fun _ _ _ h => h) (by kernel_rfl) (by kernel_rfl) (by kernel_rfl) (fun wd28 hS3 => (r_assign rfl)) hS3 fun ac149 hf165 => ?_
            refine any_end (by kernel_rfl) ?_
            clear hf156 hI40 ac141 hf157 ac142 hf158 ac143 hf159 ac144 hf160 ac145 wd26 hf161 hI41 hwq10 hzq10 hS1 ac146 wd27 hf162 hI42 hw11 hS2 ac147 hf163 ac148 hf164 hS3
            refine then_normal ?_
            refine code_seq ?_
            refine seq_start (l := [0, 1, 2, 3, 4, 5, 6, 7]) rfl ?_
            refine seq_one (op_val (v := .pointer (some ⟨b4, 0, none⟩)) hf165 rfl rfl rfl rfl rfl rfl (r_move rfl) fun ac150 hf166 => ?_)
            refine seq_one (op_val (v := .int .i64 ((k : Int) - 1)) hf166 rfl rfl rfl rfl rfl rfl (r_move rfl) fun ac151 hf167 => ?_)
            refine seq_one (op_pureW hf167 rfl rfl rfl rfl ca_40 (first_any (hI43.nd 0 rfl rfl rfl rfl) d (Has.cons (hI43.at 0 rfl) (Has.cons (hI43.at 1 rfl) (Has.cons (hI43.at 2 rfl) (Has.cons (hI43.at 3 rfl) Has.nil)))) ((k : Int) - 1)) hI43 fun ac152 wd29 hI44 hf168 => ?_)
            refine seq_one (op_val (v := .tuple #[.int .i64 (d.fst ((k : Int) - 1)), .bool (d.some_ ((k : Int) - 1))]) hf168 rfl rfl rfl rfl rfl rfl (r_move rfl) fun ac153 hf169 => ?_)
            refine seq_one (op_val (v := .int .i64 (d.fst ((k : Int) - 1))) hf169 rfl rfl rfl rfl rfl rfl (r_extract rfl rfl) fun ac154 hf170 => ?_)
            refine seq_one (op_val (v := .bool (d.some_ ((k : Int) - 1))) hf170 rfl rfl rfl rfl rfl rfl (r_extract rfl rfl) fun ac155 hf171 => ?_)
            refine seq_one (op_val (v := .int .i64 (d.fst ((k : Int) - 1))) hf171 rfl rfl rfl rfl rfl rfl (r_assign rfl) fun ac156 hf172 => ?_)
            refine seq_one (op_val (v := .bool (d.some_ ((k : Int) - 1))) hf172 rfl rfl rfl rfl rfl rfl (r_assign rfl) fun ac157 hf173 => ?_)
            refine seq_end ?_
            clear ac149 hf165 ac150 hf166 ac151 wd28 hI43 hf167 ac152 hf168 ac153 hf169 ac154 hf170 ac155 hf171 ac156 hf172
            refine then_normal ?_
            refine code_seq ?_
            refine code_seq ?_
            refine seq_start (l := [0, 1, 2, 3, 4, 5, 6, 7, 8, 9, 10, 11, 12, 13, 14, 15, 16, 17, 18, 19, 20, 21, 22, 23, 24, 25, 26, 27, 28, 29, 30, 31, 32, 33, 34, 35, 36]) rfl ?_
            refine seq_one (op_val (v := .slice q10 ((d.lst ((k : Int) - 1)).length) capq10) hf173 rfl rfl rfl rfl rfl rfl (r_move rfl) fun ac158 hf174 => ?_)
            refine seq_one (op_val (v := .slice v11 ((d.lst ((k : Int) - 1)).length) u11) hf174 rfl rfl rfl rfl rfl rfl (r_move rfl) fun ac159 hf175 => ?_)
            refine seq_one (op_pureW hf175 rfl rfl rfl rfl ca_19 (ints_walk (xs := (d.lst ((k : Int) - 1))) (ys := (d.lst ((k : Int) - 1))) rfl rfl (Nat.le_trans (Ch.lst_le _ _) (by omega)) (hsq10.rd hI44 (fun x hx => List.mem_append_right _ (List.mem_append_right _ hx))) (VN.rd hV11 hI44 (fk_app (fresh_keys (ks := [b1, b2, b3, b4, b7, b9]) rfl (fk_cons hb1 (fk_cons hb2 (fk_cons hb3 (fk_cons hb4 (fk_cons hb7 (fk_cons hb9 fk_nil))))))) (fk_app hj39.2.2 hyq10)) (fun x hx => List.mem_append_right _ (List.mem_append_left _ hx)))) hI44 fun ac160 wd30 hI45 hf176 => ?_)
            refine seq_one (op_val (v := .bool (!((d.lst ((k : Int) - 1)) == (d.lst ((k : Int) - 1))))) hf176 rfl rfl rfl rfl rfl rfl (r_not rfl) fun ac161 hf177 => ?_)
            refine seq_one (op_val (v := .bool (!((d.lst ((k : Int) - 1)) == (d.lst ((k : Int) - 1))))) hf177 rfl rfl rfl rfl rfl rfl (r_move rfl) fun ac162 hf178 => ?_)
            have hf179 := hf178.know 165 (u := .bool false) rfl (congrArg Value.bool (by rw [beq_self_eq_true]; rfl))
            refine seq_one (op_val (v := .pointer (some ⟨b4, 0, none⟩)) hf179 rfl rfl rfl rfl rfl rfl (r_move rfl) fun ac163 hf180 => ?_)
            refine seq_one (op_val (v := .int .i64 ((k : Int) - 1)) hf180 rfl rfl rfl rfl rfl rfl (r_move rfl) fun ac164 hf181 => ?_)
            refine seq_one (op_pureW hf181 rfl rfl rfl rfl ca_41 (len_any (hI45.nd 0 rfl rfl rfl rfl) d (Has.cons (hI45.at 0 rfl) (Has.cons (hI45.at 1 rfl) (Has.cons (hI45.at 2 rfl) (Has.cons (hI45.at 3 rfl) Has.nil)))) ((k : Int) - 1)) hI45 fun ac165 wd31 hI46 hf182 => ?_)
            refine seq_one (op_val (v := .slice v11 ((d.lst ((k : Int) - 1)).length) u11) hf182 rfl rfl rfl rfl rfl rfl (r_move rfl) fun ac166 hf183 => ?_)
            refine seq_one (op_val (v := .int .i64 ((d.lst ((k : Int) - 1)).length : Int)) hf183 rfl rfl rfl rfl rfl rfl (r_len sl_27 rfl) fun ac167 hf184 => ?_)
            refine seq_one (op_val (v := .bool (((d.lst ((k : Int) - 1)).length : Int) != ((d.lst ((k : Int) - 1)).length : Int))) hf184 rfl rfl rfl rfl rfl rfl (r_neq rfl rfl) fun ac168 hf185 => ?_)
            refine seq_one (op_val (v := .bool (((d.lst ((k : Int) - 1)).length : Int) != ((d.lst ((k : Int) - 1)).length : Int))) hf185 rfl rfl rfl rfl rfl rfl (r_pickF rfl rfl) fun ac169 hf186 => ?_)
            refine seq_one (op_val (v := .bool (((d.lst ((k : Int) - 1)).length : Int) != ((d.lst ((k : Int) - 1)).length : Int))) hf186 rfl rfl rfl rfl rfl rfl (r_move rfl) fun ac170 hf187 => ?_)
            have hf188 := hf187.know 173 (u := .bool false) rfl (congrArg Value.bool (bne_self_eq_false _))
            refine seq_one (op_val (v := .bool (d.some_ ((k : Int) - 1))) hf188 rfl rfl rfl rfl rfl rfl (r_move rfl) fun ac171 hf189 => ?_)
            refine seq_one (op_val (v := .slice v11 ((d.lst ((k : Int) - 1)).length) u11) hf189 rfl rfl rfl rfl rfl rfl (r_move rfl) fun ac172 hf190 => ?_)
            refine seq_one (op_val (v := .int .i64 ((d.lst ((k : Int) - 1)).length : Int)) hf190 rfl rfl rfl rfl rfl rfl (r_len sl_27 rfl) fun ac173 hf191 => ?_)
            refine seq_one (op_val (v := .bool (decide (((d.lst ((k : Int) - 1)).length : Int) > 0))) hf191 rfl rfl rfl rfl rfl rfl (r_gtr rfl rfl) fun ac174 hf192 => ?_)
            refine seq_one (op_val (v := .bool ((d.some_ ((k : Int) - 1)) != (decide (((d.lst ((k : Int) - 1)).length : Int) > 0)))) hf192 rfl rfl rfl rfl rfl rfl (r_neB ub_4 rfl rfl) fun ac175 hf193 => ?_)
            refine seq_one (op_val (v := .bool ((d.some_ ((k : Int) - 1)) != (decide (((d.lst ((k : Int) - 1)).length : Int) > 0)))) hf193 rfl rfl rfl rfl rfl rfl (r_pickF rfl rfl) fun ac176 hf194 => ?_)
            refine seq_one (op_val (v := .bool ((d.some_ ((k : Int) - 1)) != (decide (((d.lst ((k : Int) - 1)).length : Int) > 0)))) hf194 rfl rfl rfl rfl rfl rfl (r_move rfl) fun ac177 hf195 => ?_)
            have hf196 := hf195.know 180 (u := .bool false) rfl (congrArg Value.bool (Ch.some_len d _))
            refine seq_one (op_val (v := .bool (d.some_ ((k : Int) - 1))) hf196 rfl rfl rfl rfl rfl rfl (r_move rfl) fun ac178 hf197 => ?_)
            refine seq_one (op_val (v := .bool (d.some_ ((k : Int) - 1))) hf197 rfl rfl rfl rfl rfl rfl (r_move rfl) fun ac179 hf198 => ?_)
            rcases Bool.eq_false_or_eq_true (d.some_ ((k : Int) - 1) : Bool) with g182_8 | g182_8
            · have hf199 := hf198.know 182 (u := .bool true) rfl (congrArg Value.bool g182_8)
              refine seq_one (op_val (v := .int .i64 (d.fst ((k : Int) - 1))) hf199 rfl rfl rfl rfl rfl rfl (r_move rfl) fun ac180 hf200 => ?_)
              refine seq_one (op_val (v := .slice v11 ((d.lst ((k : Int) - 1)).length) u11) hf200 rfl rfl rfl rfl rfl rfl (r_move rfl) fun ac181 hf201 => ?_)
              refine seq_one (op_val (v := .pointer (slAt v11 0)) hf201 rfl rfl rfl rfl rfl rfl (r_indexAddrV (i := 0) sl_27 rfl rfl rfl (Ch.some_pos g182_8) (let r := (VN.rd hV11 hI46 (fk_app (fresh_keys (ks := [b1, b2, b3, b4, b7, b9]) rfl (fk_cons hb1 (fk_cons hb2 (fk_cons hb3 (fk_cons hb4 (fk_cons hb7 (fk_cons hb9 fk_nil))))))) (fk_app hj39.2.2 hyq10)) (fun x hx => List.mem_append_right _ (List.mem_append_left _ hx))) 0 (Ch.some_pos g182_8); ⟨r.choose, r.choose_spec.1⟩)) fun ac182 hf202 => ?_)
              refine seq_one (op_val (v := .int .i64 ((d.lst ((k : Int) - 1)).getD 0 0)) hf202 rfl rfl rfl rfl rfl rfl (r_loadV ag_3 rfl (VN.rd hV11 hI46 (fk_app (fresh_keys (ks := [b1, b2, b3, b4, b7, b9]) rfl (fk_cons hb1 (fk_cons hb2 (fk_cons hb3 (fk_cons hb4 (fk_cons hb7 (fk_cons hb9 fk_nil))))))) (fk_app hj39.2.2 hyq10)) (fun x hx => List.mem_append_right _ (List.mem_append_left _ hx))) (Ch.some_pos g182_8)) fun ac183 hf203 => ?_)
              refine seq_one (op_val (v := .bool ((d.fst ((k : Int) - 1)) != ((d.lst ((k : Int) - 1)).getD 0 0))) hf203 rfl rfl rfl rfl rfl rfl (r_neq rfl rfl) fun ac184 hf204 => ?_)
              refine seq_one (op_val (v := .bool ((d.fst ((k : Int) - 1)) != ((d.lst ((k : Int) - 1)).getD 0 0))) hf204 rfl rfl rfl rfl rfl rfl (r_pickT rfl rfl) fun ac185 hf205 => ?_)
              refine seq_one (op_val (v := .bool ((d.fst ((k : Int) - 1)) != ((d.lst ((k : Int) - 1)).getD 0 0))) hf205 rfl rfl rfl rfl rfl rfl (r_pickF rfl rfl) fun ac186 hf206 => ?_)
              refine seq_one (op_val (v := .bool ((d.fst ((k : Int) - 1)) != ((d.lst ((k : Int) - 1)).getD 0 0))) hf206 rfl rfl rfl rfl rfl rfl (r_move rfl) fun ac187 hf207 => ?_)
              have hf208 := hf207.know 190 (u := .bool false) rfl (congrArg Value.bool (Ch.fst_get d _))
              refine seq_one (op_val (v := .bool (d.some_ ((k : Int) - 1))) hf208 rfl rfl rfl rfl rfl rfl (r_move rfl) fun ac188 hf209 => ?_)
              refine seq_one (op_val (v := .bool (!(d.some_ ((k : Int) - 1)))) hf209 rfl rfl rfl rfl rfl rfl (r_not rfl) fun ac189 hf210 => ?_)
              refine seq_one (op_val (v := .bool (!(d.some_ ((k : Int) - 1)))) hf210 rfl rfl rfl rfl rfl rfl (r_move rfl) fun ac190 hf211 => ?_)
              have hf212 := hf211.know 193 (u := .bool false) rfl (congrArg Value.bool (by rw [g182_8]; rfl))
              refine seq_one (op_skip hf212 rfl rfl rfl rfl fun ac191 hf213 => ?_)
              refine seq_one (op_skip hf213 rfl rfl rfl rfl fun ac192 hf214 => ?_)
              refine seq_one (op_val (v := .bool false) hf214 rfl rfl rfl rfl rfl rfl (r_pickF rfl rfl) fun ac193 hf215 => ?_)
              refine seq_one (op_val (v := .bool false) hf215 rfl rfl rfl rfl rfl rfl (r_pickF rfl rfl) fun ac194 hf216 => ?_)
              refine seq_end ?_
              clear ac157 hf173 ac158 hf174 ac159 wd29 hI44 hf175 ac160 hf176 ac161 hf177 hf178 ac162 hf179 ac163 hf180 ac164 wd30 hI45 hf181 ac165 hf182 ac166 hf183 ac167 hf184 ac168 hf185 ac169 hf186 hf187 ac170 hf188 ac171 hf189 ac172 hf190 ac173 hf191 ac174 hf192 ac175 hf193 ac176 hf194 hf195 ac177 hf196 ac178 hf197 hf198 ac179 hf199 ac180 hf200 ac181 hf201 ac182 hf202 ac183 hf203 ac184 hf204 ac185 hf205 ac186 hf206 hf207 ac187 hf208 ac188 hf209 ac189 hf210 hf211 ac190 hf212 ac191 hf213 ac192 hf214 ac193 hf215
              refine then_normal ?_
              refine code_if_false hf216 rfl ?_
              refine wp_skip ?_
              refine then_normal ?_
              refine code_seq ?_
              refine seq_start (l := [0, 1, 2]) rfl ?_
              refine seq_one (op_val (v := .slice q10 ((d.lst ((k : Int) - 1)).length) capq10) hf216 rfl rfl rfl rfl rfl rfl (r_move rfl) fun ac195 hf217 => ?_)
              refine seq_one (op_val (v := .int .i64 ((d.lst ((k : Int) - 1)).length : Int)) hf217 rfl rfl rfl rfl rfl rfl (r_len sl_27 rfl) fun ac196 hf218 => ?_)
              refine seq_one (op_val (v := .int .i64 0) hf218 rfl rfl rfl rfl rfl rfl (r_move rfl) fun ac197 hf219 => ?_)
              refine seq_end ?_
              clear ac194 hf216 ac195 hf217 ac196 hf218
              refine then_normal ?_
              refine wp_block ?_
              refine code_loop (α := Nat × (List Int) × (List Blk)) (fun (x : Nat × (List Int) × (List Blk)) => match x with | (m, ws, SW) => [(0, .int .i64 (K : Int)), (1, .int .i64 (N : Int)), (2, .slice p L cap), (7, .pointer (some ⟨b4, 0, none⟩)), (8, .int .i64 0), (9, .pointer (some ⟨b7, 0, none⟩)), (10, .int .i64 0), (12, .pointer (some ⟨b9, 0, none⟩)), (24, .int .i64 ((k : Int) - 1)), (25, .slice q10 ((d.lst ((k : Int) - 1)).length) capq10), (26, .slice v11 ((d.lst ((k : Int) - 1)).length) u11), (27, .int .i64 (d.fst ((k : Int) - 1))), (28, .bool (d.some_ ((k : Int) - 1))), (35, .tuple #[.pointer (some ⟨b4, 0, none⟩), .int .i64 0]), (36, .int .i64 (K : Int)), (37, .int .i64 (N : Int)), (38, .tuple #[.pointer (some ⟨b4, 0, none⟩), .int .i64 0]), (39, .pointer (some ⟨b4, 0, none⟩)), (40, .int .i64 0), (41, .tuple #[.agg #[.int .i64 (N : Int), .slice z6 (List.length L6) cz6], .int .i64 0]), (42, .int .i64 (K : Int)), (43, .int .i64 (K : Int)), (44, .int .i64 (N : Int)), (45, .int .i64 (N : Int)), (46, .tuple #[.agg #[.int .i64 (N : Int), .slice z6 (List.length L6) cz6], .int .i64 0]), (47, .agg #[.int .i64 (N : Int), .slice z6 (List.length L6) cz6]), (48, .int .i64 0), (49, .int .i64 0), (50, .int .i64 0), (51, .bool false), (52, .bool false), (53, .int .i64 0), (54, .bool false), (55, .bool false), (58, .bool false), (59, .bool false), (60, .int .i64 0), (61, .bool false), (62, .bool false), (63, .int .i64 (N : Int)), (64, .bool (decide ((N : Int) > 64))), (65, .bool (decide ((N : Int) > 64))), (66, .bool false), (67, .slice p L cap), (68, .int .i64 (L : Int)), (69, .bool (decide ((L : Int) > 60))), (70, .bool false), (72, .slice p L cap), (73, .int .i64 (L : Int)), (74, .int .i64 (i : Int)), (75, .bool true), (76, .pointer (slAt p (i * 3))), (77, .agg #[.int .u8 kd8, .int .i64 ii8, .int .i64 nn8]), (78, .pointer (some ⟨b9, 0, none⟩)), (79, .int .u8 kd8), (144, .int .i64 ((k : Int) - 1)), (145, .int .i64 (K : Int)), (146, .bool true), (149, .pointer (some ⟨b4, 0, none⟩)), (150, .int .i64 ((k : Int) - 1)), (151, .slice q10 ((d.lst ((k : Int) - 1)).length) capq10), (152, .agg #[.int .i64 (N : Int), .slice U0 (List.length LU) UC]), (153, .int .i64 ((k : Int) - 1)), (154, .slice v11 ((d.lst ((k : Int) - 1)).length) u11), (155, .tuple #[.int .i64 (d.fst ((k : Int) - 1)), .bool (d.some_ ((k : Int) - 1))]), (156, .pointer (some ⟨b4, 0, none⟩)), (157, .int .i64 ((k : Int) - 1)), (158, .tuple #[.int .i64 (d.fst ((k : Int) - 1)), .bool (d.some_ ((k : Int) - 1))]), (159, .int .i64 (d.fst ((k : Int) - 1))), (160, .bool (d.some_ ((k : Int) - 1))), (161, .slice q10 ((d.lst ((k : Int) - 1)).length) capq10), (162, .slice v11 ((d.lst ((k : Int) - 1)).length) u11), (163, .bool ((d.lst ((k : Int) - 1)) == (d.lst ((k : Int) - 1)))), (164, .bool (!((d.lst ((k : Int) - 1)) == (d.lst ((k : Int) - 1))))), (165, .bool false), (166, .pointer (some ⟨b4, 0, none⟩)), (167, .int .i64 ((k : Int) - 1)), (168, .int .i64 ((d.lst ((k : Int) - 1)).length : Int)), (169, .slice v11 ((d.lst ((k : Int) - 1)).length) u11), (170, .int .i64 ((d.lst ((k : Int) - 1)).length : Int)), (171, .bool (((d.lst ((k : Int) - 1)).length : Int) != ((d.lst ((k : Int) - 1)).length : Int))), (172, .bool (((d.lst ((k : Int) - 1)).length : Int) != ((d.lst ((k : Int) - 1)).length : Int))), (173, .bool false), (174, .bool (d.some_ ((k : Int) - 1))), (175, .slice v11 ((d.lst ((k : Int) - 1)).length) u11), (176, .int .i64 ((d.lst ((k : Int) - 1)).length : Int)), (177, .bool (decide (((d.lst ((k : Int) - 1)).length : Int) > 0))), (178, .bool ((d.some_ ((k : Int) - 1)) != (decide (((d.lst ((k : Int) - 1)).length : Int) > 0)))), (179, .bool ((d.some_ ((k : Int) - 1)) != (decide (((d.lst ((k : Int) - 1)).length : Int) > 0)))), (180, .bool false), (181, .bool (d.some_ ((k : Int) - 1))), (182, .bool true), (183, .int .i64 (d.fst ((k : Int) - 1))), (184, .slice v11 ((d.lst ((k : Int) - 1)).length) u11), (185, .pointer (slAt v11 0)), (186, .int .i64 ((d.lst ((k : Int) - 1)).getD 0 0)), (187, .bool ((d.fst ((k : Int) - 1)) != ((d.lst ((k : Int) - 1)).getD 0 0))), (188, .bool ((d.fst ((k : Int) - 1)) != ((d.lst ((k : Int) - 1)).getD 0 0))), (189, .bool ((d.fst ((k : Int) - 1)) != ((d.lst ((k : Int) - 1)).getD 0 0))), (190, .bool false), (191, .bool (d.some_ ((k : Int) - 1))), (192, .bool (!(d.some_ ((k : Int) - 1)))), (193, .bool false), (196, .bool false), (197, .bool false), (198, .slice q10 ((d.lst ((k : Int) - 1)).length) capq10), (199, .int .i64 ((d.lst ((k : Int) - 1)).length : Int)), (200, .int .i64 (m : Int))]) (fun (x : Nat × (List Int) × (List Blk)) => match x with | (m, ws, SW) => fun wL => Inv w ([(b1, arr .i64 d.lk, 103), (b2, arr .i64 d.of, 3), (b3, arr .i64 d.mn, 3), (b4, #[.slice (some ⟨b1, 0, none⟩) (N + K) (N + K), .slice (some ⟨b2, 0, none⟩) N N, .slice (some ⟨b3, 0, none⟩) K K], 79), (b7, #[.int .i64 (N : Int), .slice U0 (List.length LU) UC], 63), (b9, #[.int .u8 kd8, .int .i64 ii8, .int .i64 nn8], 56)] ++ (SU ++ SW)) wL ∧ (m ≤ (d.lst ((k : Int) - 1)).length ∧ ws.length = (d.lst ((k : Int) - 1)).length ∧ Sl 3 .i64 SW q10 capq10 ws ∧ ∀ x ∈ SW, w.heap.size ≤ x.1)) (fun (x : Nat × (List Int) × (List Blk)) => match x with | (m, ws, SW) => (d.lst ((k : Int) - 1)).length - m) (0, (d.lst ((k : Int) - 1)), Sq10) (hf219.cons 0 rfl (hf219.cons 1 rfl (hf219.cons 2 rfl (hf219.cons 7 rfl (hf219.cons 8 rfl (hf219.cons 9 rfl (hf219.cons 10 rfl (hf219.cons 12 rfl (hf219.cons 24 rfl (hf219.cons 25 rfl (hf219.cons 26 rfl (hf219.cons 27 rfl (hf219.cons 28 rfl (hf219.cons 35 rfl (hf219.cons 36 rfl (hf219.cons 37 rfl (hf219.cons 38 rfl (hf219.cons 39 rfl (hf219.cons 40 rfl (hf219.cons 41 rfl (hf219.cons 42 rfl (hf219.cons 43 rfl (hf219.cons 44 rfl (hf219.cons 45 rfl (hf219.cons 46 rfl (hf219.cons 47 rfl (hf219.cons 48 rfl (hf219.cons 49 rfl (hf219.cons 50 rfl (hf219.cons 51 rfl (hf219.cons 52 rfl (hf219.cons 53 rfl (hf219.cons 54 rfl (hf219.cons 55 rfl (hf219.cons 58 rfl (hf219.cons 59 rfl (hf219.cons 60 rfl (hf219.cons 61 rfl (hf219.cons 62 rfl (hf219.cons 63 rfl (hf219.cons 64 rfl (hf219.cons 65 rfl (hf219.cons 66 rfl (hf219.cons 67 rfl (hf219.cons 68 rfl (hf219.cons 69 rfl (hf219.cons 70 rfl (hf219.cons 72 rfl (hf219.cons 73 rfl (hf219.cons 74 rfl (hf219.cons 75 rfl (hf219.cons 76 rfl (hf219.cons 77 rfl (hf219.cons 78 rfl (hf219.cons 79 rfl (hf219.cons 144 rfl (hf219.cons 145 rfl (hf219.cons 146 rfl (hf219.cons 149 rfl (hf219.cons 150 rfl (hf219.cons 151 rfl (hf219.cons 152 rfl (hf219.cons 153 rfl (hf219.cons 154 rfl (hf219.cons 155 rfl (hf219.cons 156 rfl (hf219.cons 157 rfl (hf219.cons 158 rfl (hf219.cons 159 rfl (hf219.cons 160 rfl (hf219.cons 161 rfl (hf219.cons 162 rfl (hf219.cons 163 rfl (hf219.cons 164 rfl (hf219.cons 165 rfl (hf219.cons 166 rfl (hf219.cons 167 rfl (hf219.cons 168 rfl (hf219.cons 169 rfl (hf219.cons 170 rfl (hf219.cons 171 rfl (hf219.cons 172 rfl (hf219.cons 173 rfl (hf219.cons 174 rfl (hf219.cons 175 rfl (hf219.cons 176 rfl (hf219.cons 177 rfl (hf219.cons 178 rfl (hf219.cons 179 rfl (hf219.cons 180 rfl (hf219.cons 181 rfl (hf219.cons 182 rfl (hf219.cons 183 rfl (hf219.cons 184 rfl (hf219.cons 185 rfl (hf219.cons 186 rfl (hf219.cons 187 rfl (hf219.cons 188 rfl (hf219.cons 189 rfl (hf219.cons 190 rfl (hf219.cons 191 rfl (hf219.cons 192 rfl (hf219.cons 193 rfl (hf219.cons 196 rfl (hf219.cons 197 rfl (hf219.cons 198 rfl (hf219.cons 199 rfl (hf219.cons 200 rfl hf219.nil)))))))))))))))))))))))))))))))))))))))))))))))))))))))))))))))))))))))))))))))))))))))))))))))))))))))))))) ⟨hI46, ⟨Nat.zero_le _, rfl, hsq10, hyq10⟩⟩ ?_
              intro ⟨m, ws, SW⟩ ac198 wd32 hf220 hL3
              obtain ⟨hI47, hx3⟩ := hL3
              dsimp only at hf220 hI47 hx3
              clear ac197 wd31 hf219 hI46
              refine code_seq ?_
              refine seq_start (l := [0]) rfl ?_
              refine seq_one (op_val (v := .bool (decide ((m : Int) < ((d.lst ((k : Int) - 1)).length : Int)))) hf220 rfl rfl rfl rfl rfl rfl (r_lss rfl rfl) fun ac199 hf221 => ?_)
              refine seq_end ?_
              clear ac198 hf220
              refine then_normal ?_
              refine code_seq ?_
              refine code_if hf221 rfl (fun c201_9 => ?_) (fun c201_9 => ?_)
              · have hf222 := hf221.know 201 (u := .bool true) rfl (congrArg Value.bool c201_9)
                refine wp_skip ?_
                refine then_normal ?_
                refine code_seq ?_
                refine wp_block ?_
                refine code_seq ?_
                refine seq_start (l := [0, 1]) rfl ?_
                refine seq_one (op_val (v := .int .i64 (m : Int)) hf222 rfl rfl rfl rfl rfl rfl (r_move rfl) fun ac200 hf223 => ?_)
                refine seq_one (op_val (v := .int .i64 (m : Int)) hf223 rfl rfl rfl rfl rfl rfl (r_assign rfl) fun ac201 hf224 => ?_)
                refine seq_end ?_
                clear hf221 ac199 hf222 ac200 hf223
                refine then_normal ?_
                refine seq_start (l := [0, 1, 2, 3]) rfl ?_
                refine seq_one (op_val (v := .slice q10 ((d.lst ((k : Int) - 1)).length) capq10) hf224 rfl rfl rfl rfl rfl rfl (r_move rfl) fun ac202 hf225 => ?_)
                refine seq_one (op_val (v := .int .i64 (m : Int)) hf225 rfl rfl rfl rfl rfl rfl (r_move rfl) fun ac203 hf226 => ?_)
                refine seq_one (op_val (v := .pointer (slAt q10 m)) hf226 rfl rfl rfl rfl rfl rfl (r_indexAddrV (i := m) sl_27 rfl rfl rfl (by have := of_decide_eq_true c201_9; have := hx3.2.1; omega) (let r := (hx3.2.2.1.rd hI47 (fun x hx => List.mem_append_right _ (List.mem_append_right _ hx))) m (by have := of_decide_eq_true c201_9; have := hx3.2.1; omega); ⟨r.choose, r.choose_spec.1⟩)) fun ac204 hf227 => ?_)
                refine seq_one (op_storeSl (A := ([(b1, arr .i64 d.lk, 103), (b2, arr .i64 d.of, 3), (b3, arr .i64 d.mn, 3), (b4, #[.slice (some ⟨b1, 0, none⟩) (N + K) (N + K), .slice (some ⟨b2, 0, none⟩) N N, .slice (some ⟨b3, 0, none⟩) K K], 79), (b7, #[.int .i64 (N : Int), .slice U0 (List.length LU) UC], 63), (b9, #[.int .u8 kd8, .int .i64 ii8, .int .i64 nn8], 56)] ++ SU)) (S := SW) (xs := ws) hf227 rfl rfl rfl rfl sz_3 hx3.2.2.1 (by have := of_decide_eq_true c201_9; have := hx3.2.1; omega) hI47 hx3.2.2.2 fun wd33 Sw12 hsw12 hzw12 hI48 => ?_)
                have hI49 : Inv w ([(b1, arr .i64 d.lk, 103), (b2, arr .i64 d.of, 3), (b3, arr .i64 d.mn, 3), (b4, #[.slice (some ⟨b1, 0, none⟩) (N + K) (N + K), .slice (some ⟨b2, 0, none⟩) N N, .slice (some ⟨b3, 0, none⟩) K K], 79), (b7, #[.int .i64 (N : Int), .slice U0 (List.length LU) UC], 63), (b9, #[.int .u8 kd8, .int .i64 ii8, .int .i64 nn8], 56)] ++ (SU ++ Sw12)) wd33 := hI48
                refine seq_end ?_
                clear ac201 hf224 ac202 hf225 ac203 hf226 wd32 hI47 hI48
                refine block_normal ?_
                refine then_normal ?_
                refine seq_start (l := [0, 1]) rfl ?_
                refine seq_one (op_val (v := .int .i64 ((m + 1 : Nat) : Int)) hf227 rfl rfl rfl rfl rfl rfl (r_add (c := ((m + 1 : Nat) : Int)) rfl rfl (wrap_i64 (by have := of_decide_eq_true c201_9; have := Ch.lst_le d ((k : Int) - 1); omega) (by have := of_decide_eq_true c201_9; have := Ch.lst_le d ((k : Int) - 1); omega))) fun ac205 hf228 => ?_)
                refine seq_one (op_val (v := .int .i64 ((m + 1 : Nat) : Int)) hf228 rfl rfl rfl rfl rfl rfl (r_move rfl) fun ac206 hf229 => ?_)
                refine seq_end ?_
                clear ac204 hf227 ac205 hf228
                refine then_normal ?_
                exact ⟨(m + 1, (ws.set m (-1)), Sw12), (hf229.cons 0 rfl (hf229.cons 1 rfl (hf229.cons 2 rfl (hf229.cons 7 rfl (hf229.cons 8 rfl (hf229.cons 9 rfl (hf229.cons 10 rfl (hf229.cons 12 rfl (hf229.cons 24 rfl (hf229.cons 25 rfl (hf229.cons 26 rfl (hf229.cons 27 rfl (hf229.cons 28 rfl (hf229.cons 35 rfl (hf229.cons 36 rfl (hf229.cons 37 rfl (hf229.cons 38 rfl (hf229.cons 39 rfl (hf229.cons 40 rfl (hf229.cons 41 rfl (hf229.cons 42 rfl (hf229.cons 43 rfl (hf229.cons 44 rfl (hf229.cons 45 rfl (hf229.cons 46 rfl (hf229.cons 47 rfl (hf229.cons 48 rfl (hf229.cons 49 rfl (hf229.cons 50 rfl (hf229.cons 51 rfl (hf229.cons 52 rfl (hf229.cons 53 rfl (hf229.cons 54 rfl (hf229.cons 55 rfl (hf229.cons 58 rfl (hf229.cons 59 rfl (hf229.cons 60 rfl (hf229.cons 61 rfl (hf229.cons 62 rfl (hf229.cons 63 rfl (hf229.cons 64 rfl (hf229.cons 65 rfl (hf229.cons 66 rfl (hf229.cons 67 rfl (hf229.cons 68 rfl (hf229.cons 69 rfl (hf229.cons 70 rfl (hf229.cons 72 rfl (hf229.cons 73 rfl (hf229.cons 74 rfl (hf229.cons 75 rfl (hf229.cons 76 rfl (hf229.cons 77 rfl (hf229.cons 78 rfl (hf229.cons 79 rfl (hf229.cons 144 rfl (hf229.cons 145 rfl (hf229.cons 146 rfl (hf229.cons 149 rfl (hf229.cons 150 rfl (hf229.cons 151 rfl (hf229.cons 152 rfl (hf229.cons 153 rfl (hf229.cons 154 rfl (hf229.cons 155 rfl (hf229.cons 156 rfl (hf229.cons 157 rfl (hf229.cons 158 rfl (hf229.cons 159 rfl (hf229.cons 160 rfl (hf229.cons 161 rfl (hf229.cons 162 rfl (hf229.cons 163 rfl (hf229.cons 164 rfl (hf229.cons 165 rfl (hf229.cons 166 rfl (hf229.cons 167 rfl (hf229.cons 168 rfl (hf229.cons 169 rfl (hf229.cons 170 rfl (hf229.cons 171 rfl (hf229.cons 172 rfl (hf229.cons 173 rfl (hf229.cons 174 rfl (hf229.cons 175 rfl (hf229.cons 176 rfl (hf229.cons 177 rfl (hf229.cons 178 rfl (hf229.cons 179 rfl (hf229.cons 180 rfl (hf229.cons 181 rfl (hf229.cons 182 rfl (hf229.cons 183 rfl (hf229.cons 184 rfl (hf229.cons 185 rfl (hf229.cons 186 rfl (hf229.cons 187 rfl (hf229.cons 188 rfl (hf229.cons 189 rfl (hf229.cons 190 rfl (hf229.cons 191 rfl (hf229.cons 192 rfl (hf229.cons 193 rfl (hf229.cons 196 rfl (hf229.cons 197 rfl (hf229.cons 198 rfl (hf229.cons 199 rfl (hf229.cons 200 rfl hf229.nil)))))))))))))))))))))))))))))))))))))))))))))))))))))))))))))))))))))))))))))))))))))))))))))))))))))))))))), ⟨hI49, ⟨(by have := of_decide_eq_true c201_9; omega), List.length_set.trans hx3.2.1, hsw12, hzw12⟩⟩, (by have := of_decide_eq_true c201_9; show (d.lst ((k : Int) - 1)).length - (m + 1) < (d.lst ((k : Int) - 1)).length - m; omega)⟩
              · have hf230 := hf221.know 201 (u := .bool false) rfl (congrArg Value.bool c201_9)
                refine wp_exit ?_
                refine then_exit ?_
                refine then_exit ?_
                refine block_here ?_
                refine block_normal ?_
                refine then_normal ?_
                refine seq_start (l := [0, 1, 2]) rfl ?_
                refine seq_one (op_val (v := .int .i64 ((k : Int) - 1)) hf230 rfl rfl rfl rfl rfl rfl (r_move rfl) fun ac207 hf231 => ?_)
                refine seq_one (op_val (v := .int .i64 (((k + 1 : Nat) : Int) - 1)) hf231 rfl rfl rfl rfl rfl rfl (r_add (c := (((k + 1 : Nat) : Int) - 1)) rfl rfl (by rw [show ((k : Int) - 1) + 1 = ((k + 1 : Nat) : Int) - 1 by omega]; exact (wrap_i64 (by have := of_decide_eq_true c146_7; omega) (by have := of_decide_eq_true c146_7; omega)))) fun ac208 hf232 => ?_)
                refine seq_one (op_val (v := .int .i64 (((k + 1 : Nat) : Int) - 1)) hf232 rfl rfl rfl rfl rfl rfl (r_assign rfl) fun ac209 hf233 => ?_)
                refine seq_end ?_
                clear hf221 ac199 hf230 ac207 hf231 ac208 hf232
                refine then_normal ?_
                have hI50 : Inv w ([(b1, arr .i64 d.lk, 103), (b2, arr .i64 d.of, 3), (b3, arr .i64 d.mn, 3), (b4, #[.slice (some ⟨b1, 0, none⟩) (N + K) (N + K), .slice (some ⟨b2, 0, none⟩) N N, .slice (some ⟨b3, 0, none⟩) K K], 79), (b7, #[.int .i64 (N : Int), .slice U0 (List.length LU) UC], 63), (b9, #[.int .u8 kd8, .int .i64 ii8, .int .i64 nn8], 56)] ++ SU) _ := Inv.drop (A := ([(b1, arr .i64 d.lk, 103), (b2, arr .i64 d.of, 3), (b3, arr .i64 d.mn, 3), (b4, #[.slice (some ⟨b1, 0, none⟩) (N + K) (N + K), .slice (some ⟨b2, 0, none⟩) N N, .slice (some ⟨b3, 0, none⟩) K K], 79), (b7, #[.int .i64 (N : Int), .slice U0 (List.length LU) UC], 63), (b9, #[.int .u8 kd8, .int .i64 ii8, .int .i64 nn8], 56)] ++ SU)) (B := SW) hI47 hx3.2.2.2
                exact ⟨k + 1, (hf233.cons 0 rfl (hf233.cons 1 rfl (hf233.cons 2 rfl (hf233.cons 7 rfl (hf233.cons 8 rfl (hf233.cons 9 rfl (hf233.cons 10 rfl (hf233.cons 12 rfl (hf233.cons 35 rfl (hf233.cons 36 rfl (hf233.cons 37 rfl (hf233.cons 38 rfl (hf233.cons 39 rfl (hf233.cons 40 rfl (hf233.cons 41 rfl (hf233.cons 42 rfl (hf233.cons 43 rfl (hf233.cons 44 rfl (hf233.cons 45 rfl (hf233.cons 46 rfl (hf233.cons 47 rfl (hf233.cons 48 rfl (hf233.cons 49 rfl (hf233.cons 50 rfl (hf233.cons 51 rfl (hf233.cons 52 rfl (hf233.cons 53 rfl (hf233.cons 54 rfl (hf233.cons 55 rfl (hf233.cons 58 rfl (hf233.cons 59 rfl (hf233.cons 60 rfl (hf233.cons 61 rfl (hf233.cons 62 rfl (hf233.cons 63 rfl (hf233.cons 64 rfl (hf233.cons 65 rfl (hf233.cons 66 rfl (hf233.cons 67 rfl (hf233.cons 68 rfl (hf233.cons 69 rfl (hf233.cons 70 rfl (hf233.cons 72 rfl (hf233.cons 73 rfl (hf233.cons 74 rfl (hf233.cons 75 rfl (hf233.cons 76 rfl (hf233.cons 77 rfl (hf233.cons 78 rfl (hf233.cons 79 rfl (hf233.cons 24 rfl hf233.nil))))))))))))))))))))))))))))))))))))))))))))))))))), ⟨hI50, (by have := of_decide_eq_true c146_7; omega)⟩, (by have := of_decide_eq_true c146_7; show K + 2 - (k + 1) < K + 2 - k; omega)⟩
            · have hf234 := hf198.know 182 (u := .bool false) rfl (congrArg Value.bool g182_8)
              refine seq_one (op_skip hf234 rfl rfl rfl rfl fun ac210 hf235 => ?_)
              refine seq_one (op_skip hf235 rfl rfl rfl rfl fun ac211 hf236 => ?_)
              refine seq_one (op_skip hf236 rfl rfl rfl rfl fun ac212 hf237 => ?_)
              refine seq_one (op_skip hf237 rfl rfl rfl rfl fun ac213 hf238 => ?_)
              refine seq_one (op_skip hf238 rfl rfl rfl rfl fun ac214 hf239 => ?_)
              refine seq_one (op_val (v := .bool false) hf239 rfl rfl rfl rfl rfl rfl (r_pickF rfl rfl) fun ac215 hf240 => ?_)
              refine seq_one (op_val (v := .bool false) hf240 rfl rfl rfl rfl rfl rfl (r_pickF rfl rfl) fun ac216 hf241 => ?_)
              refine seq_one (op_val (v := .bool false) hf241 rfl rfl rfl rfl rfl rfl (r_move rfl) fun ac217 hf242 => ?_)
              refine seq_one (op_val (v := .bool (d.some_ ((k : Int) - 1))) hf242 rfl rfl rfl rfl rfl rfl (r_move rfl) fun ac218 hf243 => ?_)
              refine seq_one (op_val (v := .bool (!(d.some_ ((k : Int) - 1)))) hf243 rfl rfl rfl rfl rfl rfl (r_not rfl) fun ac219 hf244 => ?_)
              refine seq_one (op_val (v := .bool (!(d.some_ ((k : Int) - 1)))) hf244 rfl rfl rfl rfl rfl rfl (r_move rfl) fun ac220 hf245 => ?_)
              have hf246 := hf245.know 193 (u := .bool true) rfl (congrArg Value.bool (by rw [g182_8]; rfl))
              refine seq_one (op_val (v := .int .i64 (d.fst ((k : Int) - 1))) hf246 rfl rfl rfl rfl rfl rfl (r_move rfl) fun ac221 hf247 => ?_)
              refine seq_one (op_val (v := .bool ((d.fst ((k : Int) - 1)) != 0)) hf247 rfl rfl rfl rfl rfl rfl (r_neq rfl rfl) fun ac222 hf248 => ?_)
              refine seq_one (op_val (v := .bool ((d.fst ((k : Int) - 1)) != 0)) hf248 rfl rfl rfl rfl rfl rfl (r_pickT rfl rfl) fun ac223 hf249 => ?_)
              refine seq_one (op_val (v := .bool ((d.fst ((k : Int) - 1)) != 0)) hf249 rfl rfl rfl rfl rfl rfl (r_pickF rfl rfl) fun ac224 hf250 => ?_)
              refine seq_end ?_
              clear ac157 hf173 ac158 hf174 ac159 wd29 hI44 hf175 ac160 hf176 ac161 hf177 hf178 ac162 hf179 ac163 hf180 ac164 wd30 hI45 hf181 ac165 hf182 ac166 hf183 ac167 hf184 ac168 hf185 ac169 hf186 hf187 ac170 hf188 ac171 hf189 ac172 hf190 ac173 hf191 ac174 hf192 ac175 hf193 ac176 hf194 hf195 ac177 hf196 ac178 hf197 hf198 ac179 hf234 ac210 hf235 ac211 hf236 ac212 hf237 ac213 hf238 ac214 hf239 ac215 hf240 ac216 hf241 ac217 hf242 ac218 hf243 ac219 hf244 hf245 ac220 hf246 ac221 hf247 ac222 hf248 ac223 hf249
              refine then_normal ?_
              have hf251 := hf250.know 197 (u := .bool false) rfl (congrArg Value.bool (Ch.fst_none g182_8))
              refine code_if_false hf251 rfl ?_
              refine wp_skip ?_
              refine then_normal ?_
              refine code_seq ?_
              refine seq_start (l := [0, 1, 2]) rfl ?_
              refine seq_one (op_val (v := .slice q10 ((d.lst ((k : Int) - 1)).length) capq10) hf251 rfl rfl rfl rfl rfl rfl (r_move rfl) fun ac225 hf252 => ?_)
              refine seq_one (op_val (v := .int .i64 ((d.lst ((k : Int) - 1)).length : Int)) hf252 rfl rfl rfl rfl rfl rfl (r_len sl_27 rfl) fun ac226 hf253 => ?_)
              refine seq_one (op_val (v := .int .i64 0) hf253 rfl rfl rfl rfl rfl rfl (r_move rfl) fun ac227 hf254 => ?_)
              refine seq_end ?_
              clear hf250 ac224 hf251 ac225 hf252 ac226 hf253
              refine then_normal ?_
              refine wp_block ?_
              refine code_loop (α := Nat × (List Int) × (List Blk)) (fun (x : Nat × (List Int) × (List Blk)) => match x with | (m, ws, SW) => [(0, .int .i64 (K : Int)), (1, .int .i64 (N : Int)), (2, .slice p L cap), (7, .pointer (some ⟨b4, 0, none⟩)), (8, .int .i64 0), (9, .pointer (some ⟨b7, 0, none⟩)), (10, .int .i64 0), (12, .pointer (some ⟨b9, 0, none⟩)), (24, .int .i64 ((k : Int) - 1)), (25, .slice q10 ((d.lst ((k : Int) - 1)).length) capq10), (26, .slice v11 ((d.lst ((k : Int) - 1)).length) u11), (27, .int .i64 (d.fst ((k : Int) - 1))), (28, .bool (d.some_ ((k : Int) - 1))), (35, .tuple #[.pointer (some ⟨b4, 0, none⟩), .int .i64 0]), (36, .int .i64 (K : Int)), (37, .int .i64 (N : Int)), (38, .tuple #[.pointer (some ⟨b4, 0, none⟩), .int .i64 0]), (39, .pointer (some ⟨b4, 0, none⟩)), (40, .int .i64 0), (41, .tuple #[.agg #[.int .i64 (N : Int), .slice z6 (List.length L6) cz6], .int .i64 0]), (42, .int .i64 (K : Int)), (43, .int .i64 (K : Int)), (44, .int .i64 (N : Int)), (45, .int .i64 (N : Int)), (46, .tuple #[.agg #[.int .i64 (N : Int), .slice z6 (List.length L6) cz6], .int .i64 0]), (47, .agg #[.int .i64 (N : Int), .slice z6 (List.length L6) cz6]), (48, .int .i64 0), (49, .int .i64 0), (50, .int .i64 0), (51, .bool false), (52, .bool false), (53, .int .i64 0), (54, .bool false), (55, .bool false), (58, .bool false), (59, .bool false), (60, .int .i64 0), (61, .bool false), (62, .bool false), (63, .int .i64 (N : Int)), (64, .bool (decide ((N : Int) > 64))), (65, .bool (decide ((N : Int) > 64))), (66, .bool false), (67, .slice p L cap), (68, .int .i64 (L : Int)), (69, .bool (decide ((L : Int) > 60))), (70, .bool false), (72, .slice p L cap), (73, .int .i64 (L : Int)), (74, .int .i64 (i : Int)), (75, .bool true), (76, .pointer (slAt p (i * 3))), (77, .agg #[.int .u8 kd8, .int .i64 ii8, .int .i64 nn8]), (78, .pointer (some ⟨b9, 0, none⟩)), (79, .int .u8 kd8), (144, .int .i64 ((k : Int) - 1)), (145, .int .i64 (K : Int)), (146, .bool true), (149, .pointer (some ⟨b4, 0, none⟩)), (150, .int .i64 ((k : Int) - 1)), (151, .slice q10 ((d.lst ((k : Int) - 1)).length) capq10), (152, .agg #[.int .i64 (N : Int), .slice U0 (List.length LU) UC]), (153, .int .i64 ((k : Int) - 1)), (154, .slice v11 ((d.lst ((k : Int) - 1)).length) u11), (155, .tuple #[.int .i64 (d.fst ((k : Int) - 1)), .bool (d.some_ ((k : Int) - 1))]), (156, .pointer (some ⟨b4, 0, none⟩)), (157, .int .i64 ((k : Int) - 1)), (158, .tuple #[.int .i64 (d.fst ((k : Int) - 1)), .bool (d.some_ ((k : Int) - 1))]), (159, .int .i64 (d.fst ((k : Int) - 1))), (160, .bool (d.some_ ((k : Int) - 1))), (161, .slice q10 ((d.lst ((k : Int) - 1)).length) capq10), (162, .slice v11 ((d.lst ((k : Int) - 1)).length) u11), (163, .bool ((d.lst ((k : Int) - 1)) == (d.lst ((k : Int) - 1)))), (164, .bool (!((d.lst ((k : Int) - 1)) == (d.lst ((k : Int) - 1))))), (165, .bool false), (166, .pointer (some ⟨b4, 0, none⟩)), (167, .int .i64 ((k : Int) - 1)), (168, .int .i64 ((d.lst ((k : Int) - 1)).length : Int)), (169, .slice v11 ((d.lst ((k : Int) - 1)).length) u11), (170, .int .i64 ((d.lst ((k : Int) - 1)).length : Int)), (171, .bool (((d.lst ((k : Int) - 1)).length : Int) != ((d.lst ((k : Int) - 1)).length : Int))), (172, .bool (((d.lst ((k : Int) - 1)).length : Int) != ((d.lst ((k : Int) - 1)).length : Int))), (173, .bool false), (174, .bool (d.some_ ((k : Int) - 1))), (175, .slice v11 ((d.lst ((k : Int) - 1)).length) u11), (176, .int .i64 ((d.lst ((k : Int) - 1)).length : Int)), (177, .bool (decide (((d.lst ((k : Int) - 1)).length : Int) > 0))), (178, .bool ((d.some_ ((k : Int) - 1)) != (decide (((d.lst ((k : Int) - 1)).length : Int) > 0)))), (179, .bool ((d.some_ ((k : Int) - 1)) != (decide (((d.lst ((k : Int) - 1)).length : Int) > 0)))), (180, .bool false), (181, .bool (d.some_ ((k : Int) - 1))), (182, .bool false), (188, .bool false), (189, .bool false), (190, .bool false), (191, .bool (d.some_ ((k : Int) - 1))), (192, .bool (!(d.some_ ((k : Int) - 1)))), (193, .bool true), (194, .int .i64 (d.fst ((k : Int) - 1))), (195, .bool ((d.fst ((k : Int) - 1)) != 0)), (196, .bool ((d.fst ((k : Int) - 1)) != 0)), (197, .bool false), (198, .slice q10 ((d.lst ((k : Int) - 1)).length) capq10), (199, .int .i64 ((d.lst ((k : Int) - 1)).length : Int)), (200, .int .i64 (m : Int))]) (fun (x : Nat × (List Int) × (List Blk)) => match x with | (m, ws, SW) => fun wL => Inv w ([(b1, arr .i64 d.lk, 103), (b2, arr .i64 d.of, 3), (b3, arr .i64 d.mn, 3), (b4, #[.slice (some ⟨b1, 0, none⟩) (N + K) (N + K), .slice (some ⟨b2, 0, none⟩) N N, .slice (some ⟨b3, 0, none⟩) K K], 79), (b7, #[.int .i64 (N : Int), .slice U0 (List.length LU) UC], 63), (b9, #[.int .u8 kd8, .int .i64 ii8, .int .i64 nn8], 56)] ++ (SU ++ SW)) wL ∧ (m ≤ (d.lst ((k : Int) - 1)).length ∧ ws.length = (d.lst ((k : Int) - 1)).length ∧ Sl 3 .i64 SW q10 capq10 ws ∧ ∀ x ∈ SW, w.heap.size ≤ x.1)) (fun (x : Nat × (List Int) × (List Blk)) => match x with | (m, ws, SW) => (d.lst ((k : Int) - 1)).length - m) (0, (d.lst ((k : Int) - 1)), Sq10) (hf254.cons 0 rfl (hf254.cons 1 rfl (hf254.cons 2 rfl (hf254.cons 7 rfl (hf254.cons 8 rfl (hf254.cons 9 rfl (hf254.cons 10 rfl (hf254.cons 12 rfl (hf254.cons 24 rfl (hf254.cons 25 rfl (hf254.cons 26 rfl (hf254.cons 27 rfl (hf254.cons 28 rfl (hf254.cons 35 rfl (hf254.cons 36 rfl (hf254.cons 37 rfl (hf254.cons 38 rfl (hf254.cons 39 rfl (hf254.cons 40 rfl (hf254.cons 41 rfl (hf254.cons 42 rfl (hf254.cons 43 rfl (hf254.cons 44 rfl (hf254.cons 45 rfl (hf254.cons 46 rfl (hf254.cons 47 rfl (hf254.cons 48 rfl (hf254.cons 49 rfl (hf254.cons 50 rfl (hf254.cons 51 rfl (hf254.cons 52 rfl (hf254.cons 53 rfl (hf254.cons 54 rfl (hf254.cons 55 rfl (hf254.cons 58 rfl (hf254.cons 59 rfl (hf254.cons 60 rfl (hf254.cons 61 rfl (hf254.cons 62 rfl (hf254.cons 63 rfl (hf254.cons 64 rfl (hf254.cons 65 rfl (hf254.cons 66 rfl (hf254.cons 67 rfl (hf254.cons 68 rfl (hf254.cons 69 rfl (hf254.cons 70 rfl (hf254.cons 72 rfl (hf254.cons 73 rfl (hf254.cons 74 rfl (hf254.cons 75 rfl (hf254.cons 76 rfl (hf254.cons 77 rfl (hf254.cons 78 rfl (hf254.cons 79 rfl (hf254.cons 144 rfl (hf254.cons 145 rfl (hf254.cons 146 rfl (hf254.cons 149 rfl (hf254.cons 150 rfl (hf254.cons 151 rfl (hf254.cons 152 rfl (hf254.cons 153 rfl (hf254.cons 154 rfl (hf254.cons 155 rfl (hf254.cons 156 rfl (hf254.cons 157 rfl (hf254.cons 158 rfl (hf254.cons 159 rfl (hf254.cons 160 rfl (hf254.cons 161 rfl (hf254.cons 162 rfl (hf254.cons 163 rfl (hf254.cons 164 rfl (hf254.cons 165 rfl (hf254.cons 166 rfl (hf254.cons 167 rfl (hf254.cons 168 rfl (hf254.cons 169 rfl (hf254.cons 170 rfl (hf254.cons 171 rfl (hf254.cons 172 rfl (hf254.cons 173 rfl (hf254.cons 174 rfl (hf254.cons 175 rfl (hf254.cons 176 rfl (hf254.cons 177 rfl (hf254.cons 178 rfl (hf254.cons 179 rfl (hf254.cons 180 rfl (hf254.cons 181 rfl (hf254.cons 182 rfl (hf254.cons 188 rfl (hf254.cons 189 rfl (hf254.cons 190 rfl (hf254.cons 191 rfl (hf254.cons 192 rfl (hf254.cons 193 rfl (hf254.cons 194 rfl (hf254.cons 195 rfl (hf254.cons 196 rfl (hf254.cons 197 rfl (hf254.cons 198 rfl (hf254.cons 199 rfl (hf254.cons 200 rfl hf254.nil))))))))))))))))))))))))))))))))))))))))))))))))))))))))))))))))))))))))))))))))))))))))))))))))))))))))) ⟨hI46, ⟨Nat.zero_le _, rfl, hsq10, hyq10⟩⟩ ?_
              intro ⟨m, ws, SW⟩ ac228 wd34 hf255 hL3
              obtain ⟨hI51, hx3⟩ := hL3
              dsimp only at hf255 hI51 hx3
              clear ac227 wd31 hf254 hI46
              refine code_seq ?_
              refine seq_start (l := [0]) rfl ?_
              refine seq_one (op_val (v := .bool (decide ((m : Int) < ((d.lst ((k : Int) - 1)).length : Int)))) hf255 rfl rfl rfl rfl rfl rfl (r_lss rfl rfl) fun ac229 hf256 => ?_)
              refine seq_end ?_
              clear ac228 hf255
              refine then_normal ?_
              refine code_seq ?_
              refine code_if hf256 rfl (fun c201_10 => ?_) (fun c201_10 => ?_)
              · have hf257 := hf256.know 201 (u := .bool true) rfl (congrArg Value.bool c201_10)
                refine wp_skip ?_
                refine then_normal ?_
                refine code_seq ?_
                refine wp_block ?_
                refine code_seq ?_
                refine seq_start (l := [0, 1]) rfl ?_
                refine seq_one (op_val (v := .int .i64 (m : Int)) hf257 rfl rfl rfl rfl rfl rfl (r_move rfl) fun ac230 hf258 => ?_)
                refine seq_one (op_val (v := .int .i64 (m : Int)) hf258 rfl rfl rfl rfl rfl rfl (r_assign rfl) fun ac231 hf259 => ?_)
                refine seq_end ?_
                clear hf256 ac229 hf257 ac230 hf258
                refine then_normal ?_
                refine seq_start (l := [0, 1, 2, 3]) rfl ?_
                refine seq_one (op_val (v := .slice q10 ((d.lst ((k : Int) - 1)).length) capq10) hf259 rfl rfl rfl rfl rfl rfl (r_move rfl) fun ac232 hf260 => ?_)
                refine seq_one (op_val (v := .int .i64 (m : Int)) hf260 rfl rfl rfl rfl rfl rfl (r_move rfl) fun ac233 hf261 => ?_)
                refine seq_one (op_val (v := .pointer (slAt q10 m)) hf261 rfl rfl rfl rfl rfl rfl (r_indexAddrV (i := m) sl_27 rfl rfl rfl (by have := of_decide_eq_true c201_10; have := hx3.2.1; omega) (let r := (hx3.2.2.1.rd hI51 (fun x hx => List.mem_append_right _ (List.mem_append_right _ hx))) m (by have := of_decide_eq_true c201_10; have := hx3.2.1; omega); ⟨r.choose, r.choose_spec.1⟩)) fun ac234 hf262 => ?_)
                refine seq_one (op_storeSl (A := ([(b1, arr .i64 d.lk, 103), (b2, arr .i64 d.of, 3), (b3, arr .i64 d.mn, 3), (b4, #[.slice (some ⟨b1, 0, none⟩) (N + K) (N + K), .slice (some ⟨b2, 0, none⟩) N N, .slice (some ⟨b3, 0, none⟩) K K], 79), (b7, #[.int .i64 (N : Int), .slice U0 (List.length LU) UC], 63), (b9, #[.int .u8 kd8, .int .i64 ii8, .int .i64 nn8], 56)] ++ SU)) (S := SW) (xs := ws) hf262 rfl rfl rfl rfl sz_3 hx3.2.2.1 (by have := of_decide_eq_true c201_10; have := hx3.2.1; omega) hI51 hx3.2.2.2 fun wd35 Sw12 hsw12 hzw12 hI52 => ?_)
                have hI53 : Inv w ([(b1, arr .i64 d.lk, 103), (b2, arr .i64 d.of, 3), (b3, arr .i64 d.mn, 3), (b4, #[.slice (some ⟨b1, 0, none⟩) (N + K) (N + K), .slice (some ⟨b2, 0, none⟩) N N, .slice (some ⟨b3, 0, none⟩) K K], 79), (b7, #[.int .i64 (N : Int), .slice U0 (List.length LU) UC], 63), (b9, #[.int .u8 kd8, .int .i64 ii8, .int .i64 nn8], 56)] ++ (SU ++ Sw12)) wd35 := hI52
                refine seq_end ?_
                clear ac231 hf259 ac232 hf260 ac233 hf261 wd34 hI51 hI52
                refine block_normal ?_
                refine then_normal ?_
                refine seq_start (l := [0, 1]) rfl ?_
                refine seq_one (op_val (v := .int .i64 ((m + 1 : Nat) : Int)) hf262 rfl rfl rfl rfl rfl rfl (r_add (c := ((m + 1 : Nat) : Int)) rfl rfl (wrap_i64 (by have := of_decide_eq_true c201_10; have := Ch.lst_le d ((k : Int) - 1); omega) (by have := of_decide_eq_true c201_10; have := Ch.lst_le d ((k : Int) - 1); omega))) fun ac235 hf263 => ?_)
                refine seq_one (op_val (v := .int .i64 ((m + 1 : Nat) : Int)) hf263 rfl rfl rfl rfl rfl rfl (r_move rfl) fun ac236 hf264 => ?_)
                refine seq_end ?_
                clear ac234 hf262 ac235 hf263
                refine then_normal ?_
                exact ⟨(m + 1, (ws.set m (-1)), Sw12), (hf264.cons 0 rfl (hf264.cons 1 rfl (hf264.cons 2 rfl (hf264.cons 7 rfl (hf264.cons 8 rfl (hf264.cons 9 rfl (hf264.cons 10 rfl (hf264.cons 12 rfl (hf264.cons 24 rfl (hf264.cons 25 rfl (hf264.cons 26 rfl (hf264.cons 27 rfl (hf264.cons 28 rfl (hf264.cons 35 rfl (hf264.cons 36 rfl (hf264.cons 37 rfl (hf264.cons 38 rfl (hf264.cons 39 rfl (hf264.cons 40 rfl (hf264.cons 41 rfl (hf264.cons 42 rfl (hf264.cons 43 rfl (hf264.cons 44 rfl (hf264.cons 45 rfl (hf264.cons 46 rfl (hf264.cons 47 rfl (hf264.cons 48 rfl (hf264.cons 49 rfl (hf264.cons 50 rfl (hf264.cons 51 rfl (hf264.cons 52 rfl (hf264.cons 53 rfl (hf264.cons 54 rfl (hf264.cons 55 rfl (hf264.cons 58 rfl (hf264.cons 59 rfl (hf264.cons 60 rfl (hf264.cons 61 rfl (hf264.cons 62 rfl (hf264.cons 63 rfl (hf264.cons 64 rfl (hf264.cons 65 rfl (hf264.cons 66 rfl (hf264.cons 67 rfl (hf264.cons 68 rfl (hf264.cons 69 rfl (hf264.cons 70 rfl (hf264.cons 72 rfl (hf264.cons 73 rfl (hf264.cons 74 rfl (hf264.cons 75 rfl (hf264.cons 76 rfl (hf264.cons 77 rfl (hf264.cons 78 rfl (hf264.cons 79 rfl (hf264.cons 144 rfl (hf264.cons 145 rfl (hf264.cons 146 rfl (hf264.cons 149 rfl (hf264.cons 150 rfl (hf264.cons 151 rfl (hf264.cons 152 rfl (hf264.cons 153 rfl (hf264.cons 154 rfl (hf264.cons 155 rfl (hf264.cons 156 rfl (hf264.cons 157 rfl (hf264.cons 158 rfl (hf264.cons 159 rfl (hf264.cons 160 rfl (hf264.cons 161 rfl (hf264.cons 162 rfl (hf264.cons 163 rfl (hf264.cons 164 rfl (hf264.cons 165 rfl (hf264.cons 166 rfl (hf264.cons 167 rfl (hf264.cons 168 rfl (hf264.cons 169 rfl (hf264.cons 170 rfl (hf264.cons 171 rfl (hf264.cons 172 rfl (hf264.cons 173 rfl (hf264.cons 174 rfl (hf264.cons 175 rfl (hf264.cons 176 rfl (hf264.cons 177 rfl (hf264.cons 178 rfl (hf264.cons 179 rfl (hf264.cons 180 rfl (hf264.cons 181 rfl (hf264.cons 182 rfl (hf264.cons 188 rfl (hf264.cons 189 rfl (hf264.cons 190 rfl (hf264.cons 191 rfl (hf264.cons 192 rfl (hf264.cons 193 rfl (hf264.cons 194 rfl (hf264.cons 195 rfl (hf264.cons 196 rfl (hf264.cons 197 rfl (hf264.cons 198 rfl (hf264.cons 199 rfl (hf264.cons 200 rfl hf264.nil))))))))))))))))))))))))))))))))))))))))))))))))))))))))))))))))))))))))))))))))))))))))))))))))))))))))), ⟨hI53, ⟨(by have := of_decide_eq_true c201_10; omega), List.length_set.trans hx3.2.1, hsw12, hzw12⟩⟩, (by have := of_decide_eq_true c201_10; show (d.lst ((k : Int) - 1)).length - (m + 1) < (d.lst ((k : Int) - 1)).length - m; omega)⟩
              · have hf265 := hf256.know 201 (u := .bool false) rfl (congrArg Value.bool c201_10)
                refine wp_exit ?_
                refine then_exit ?_
                refine then_exit ?_
                refine block_here ?_
                refine block_normal ?_
                refine then_normal ?_
                refine seq_start (l := [0, 1, 2]) rfl ?_
                refine seq_one (op_val (v := .int .i64 ((k : Int) - 1)) hf265 rfl rfl rfl rfl rfl rfl (r_move rfl) fun ac237 hf266 => ?_)
                refine seq_one (op_val (v := .int .i64 (((k + 1 : Nat) : Int) - 1)) hf266 rfl rfl rfl rfl rfl rfl (r_add (c := (((k + 1 : Nat) : Int) - 1)) rfl rfl (by rw [show ((k : Int) - 1) + 1 = ((k + 1 : Nat) : Int) - 1 by omega]; exact (wrap_i64 (by have := of_decide_eq_true c146_7; omega) (by have := of_decide_eq_true c146_7; omega)))) fun ac238 hf267 => ?_)
                refine seq_one (op_val (v := .int .i64 (((k + 1 : Nat) : Int) - 1)) hf267 rfl rfl rfl rfl rfl rfl (r_assign rfl) fun ac239 hf268 => ?_)
                refine seq_end ?_
                clear hf256 ac229 hf265 ac237 hf266 ac238 hf267
                refine then_normal ?_
                have hI54 : Inv w ([(b1, arr .i64 d.lk, 103), (b2, arr .i64 d.of, 3), (b3, arr .i64 d.mn, 3), (b4, #[.slice (some ⟨b1, 0, none⟩) (N + K) (N + K), .slice (some ⟨b2, 0, none⟩) N N, .slice (some ⟨b3, 0, none⟩) K K], 79), (b7, #[.int .i64 (N : Int), .slice U0 (List.length LU) UC], 63), (b9, #[.int .u8 kd8, .int .i64 ii8, .int .i64 nn8], 56)] ++ SU) _ := Inv.drop (A := ([(b1, arr .i64 d.lk, 103), (b2, arr .i64 d.of, 3), (b3, arr .i64 d.mn, 3), (b4, #[.slice (some ⟨b1, 0, none⟩) (N + K) (N + K), .slice (some ⟨b2, 0, none⟩) N N, .slice (some ⟨b3, 0, none⟩) K K], 79), (b7, #[.int .i64 (N : Int), .slice U0 (List.length LU) UC], 63), (b9, #[.int .u8 kd8, .int .i64 ii8, .int .i64 nn8], 56)] ++ SU)) (B := SW) hI51 hx3.2.2.2
                exact ⟨k + 1, (hf268.cons 0 rfl (hf268.cons 1 rfl (hf268.cons 2 rfl (hf268.cons 7 rfl (hf268.cons 8 rfl (hf268.cons 9 rfl (hf268.cons 10 rfl (hf268.cons 12 rfl (hf268.cons 35 rfl (hf268.cons 36 rfl (hf268.cons 37 rfl (hf268.cons 38 rfl (hf268.cons 39 rfl (hf268.cons 40 rfl (hf268.cons 41 rfl (hf268.cons 42 rfl (hf268.cons 43 rfl (hf268.cons 44 rfl (hf268.cons 45 rfl (hf268.cons 46 rfl (hf268.cons 47 rfl (hf268.cons 48 rfl (hf268.cons 49 rfl (hf268.cons 50 rfl (hf268.cons 51 rfl (hf268.cons 52 rfl (hf268.cons 53 rfl (hf268.cons 54 rfl (hf268.cons 55 rfl (hf268.cons 58 rfl (hf268.cons 59 rfl (hf268.cons 60 rfl (hf268.cons 61 rfl (hf268.cons 62 rfl (hf268.cons 63 rfl (hf268.cons 64 rfl (hf268.cons 65 rfl (hf268.cons 66 rfl (hf268.cons 67 rfl (hf268.cons 68 rfl (hf268.cons 69 rfl (hf268.cons 70 rfl (hf268.cons 72 rfl (hf268.cons 73 rfl (hf268.cons 74 rfl (hf268.cons 75 rfl (hf268.cons 76 rfl (hf268.cons 77 rfl (hf268.cons 78 rfl (hf268.cons 79 rfl (hf268.cons 24 rfl hf268.nil))))))))))))))))))))))))))))))))))))))))))))))))))), ⟨hI54, (by have := of_decide_eq_true c146_7; omega)⟩, (by have := of_decide_eq_true c146_7; show K + 2 - (k + 1) < K + 2 - k; omega)⟩
          · have hf269 := hf156.know 146 (u := .bool false) rfl (congrArg Value.bool c146_7)
            refine wp_exit ?_
            refine then_exit ?_
            refine then_exit ?_
            refine block_here ?_
            refine then_normal ?_
            refine code_seq ?_
            refine seq_start (l := [0]) rfl ?_
            refine seq_one (op_val (v := .int .i64 (-1)) hf269 rfl rfl rfl rfl rfl rfl (r_assign rfl) fun ac240 hf270 => ?_)
            refine seq_end ?_
            clear hf156 ac141 hf269
            refine then_normal ?_
            refine wp_block ?_
            refine code_loop (α := Nat) (fun (k2 : Nat) => [(0, .int .i64 (K : Int)), (1, .int .i64 (N : Int)), (2, .slice p L cap), (7, .pointer (some ⟨b4, 0, none⟩)), (8, .int .i64 0), (9, .pointer (some ⟨b7, 0, none⟩)), (10, .int .i64 0), (12, .pointer (some ⟨b9, 0, none⟩)), (24, .int .i64 ((k : Int) - 1)), (35, .tuple #[.pointer (some ⟨b4, 0, none⟩), .int .i64 0]), (36, .int .i64 (K : Int)), (37, .int .i64 (N : Int)), (38, .tuple #[.pointer (some ⟨b4, 0, none⟩), .int .i64 0]), (39, .pointer (some ⟨b4, 0, none⟩)), (40, .int .i64 0), (41, .tuple #[.agg #[.int .i64 (N : Int), .slice z6 (List.length L6) cz6], .int .i64 0]), (42, .int .i64 (K : Int)), (43, .int .i64 (K : Int)), (44, .int .i64 (N : Int)), (45, .int .i64 (N : Int)), (46, .tuple #[.agg #[.int .i64 (N : Int), .slice z6 (List.length L6) cz6], .int .i64 0]), (47, .agg #[.int .i64 (N : Int), .slice z6 (List.length L6) cz6]), (48, .int .i64 0), (49, .int .i64 0), (50, .int .i64 0), (51, .bool false), (52, .bool false), (53, .int .i64 0), (54, .bool false), (55, .bool false), (58, .bool false), (59, .bool false), (60, .int .i64 0), (61, .bool false), (62, .bool false), (63, .int .i64 (N : Int)), (64, .bool (decide ((N : Int) > 64))), (65, .bool (decide ((N : Int) > 64))), (66, .bool false), (67, .slice p L cap), (68, .int .i64 (L : Int)), (69, .bool (decide ((L : Int) > 60))), (70, .bool false), (72, .slice p L cap), (73, .int .i64 (L : Int)), (74, .int .i64 (i : Int)), (75, .bool true), (76, .pointer (slAt p (i * 3))), (77, .agg #[.int .u8 kd8, .int .i64 ii8, .int .i64 nn8]), (78, .pointer (some ⟨b9, 0, none⟩)), (79, .int .u8 kd8), (144, .int .i64 ((k : Int) - 1)), (145, .int .i64 (K : Int)), (146, .bool false), (30, .int .i64 ((k2 : Int) - 1))]) (fun (k2 : Nat) => fun wL => Inv w ([(b1, arr .i64 d.lk, 103), (b2, arr .i64 d.of, 3), (b3, arr .i64 d.mn, 3), (b4, #[.slice (some ⟨b1, 0, none⟩) (N + K) (N + K), .slice (some ⟨b2, 0, none⟩) N N, .slice (some ⟨b3, 0, none⟩) K K], 79), (b7, #[.int .i64 (N : Int), .slice U0 (List.length LU) UC], 63), (b9, #[.int .u8 kd8, .int .i64 ii8, .int .i64 nn8], 56)] ++ SU) wL ∧ (k2 ≤ N + 2)) (fun (k2 : Nat) => N + 2 - k2) 0 (hf270.cons 0 rfl (hf270.cons 1 rfl (hf270.cons 2 rfl (hf270.cons 7 rfl (hf270.cons 8 rfl (hf270.cons 9 rfl (hf270.cons 10 rfl (hf270.cons 12 rfl (hf270.cons 24 rfl (hf270.cons 35 rfl (hf270.cons 36 rfl (hf270.cons 37 rfl (hf270.cons 38 rfl (hf270.cons 39 rfl (hf270.cons 40 rfl (hf270.cons 41 rfl (hf270.cons 42 rfl (hf270.cons 43 rfl (hf270.cons 44 rfl (hf270.cons 45 rfl (hf270.cons 46 rfl (hf270.cons 47 rfl (hf270.cons 48 rfl (hf270.cons 49 rfl (hf270.cons 50 rfl (hf270.cons 51 rfl (hf270.cons 52 rfl (hf270.cons 53 rfl (hf270.cons 54 rfl (hf270.cons 55 rfl (hf270.cons 58 rfl (hf270.cons 59 rfl (hf270.cons 60 rfl (hf270.cons 61 rfl (hf270.cons 62 rfl (hf270.cons 63 rfl (hf270.cons 64 rfl (hf270.cons 65 rfl (hf270.cons 66 rfl (hf270.cons 67 rfl (hf270.cons 68 rfl (hf270.cons 69 rfl (hf270.cons 70 rfl (hf270.cons 72 rfl (hf270.cons 73 rfl (hf270.cons 74 rfl (hf270.cons 75 rfl (hf270.cons 76 rfl (hf270.cons 77 rfl (hf270.cons 78 rfl (hf270.cons 79 rfl (hf270.cons 144 rfl (hf270.cons 145 rfl (hf270.cons 146 rfl (hf270.cons 30 rfl hf270.nil))))))))))))))))))))))))))))))))))))))))))))))))))))))) ⟨hI40, Nat.zero_le _⟩ ?_
            intro k2 ac241 wd36 hf271 hL4
            obtain ⟨hI55, hx4⟩ := hL4
            clear ac240 wd26 hf270 hI40
            refine code_seq ?_
            refine code_seq ?_
            refine seq_start (l := [0, 1, 2]) rfl ?_
            refine seq_one (op_val (v := .int .i64 ((k2 : Int) - 1)) hf271 rfl rfl rfl rfl rfl rfl (r_move rfl) fun ac242 hf272 => ?_)
            refine seq_one (op_val (v := .int .i64 (N : Int)) hf272 rfl rfl rfl rfl rfl rfl (r_move rfl) fun ac243 hf273 => ?_)
            refine seq_one (op_val (v := .bool (decide (((k2 : Int) - 1) ≤ (N : Int)))) hf273 rfl rfl rfl rfl rfl rfl (r_leq rfl rfl) fun ac244 hf274 => ?_)
            refine seq_end ?_
            clear ac241 hf271 ac242 hf272 ac243 hf273
            refine then_normal ?_
            refine code_if hf274 rfl (fun c209_11 => ?_) (fun c209_11 => ?_)
            · have hf275 := hf274.know 209 (u := .bool true) rfl (congrArg Value.bool c209_11)
              refine wp_skip ?_
              refine then_normal ?_
              refine code_seq ?_
              refine wp_block ?_
              refine code_seq ?_
              refine seq_start (l := [0, 1, 2, 3, 4, 5, 6, 7]) rfl ?_
              refine seq_one (op_val (v := .pointer (some ⟨b4, 0, none⟩)) hf275 rfl rfl rfl rfl rfl rfl (r_move rfl) fun ac245 hf276 => ?_)
              refine seq_one (op_val (v := .int .i64 ((k2 : Int) - 1)) hf276 rfl rfl rfl rfl rfl rfl (r_move rfl) fun ac246 hf277 => ?_)
              refine seq_one (op_pureW hf277 rfl rfl rfl rfl ca_29 (in_any (hI55.nd 0 rfl rfl rfl rfl) d (Has.cons (hI55.at 0 rfl) (Has.cons (hI55.at 1 rfl) (Has.cons (hI55.at 2 rfl) (Has.cons (hI55.at 3 rfl) Has.nil)))) ((k2 : Int) - 1)) hI55 fun ac247 wd37 hI56 hf278 => ?_)
              refine seq_one (op_val (v := .tuple #[.int .i64 (d.atV ((k2 : Int) - 1)), .bool (d.inn ((k2 : Int) - 1))]) hf278 rfl rfl rfl rfl rfl rfl (r_move rfl) fun ac248 hf279 => ?_)
              refine seq_one (op_val (v := .int .i64 (d.atV ((k2 : Int) - 1))) hf279 rfl rfl rfl rfl rfl rfl (r_extract rfl rfl) fun ac249 hf280 => ?_)
              refine seq_one (op_val (v := .bool (d.inn ((k2 : Int) - 1))) hf280 rfl rfl rfl rfl rfl rfl (r_extract rfl rfl) fun ac250 hf281 => ?_)
              refine seq_one (op_val (v := .int .i64 (d.atV ((k2 : Int) - 1))) hf281 rfl rfl rfl rfl rfl rfl (r_assign rfl) fun ac251 hf282 => ?_)
              refine seq_one (op_val (v := .bool (d.inn ((k2 : Int) - 1))) hf282 rfl rfl rfl rfl rfl rfl (r_assign rfl) fun ac252 hf283 => ?_)
              refine seq_end ?_
              clear hf274 ac244 hf275 ac245 hf276 ac246 wd36 hI55 hf277 ac247 hf278 ac248 hf279 ac249 hf280 ac250 hf281 ac251 hf282
              refine then_normal ?_
              refine code_seq ?_
              refine seq_start (l := [0, 1, 2, 3, 4, 5, 6, 7]) rfl ?_
              refine seq_one (op_val (v := .agg #[.int .i64 (N : Int), .slice U0 (List.length LU) UC]) hf283 rfl rfl rfl rfl rfl rfl (r_loadW ag_63 sz_63 rfl (hI56.at 4 rfl) rfl) fun ac253 hf284 => ?_)
              refine seq_one (op_val (v := .int .i64 ((k2 : Int) - 1)) hf284 rfl rfl rfl rfl rfl rfl (r_move rfl) fun ac254 hf285 => ?_)
              refine seq_one (op_pureW hf285 rfl rfl rfl rfl ca_42 (rin_walk (n := ((k2 : Int) - 1)) hj39.1 (VL.start_le hj39.2.1) (VL.rows hj39.2.1 hI56 (fk_app (fresh_keys (ks := [b1, b2, b3, b4, b7, b9]) rfl (fk_cons hb1 (fk_cons hb2 (fk_cons hb3 (fk_cons hb4 (fk_cons hb7 (fk_cons hb9 fk_nil))))))) hj39.2.2) (fun x hx => List.mem_append_right _ hx)) (VL.rds hj39.2.1 hI56 (fk_app (fresh_keys (ks := [b1, b2, b3, b4, b7, b9]) rfl (fk_cons hb1 (fk_cons hb2 (fk_cons hb3 (fk_cons hb4 (fk_cons hb7 (fk_cons hb9 fk_nil))))))) hj39.2.2) (fun x hx => List.mem_append_right _ hx))) hI56 fun ac255 wd38 hI57 hf286 => ?_)
              refine seq_one (op_val (v := .tuple #[.int .i64 (d.atV ((k2 : Int) - 1)), .bool (d.inn ((k2 : Int) - 1))]) hf286 rfl rfl rfl rfl rfl rfl (r_move rfl) fun ac256 hf287 => ?_)
              refine seq_one (op_val (v := .int .i64 (d.atV ((k2 : Int) - 1))) hf287 rfl rfl rfl rfl rfl rfl (r_extract rfl rfl) fun ac257 hf288 => ?_)
              refine seq_one (op_val (v := .bool (d.inn ((k2 : Int) - 1))) hf288 rfl rfl rfl rfl rfl rfl (r_extract rfl rfl) fun ac258 hf289 => ?_)
              refine seq_one (op_val (v := .int .i64 (d.atV ((k2 : Int) - 1))) hf289 rfl rfl rfl rfl rfl rfl (r_assign rfl) fun ac259 hf290 => ?_)
              refine seq_one (op_val (v := .bool (d.inn ((k2 : Int) - 1))) hf290 rfl rfl rfl rfl rfl rfl (r_assign rfl) fun ac260 hf291 => ?_)
              refine seq_end ?_
              clear ac252 hf283 ac253 hf284 ac254 wd37 hI56 hf285 ac255 hf286 ac256 hf287 ac257 hf288 ac258 hf289 ac259 hf290
              refine then_normal ?_
              refine code_seq ?_
              refine seq_start (l := [0, 1, 2, 3, 4, 5, 6, 7]) rfl ?_
              refine seq_one (op_val (v := .int .i64 (d.atV ((k2 : Int) - 1))) hf291 rfl rfl rfl rfl rfl rfl (r_move rfl) fun ac261 hf292 => ?_)
              refine seq_one (op_val (v := .int .i64 (d.atV ((k2 : Int) - 1))) hf292 rfl rfl rfl rfl rfl rfl (r_move rfl) fun ac262 hf293 => ?_)
              refine seq_one (op_val (v := .bool ((d.atV ((k2 : Int) - 1)) != (d.atV ((k2 : Int) - 1)))) hf293 rfl rfl rfl rfl rfl rfl (r_neq rfl rfl) fun ac263 hf294 => ?_)
              refine seq_one (op_val (v := .bool ((d.atV ((k2 : Int) - 1)) != (d.atV ((k2 : Int) - 1)))) hf294 rfl rfl rfl rfl rfl rfl (r_move rfl) fun ac264 hf295 => ?_)
              have hf296 := hf295.know 227 (u := .bool false) rfl (congrArg Value.bool (bne_self_eq_false _))
              refine seq_one (op_val (v := .bool (d.inn ((k2 : Int) - 1))) hf296 rfl rfl rfl rfl rfl rfl (r_move rfl) fun ac265 hf297 => ?_)
              refine seq_one (op_val (v := .bool (d.inn ((k2 : Int) - 1))) hf297 rfl rfl rfl rfl rfl rfl (r_move rfl) fun ac266 hf298 => ?_)
              refine seq_one (op_val (v := .bool ((d.inn ((k2 : Int) - 1)) != (d.inn ((k2 : Int) - 1)))) hf298 rfl rfl rfl rfl rfl rfl (r_neB ub_4 rfl rfl) fun ac267 hf299 => ?_)
              refine seq_one (op_val (v := .bool ((d.inn ((k2 : Int) - 1)) != (d.inn ((k2 : Int) - 1)))) hf299 rfl rfl rfl rfl rfl rfl (r_pickF rfl rfl) fun ac268 hf300 => ?_)
              refine seq_end ?_
              clear ac260 hf291 ac261 hf292 ac262 hf293 ac263 hf294 hf295 ac264 hf296 ac265 hf297 ac266 hf298 ac267 hf299
              refine then_normal ?_
              have hf301 := hf300.know 231 (u := .bool false) rfl (congrArg Value.bool (bne_self_eq_false _))
              refine code_if_false hf301 rfl ?_
              refine wp_skip ?_
              refine block_normal ?_
              refine then_normal ?_
              refine seq_start (l := [0, 1, 2]) rfl ?_
              refine seq_one (op_val (v := .int .i64 ((k2 : Int) - 1)) hf301 rfl rfl rfl rfl rfl rfl (r_move rfl) fun ac269 hf302 => ?_)
              refine seq_one (op_val (v := .int .i64 (((k2 + 1 : Nat) : Int) - 1)) hf302 rfl rfl rfl rfl rfl rfl (r_add (c := (((k2 + 1 : Nat) : Int) - 1)) rfl rfl (by rw [show ((k2 : Int) - 1) + 1 = ((k2 + 1 : Nat) : Int) - 1 by omega]; exact (wrap_i64 (by have := of_decide_eq_true c209_11; omega) (by have := of_decide_eq_true c209_11; omega)))) fun ac270 hf303 => ?_)
              refine seq_one (op_val (v := .int .i64 (((k2 + 1 : Nat) : Int) - 1)) hf303 rfl rfl rfl rfl rfl rfl (r_assign rfl) fun ac271 hf304 => ?_)
              refine seq_end ?_
              clear hf300 ac268 hf301 ac269 hf302 ac270 hf303
              refine then_normal ?_
              exact ⟨k2 + 1, (hf304.cons 0 rfl (hf304.cons 1 rfl (hf304.cons 2 rfl (hf304.cons 7 rfl (hf304.cons 8 rfl (hf304.cons 9 rfl (hf304.cons 10 rfl (hf304.cons 12 rfl (hf304.cons 24 rfl (hf304.cons 35 rfl (hf304.cons 36 rfl (hf304.cons 37 rfl (hf304.cons 38 rfl (hf304.cons 39 rfl (hf304.cons 40 rfl (hf304.cons 41 rfl (hf304.cons 42 rfl (hf304.cons 43 rfl (hf304.cons 44 rfl (hf304.cons 45 rfl (hf304.cons 46 rfl (hf304.cons 47 rfl (hf304.cons 48 rfl (hf304.cons 49 rfl (hf304.cons 50 rfl (hf304.cons 51 rfl (hf304.cons 52 rfl (hf304.cons 53 rfl (hf304.cons 54 rfl (hf304.cons 55 rfl (hf304.cons 58 rfl (hf304.cons 59 rfl (hf304.cons 60 rfl (hf304.cons 61 rfl (hf304.cons 62 rfl (hf304.cons 63 rfl (hf304.cons 64 rfl (hf304.cons 65 rfl (hf304.cons 66 rfl (hf304.cons 67 rfl (hf304.cons 68 rfl (hf304.cons 69 rfl (hf304.cons 70 rfl (hf304.cons 72 rfl (hf304.cons 73 rfl (hf304.cons 74 rfl (hf304.cons 75 rfl (hf304.cons 76 rfl (hf304.cons 77 rfl (hf304.cons 78 rfl (hf304.cons 79 rfl (hf304.cons 144 rfl (hf304.cons 145 rfl (hf304.cons 146 rfl (hf304.cons 30 rfl hf304.nil))))))))))))))))))))))))))))))))))))))))))))))))))))))), ⟨hI57, (by have := of_decide_eq_true c209_11; omega)⟩, (by have := of_decide_eq_true c209_11; show N + 2 - (k2 + 1) < N + 2 - k2; omega)⟩
            · have hf305 := hf274.know 209 (u := .bool false) rfl (congrArg Value.bool c209_11)
              refine wp_exit ?_
              refine then_exit ?_
              refine then_exit ?_
              refine block_here ?_
              refine block_normal ?_
              refine then_normal ?_
              refine seq_start (l := [0, 1]) rfl ?_
              refine seq_one (op_val (v := .int .i64 ((i + 1 : Nat) : Int)) hf305 rfl rfl rfl rfl rfl rfl (r_add (c := ((i + 1 : Nat) : Int)) rfl rfl (wrap_i64 (by have := of_decide_eq_false c70_2; have := of_decide_eq_true c75_3; omega) (by have := of_decide_eq_false c70_2; have := of_decide_eq_true c75_3; omega))) fun ac272 hf306 => ?_)
              refine seq_one (op_val (v := .int .i64 ((i + 1 : Nat) : Int)) hf306 rfl rfl rfl rfl rfl rfl (r_move rfl) fun ac273 hf307 => ?_)
              refine seq_end ?_
              clear hf274 ac244 hf305 ac272 hf306
              refine then_normal ?_
              exact ⟨(i + 1, d, U0, UC, LU, SU), (hf307.cons 0 rfl (hf307.cons 1 rfl (hf307.cons 2 rfl (hf307.cons 7 rfl (hf307.cons 8 rfl (hf307.cons 9 rfl (hf307.cons 10 rfl (hf307.cons 35 rfl (hf307.cons 36 rfl (hf307.cons 37 rfl (hf307.cons 38 rfl (hf307.cons 39 rfl (hf307.cons 40 rfl (hf307.cons 41 rfl (hf307.cons 42 rfl (hf307.cons 43 rfl (hf307.cons 44 rfl (hf307.cons 45 rfl (hf307.cons 46 rfl (hf307.cons 47 rfl (hf307.cons 48 rfl (hf307.cons 49 rfl (hf307.cons 50 rfl (hf307.cons 51 rfl (hf307.cons 52 rfl (hf307.cons 53 rfl (hf307.cons 54 rfl (hf307.cons 55 rfl (hf307.cons 58 rfl (hf307.cons 59 rfl (hf307.cons 60 rfl (hf307.cons 61 rfl (hf307.cons 62 rfl (hf307.cons 63 rfl (hf307.cons 64 rfl (hf307.cons 65 rfl (hf307.cons 66 rfl (hf307.cons 67 rfl (hf307.cons 68 rfl (hf307.cons 69 rfl (hf307.cons 70 rfl (hf307.cons 72 rfl (hf307.cons 73 rfl (hf307.cons 74 rfl hf307.nil)))))))))))))))))))))))))))))))))))))))))))), ⟨(Inv.keep (A := [(b1, arr .i64 d.lk, 103), (b2, arr .i64 d.of, 3), (b3, arr .i64 d.mn, 3), (b4, #[.slice (some ⟨b1, 0, none⟩) (N + K) (N + K), .slice (some ⟨b2, 0, none⟩) N N, .slice (some ⟨b3, 0, none⟩) K K], 79), (b7, #[.int .i64 (N : Int), .slice U0 (List.length LU) UC], 63)]) (N := [(b9, #[.int .u8 kd8, .int .i64 ii8, .int .i64 nn8], 56)]) (T := SU) hI55 (fresh_keys (ks := [b9]) rfl (fk_cons hb9 fk_nil))), ⟨(by have := of_decide_eq_true c75_3; omega), hj39⟩⟩, (by have := of_decide_eq_true c75_3; show L - (i + 1) < L - i; omega)⟩
      · have hf308 := hf59.know 75 (u := .bool false) rfl (congrArg Value.bool c75_3)
        refine wp_exit ?_
        refine then_exit ?_
        refine then_exit ?_
        refine block_here ?_
        refine then_normal ?_
        refine code_seq ?_
        refine seq_start (l := [0, 1]) rfl ?_
        refine seq_one (op_pure hf308 rfl rfl rfl rfl ca_33 awake5_pur hI10 fun ac274 wd39 hI58 hf309 => ?_)
        refine seq_one (op_val (v := .bool true) hf309 rfl rfl rfl rfl rfl rfl (r_assign rfl) fun ac275 hf310 => ?_)
        refine seq_end ?_
        clear hf59 ac55 wd7 hI10 hf308 ac274 hf309
        refine then_normal ?_
        refine wp_ret ?_
        refine post1 rfl hf310 rfl ⟨?_, hI58.done (fk_app (fresh_keys (ks := [b1, b2, b3, b4, b7]) rfl (fk_cons hb1 (fk_cons hb2 (fk_cons hb3 (fk_cons hb4 (fk_cons hb7 fk_nil)))))) hx1.2.2.2)⟩
        rfl
theorem chainTells_walk {p : Option Addr} {L cap : Nat} {rows : List (List Value)} (hl : rows.length = L) (hc : L ≤ cap) (ho : ∀ row ∈ rows, Oks opKinds row) {k n : Int} {w : World} (hr : Rows_ w p 3 rows) : Calls Try.prog 6 [.int .i64 k, .int .i64 n, .slice p L cap].toArray w fun e w' => e = .returned (.bool true) ∧ Inv w [] w' := by
  by_cases h : k < 1 ∨ k > 64 ∨ n < 1 ∨ n > 65536
  · exact chainTells0_walk hl hc ho h rfl rfl (by split <;> split <;> omega) hr
  · obtain ⟨K, rfl⟩ := Int.eq_ofNat_of_zero_le (show 0 ≤ k by omega)
    obtain ⟨N, rfl⟩ := Int.eq_ofNat_of_zero_le (show 0 ≤ n by omega)
    exact chainTells1_walk hl hc ho ⟨by omega, by omega⟩ ⟨by omega, by omega⟩ hr
end Go.Proofs.Ytjelaoblpchmmaa
