/-
  The walk of BandsAgain.
-/
import Derived.Test.YtkfilmdnpocinaaPlayed
import Derived.Test.YtkfilmdnpocinaaState2
namespace Go.Proofs.Ytkfilmdnpocinaa
set_option linter.unusedVariables false
set_option linter.unusedSimpArgs false
set_option maxRecDepth 100000
open Go.RowKit
set_option maxHeartbeats 8000000 in
theorem bandsAgain_walk (x0 x1 x2 w0 w1 w2 : Int) (hd : Wd x0 x1 x2 w0 w1 w2) (h0 h1 h2 : Bool) {p : Option Addr} {L cap : Nat} {rows : List (List Value)} (hl : rows.length = L) (hc : L ≤ cap) (ho : ∀ row ∈ rows, Oks opKinds row) (w : World) (hr : Rows_ w p 5 rows) : Calls Try.prog 6 [.agg #[.int .u32 x0, .int .u32 x1, .int .u32 x2], .slice p L cap, .agg #[.bool h0, .bool h1, .bool h2]].toArray w fun e w' => e = .returned (.bool true) ∧ Inv w [] w' := by
  have hI1 := Inv.start w
  refine enter (n := 136) Try.func6 rfl rfl rfl ?_
  intro ac1 hf1
  refine code_seq ?_
  refine seq_start (l := [0, 1, 2]) rfl ?_
  refine seq_one (op_box hf1 rfl rfl rfl rfl hI1 fun ac2 b1 wd1 hb1 hI2 hf2 => ?_)
  have hI3 : Inv w [(b1, #[.int .u32 x0, .int .u32 x1, .int .u32 x2], 47)] wd1 := hI2
  refine seq_one (op_box hf2 rfl rfl rfl rfl hI3 fun ac3 b2 wd2 hb2 hI4 hf3 => ?_)
  have hI5 : Inv w [(b1, #[.int .u32 x0, .int .u32 x1, .int .u32 x2], 47), (b2, #[.bool h0, .bool h1, .bool h2], 33)] wd2 := hI4
  refine seq_one (op_val (v := .bool false) hf3 rfl rfl rfl rfl rfl rfl (r_assign rfl) fun ac4 hf4 => ?_)
  refine seq_end ?_
  clear ac1 hI1 hf1 hI2 ac2 wd1 hI3 hf2 hI4 ac3 hf3
  refine then_normal ?_
  refine code_seq ?_
  refine seq_start (l := [0, 1, 2, 3, 4, 5, 6, 7]) rfl ?_
  refine seq_one (op_val (v := .agg #[.int .u32 x0, .int .u32 x1, .int .u32 x2]) hf4 rfl rfl rfl rfl rfl rfl (r_loadW ag_47 sz_47 rfl (hI5.at 0 rfl) rfl) fun ac5 hf5 => ?_)
  refine seq_one (op_val (v := .slice p L cap) hf5 rfl rfl rfl rfl rfl rfl (r_move rfl) fun ac6 hf6 => ?_)
  refine seq_one (op_call (R := fun v w' => ∃ b, ∃ s : St, wd2.heap.size ≤ b ∧ Ok w0 w1 w2 s ∧ v = .tuple #[.pointer (some ⟨b, 0, none⟩), .bool true] ∧ Inv wd2 [(b, #[.int .i64 w0, .int .i64 w1, .int .i64 w2, .int .i64 s.c0, .int .i64 s.c1, .int .i64 s.c2, .int .i64 s.now], 58)] w') hf6 rfl rfl rfl rfl ca_18 ((played_walk x0 x1 x2 w0 w1 w2 hd hl hc ho _ (hr.old hI5 (fresh_keys (ks := [b1, b2]) rfl (fk_cons hb1 (fk_cons hb2 fk_nil))))).mono fun e w' ⟨b, s, h1, h2, h3, h4⟩ => ⟨_, h3, b, s, h1, h2, rfl, h4⟩) fun ac7 v wd3 hR hf7 => ?_)
  obtain ⟨b3, ⟨a_3, b_3, c_3, d_3⟩, hqb3, ho3, rfl, hwb3⟩ := hR
  dsimp only at hwb3
  have hb3 := Nat.le_trans hI5.size hqb3
  have hI6 : Inv w [(b1, #[.int .u32 x0, .int .u32 x1, .int .u32 x2], 47), (b2, #[.bool h0, .bool h1, .bool h2], 33), (b3, #[.int .i64 w0, .int .i64 w1, .int .i64 w2, .int .i64 a_3, .int .i64 b_3, .int .i64 c_3, .int .i64 d_3], 58)] _ := hI5.callN hwb3 (fun x hx => by simp only [List.mem_singleton] at hx; subst hx; exact hqb3)
  refine seq_one (op_val (v := .tuple #[.pointer (some ⟨b3, 0, none⟩), .bool true]) hf7 rfl rfl rfl rfl rfl rfl (r_move rfl) fun ac8 hf8 => ?_)
  refine seq_one (op_val (v := .pointer (some ⟨b3, 0, none⟩)) hf8 rfl rfl rfl rfl rfl rfl (r_extract rfl rfl) fun ac9 hf9 => ?_)
  refine seq_one (op_val (v := .bool true) hf9 rfl rfl rfl rfl rfl rfl (r_extract rfl rfl) fun ac10 hf10 => ?_)
  refine seq_one (op_val (v := .pointer (some ⟨b3, 0, none⟩)) hf10 rfl rfl rfl rfl rfl rfl (r_assign rfl) fun ac11 hf11 => ?_)
  refine seq_one (op_val (v := .bool true) hf11 rfl rfl rfl rfl rfl rfl (r_assign rfl) fun ac12 hf12 => ?_)
  refine seq_end ?_
  clear ac4 hf4 ac5 hf5 ac6 wd2 hf6 hI5 hwb3 hqb3 ac7 hf7 ac8 hf8 ac9 hf9 ac10 hf10 ac11 hf11
  refine then_normal ?_
  refine code_seq ?_
  refine code_seq ?_
  refine seq_start (l := [0, 1]) rfl ?_
  refine seq_one (op_val (v := .bool true) hf12 rfl rfl rfl rfl rfl rfl (r_move rfl) fun ac13 hf13 => ?_)
  refine seq_one (op_val (v := .bool false) hf13 rfl rfl rfl rfl rfl rfl ((r_not (b := true) rfl).trans rfl) fun ac14 hf14 => ?_)
  refine seq_end ?_
  clear ac12 hf12 ac13 hf13
  refine then_normal ?_
  refine code_if_false hf14 rfl ?_
  refine wp_skip ?_
  refine then_normal ?_
  refine code_seq ?_
  refine seq_start (l := [0, 1, 2, 3, 4, 5, 6]) rfl ?_
  refine seq_one (op_val (v := .pointer (some ⟨b3, 0, none⟩)) hf14 rfl rfl rfl rfl rfl rfl (r_move rfl) fun ac15 hf15 => ?_)
  refine seq_one (op_pureW hf15 rfl rfl rfl rfl ca_17 (credits_walk w0 w1 w2 a_3 b_3 c_3 d_3 hd.v.ne b3 _ (Has.cons (hI6.at 2 rfl) Has.nil)) hI6 fun ac16 wd4 hI7 hf16 => ?_)
  refine seq_one (op_val (v := .pointer (some ⟨b3, 0, none⟩)) hf16 rfl rfl rfl rfl rfl rfl (r_move rfl) fun ac17 hf17 => ?_)
  refine seq_one (op_pureW hf17 rfl rfl rfl rfl ca_16 (now_walk w0 w1 w2 a_3 b_3 c_3 d_3 hd.v.ne b3 _ (Has.cons (hI7.at 2 rfl) Has.nil)) hI7 fun ac18 wd5 hI8 hf18 => ?_)
  refine seq_one (op_alloc hf18 rfl rfl rfl ze_22 hI8 fun ac19 b4 wd6 hb4 hI9 hf19 => ?_)
  have hI10 : Inv w [(b1, #[.int .u32 x0, .int .u32 x1, .int .u32 x2], 47), (b2, #[.bool h0, .bool h1, .bool h2], 33), (b3, #[.int .i64 w0, .int .i64 w1, .int .i64 w2, .int .i64 a_3, .int .i64 b_3, .int .i64 c_3, .int .i64 d_3], 58), (b4, #[.int .i64 0, .int .i64 0, .int .i64 0], 22)] wd6 := hI9
  refine seq_one (op_storeW (cells := #[.int .i64 a_3, .int .i64 b_3, .int .i64 c_3]) 3 hf19 rfl rfl rfl rfl rfl sz_22 rfl rfl hI10 rfl rfl fun wd7 hI11 => ?_)
  have hI12 : Inv w [(b1, #[.int .u32 x0, .int .u32 x1, .int .u32 x2], 47), (b2, #[.bool h0, .bool h1, .bool h2], 33), (b3, #[.int .i64 w0, .int .i64 w1, .int .i64 w2, .int .i64 a_3, .int .i64 b_3, .int .i64 c_3, .int .i64 d_3], 58), (b4, #[.int .i64 a_3, .int .i64 b_3, .int .i64 c_3], 22)] wd7 := hI11
  refine seq_one (op_val (v := .int .i64 d_3) hf19 rfl rfl rfl rfl rfl rfl (r_assign rfl) fun ac20 hf20 => ?_)
  refine seq_end ?_
  clear ac14 hf14 ac15 wd3 hI6 hf15 ac16 hf16 ac17 wd4 hI7 hf17 ac18 wd5 hI8 hf18 hI9 wd6 hI10 hI11 ac19 hf19
  refine then_normal ?_
  refine code_seq ?_
  refine code_seq ?_
  refine seq_start (l := [0, 1, 2, 3, 4, 5, 6, 7]) rfl ?_
  refine seq_one (op_val (v := .pointer (some ⟨b3, 0, none⟩)) hf20 rfl rfl rfl rfl rfl rfl (r_move rfl) fun ac21 hf21 => ?_)
  refine seq_one (op_val (v := .agg #[.bool false, .bool false, .bool false]) hf21 rfl rfl rfl rfl rfl rfl (r_build (v := .agg #[.bool false, .bool false, .bool false]) rfl (fun _ => by kernel_rfl)) fun ac22 hf22 => ?_)
  refine seq_one (op_call (R := fun v w' => v = (.tuple #[.int .i64 (pickN false false false w0 w1 w2 ⟨a_3, b_3, c_3, d_3⟩), .bool (false || false || false)]) ∧ Inv wd7 [(b3, #[.int .i64 w0, .int .i64 w1, .int .i64 w2, .int .i64 (((pickS false false false w0 w1 w2 ⟨a_3, b_3, c_3, d_3⟩ : St)).c0), .int .i64 (((pickS false false false w0 w1 w2 ⟨a_3, b_3, c_3, d_3⟩ : St)).c1), .int .i64 (((pickS false false false w0 w1 w2 ⟨a_3, b_3, c_3, d_3⟩ : St)).c2), .int .i64 (((pickS false false false w0 w1 w2 ⟨a_3, b_3, c_3, d_3⟩ : St)).now)], 58)] w') hf22 rfl rfl rfl rfl ca_12 ((pick_walk w0 w1 w2 a_3 b_3 c_3 d_3 false false false hd.v.ne hd.v ho3 b3 _ (Has.cons (hI12.at 2 rfl) Has.nil)).mono fun _ _ h => ⟨_, h.1, rfl, h.2⟩) fun ac23 v wd8 hR hf23 => ?_)
  obtain ⟨rfl, hR⟩ := hR
  rw [(pickS_none rfl)] at hR
  dsimp only at hR
  have hI13 : Inv w [(b1, #[.int .u32 x0, .int .u32 x1, .int .u32 x2], 47), (b2, #[.bool h0, .bool h1, .bool h2], 33), (b3, #[.int .i64 w0, .int .i64 w1, .int .i64 w2, .int .i64 a_3, .int .i64 b_3, .int .i64 c_3, .int .i64 d_3], 58), (b4, #[.int .i64 a_3, .int .i64 b_3, .int .i64 c_3], 22)] _ := Inv.callS (A := [(b1, #[.int .u32 x0, .int .u32 x1, .int .u32 x2], 47), (b2, #[.bool h0, .bool h1, .bool h2], 33)]) (S := [(b3, #[.int .i64 w0, .int .i64 w1, .int .i64 w2, .int .i64 a_3, .int .i64 b_3, .int .i64 c_3, .int .i64 d_3], 58)]) (S' := [(b3, #[.int .i64 w0, .int .i64 w1, .int .i64 w2, .int .i64 a_3, .int .i64 b_3, .int .i64 c_3, .int .i64 d_3], 58)]) (L := [(b4, #[.int .i64 a_3, .int .i64 b_3, .int .i64 c_3], 22)]) (N := []) hI12 hR rfl (fun _ h => by cases h)
  refine seq_one (op_val (v := .tuple #[.int .i64 (pickN false false false w0 w1 w2 ⟨a_3, b_3, c_3, d_3⟩), .bool (false || false || false)]) hf23 rfl rfl rfl rfl rfl rfl (r_move rfl) fun ac24 hf24 => ?_)
  refine seq_one (op_val (v := .int .i64 (pickN false false false w0 w1 w2 ⟨a_3, b_3, c_3, d_3⟩)) hf24 rfl rfl rfl rfl rfl rfl (r_extract rfl rfl) fun ac25 hf25 => ?_)
  refine seq_one (op_val (v := .bool (false || false || false)) hf25 rfl rfl rfl rfl rfl rfl (r_extract rfl rfl) fun ac26 hf26 => ?_)
  refine seq_one (op_val (v := .int .i64 (pickN false false false w0 w1 w2 ⟨a_3, b_3, c_3, d_3⟩)) hf26 rfl rfl rfl rfl rfl rfl (r_assign rfl) fun ac27 hf27 => ?_)
  refine seq_one (op_val (v := .bool (false || false || false)) hf27 rfl rfl rfl rfl rfl rfl (r_assign rfl) fun ac28 hf28 => ?_)
  refine seq_end ?_
  clear ac20 hf20 ac21 hf21 ac22 wd7 hf22 hI12 hR ac23 hf23 ac24 hf24 ac25 hf25 ac26 hf26 ac27 hf27
  refine then_normal ?_
  refine code_seq ?_
  refine any_start (fun w => Has [(b4, #[.int .i64 a_3, .int .i64 b_3, .int .i64 c_3], 22)] w) follows (Has.drew (Has.cons (hI13.at 3 rfl) Has.nil)) ?_
  have hS1 : Has [(b4, #[.int .i64 a_3, .int .i64 b_3, .int .i64 c_3], 22)] _ := Has.drew (Has.cons (hI13.at 3 rfl) Has.nil)
  have hI14 := hI13.drew
  refine any_val (i := 0) (v := .int .i64 (pickN false false false w0 w1 w2 ⟨a_3, b_3, c_3, d_3⟩)) hf28 rfl rfl rfl rfl rfl rfl (fun _ _ _ h => h) (by kernel_rfl) (by kernel_rfl) (by kernel_rfl) (fun wd8 hS1 => (r_move rfl)) hS1 fun ac29 hf29 => ?_
  refine any_val (i := 1) (v := .bool ((pickN false false false w0 w1 w2 ⟨a_3, b_3, c_3, d_3⟩) != 0)) hf29 rfl rfl rfl rfl rfl rfl (fun _ _ _ h => h) (by kernel_rfl) (by kernel_rfl) (by kernel_rfl) (fun wd8 hS1 => (r_neq rfl rfl)) hS1 fun ac30 hf30 => ?_
  refine any_val (i := 2) (v := .bool ((pickN false false false w0 w1 w2 ⟨a_3, b_3, c_3, d_3⟩) != 0)) hf30 rfl rfl rfl rfl rfl rfl (fun _ _ _ h => h) (by kernel_rfl) (by kernel_rfl) (by kernel_rfl) (fun wd8 hS1 => (r_move rfl)) hS1 fun ac31 hf31 => ?_
  have hf32 := hf31.know 38 (u := .bool false) rfl (congrArg Value.bool (by rw [pickN_none rfl]; rfl))
  refine any_val (i := 3) (v := .bool (false || false || false)) hf32 rfl rfl rfl rfl rfl rfl (fun _ _ _ h => h) (by kernel_rfl) (by kernel_rfl) (by kernel_rfl) (fun wd8 hS1 => (r_move rfl)) hS1 fun ac32 hf33 => ?_
  refine any_val (i := 4) (v := .bool (false || false || false)) hf33 rfl rfl rfl rfl rfl rfl (fun _ _ _ h => h) (by kernel_rfl) (by kernel_rfl) (by kernel_rfl) (fun wd8 hS1 => (r_pickF rfl rfl)) hS1 fun ac33 hf34 => ?_
  refine any_val (i := 5) (v := .bool (false || false || false)) hf34 rfl rfl rfl rfl rfl rfl (fun _ _ _ h => h) (by kernel_rfl) (by kernel_rfl) (by kernel_rfl) (fun wd8 hS1 => (r_move rfl)) hS1 fun ac34 hf35 => ?_
  have hf36 := hf35.know 41 (u := .bool false) rfl (congrArg Value.bool (rfl))
  refine any_val (i := 6) (v := .pointer (some ⟨b3, 0, none⟩)) hf36 rfl rfl rfl rfl rfl rfl (fun _ _ _ h => h) (by kernel_rfl) (by kernel_rfl) (by kernel_rfl) (fun wd8 hS1 => (r_move rfl)) hS1 fun ac35 hf37 => ?_
  refine any_val (i := 8) (v := .agg #[.int .i64 a_3, .int .i64 b_3, .int .i64 c_3]) hf37 rfl rfl rfl rfl rfl rfl (fun _ _ _ h => h) (by kernel_rfl) (by kernel_rfl) (by kernel_rfl) (fun wd8 hS1 => (r_loadW ag_22 sz_22 rfl (hS1.at 0 rfl) rfl)) hS1 fun ac36 hf38 => ?_
  refine any_one (i := 7) (by kernel_rfl) ?_
  refine (op_pureW hf38 rfl rfl rfl rfl ca_17 (credits_walk w0 w1 w2 a_3 b_3 c_3 d_3 hd.v.ne b3 _ (Has.cons (hI14.at 2 rfl) Has.nil)) hI14 fun ac37 wd9 hI15 hf39 => ⟨?_, ?_⟩)
  · exact (Has.cons (hI15.at 3 rfl) Has.nil)
  have hS2 : Has [(b4, #[.int .i64 a_3, .int .i64 b_3, .int .i64 c_3], 22)] _ := (Has.cons (hI15.at 3 rfl) Has.nil)
  refine any_val (i := 9) (v := .bool (!eqA (#[.int .i64 a_3, .int .i64 b_3, .int .i64 c_3]) (#[.int .i64 a_3, .int .i64 b_3, .int .i64 c_3]))) hf39 rfl rfl rfl rfl rfl rfl (fun _ _ _ h => h) (by kernel_rfl) (by kernel_rfl) (by kernel_rfl) (fun wd9 hS2 => (r_neA sh_22 kt_22 rw_22 rfl zk_22 eg_22 rfl rfl ⟨⟨_, rfl, (okwf0 hd.v ho3)⟩, ⟨_, rfl, (okwf1 hd.v ho3)⟩, ⟨_, rfl, (okwf2 hd.v ho3)⟩, trivial⟩ ⟨⟨_, rfl, (okwf0 hd.v ho3)⟩, ⟨_, rfl, (okwf1 hd.v ho3)⟩, ⟨_, rfl, (okwf2 hd.v ho3)⟩, trivial⟩)) hS2 fun ac38 hf40 => ?_
  refine any_val (i := 10) (v := .bool (!eqA (#[.int .i64 a_3, .int .i64 b_3, .int .i64 c_3]) (#[.int .i64 a_3, .int .i64 b_3, .int .i64 c_3]))) hf40 rfl rfl rfl rfl rfl rfl (fun _ _ _ h => h) (by kernel_rfl) (by kernel_rfl) (by kernel_rfl) (fun wd9 hS2 => (r_pickF rfl rfl)) hS2 fun ac39 hf41 => ?_
  refine any_val (i := 11) (v := .bool (!eqA (#[.int .i64 a_3, .int .i64 b_3, .int .i64 c_3]) (#[.int .i64 a_3, .int .i64 b_3, .int .i64 c_3]))) hf41 rfl rfl rfl rfl rfl rfl (fun _ _ _ h => h) (by kernel_rfl) (by kernel_rfl) (by kernel_rfl) (fun wd9 hS2 => (r_move rfl)) hS2 fun ac40 hf42 => ?_
  have hf43 := hf42.know 47 (u := .bool false) rfl (congrArg Value.bool (by rw [eqA_true rfl]; rfl))
  refine any_val (i := 12) (v := .pointer (some ⟨b3, 0, none⟩)) hf43 rfl rfl rfl rfl rfl rfl (fun _ _ _ h => h) (by kernel_rfl) (by kernel_rfl) (by kernel_rfl) (fun wd9 hS2 => (r_move rfl)) hS2 fun ac41 hf44 => ?_
  refine any_val (i := 14) (v := .int .i64 d_3) hf44 rfl rfl rfl rfl rfl rfl (fun _ _ _ h => h) (by kernel_rfl) (by kernel_rfl) (by kernel_rfl) (fun wd9 hS2 => (r_move rfl)) hS2 fun ac42 hf45 => ?_
  refine any_one (i := 13) (by kernel_rfl) ?_
  refine (op_pureW hf45 rfl rfl rfl rfl ca_16 (now_walk w0 w1 w2 a_3 b_3 c_3 d_3 hd.v.ne b3 _ (Has.cons (hI15.at 2 rfl) Has.nil)) hI15 fun ac43 wd10 hI16 hf46 => ⟨?_, ?_⟩)
  · exact (Has.cons (hI16.at 3 rfl) Has.nil)
  have hS3 : Has [(b4, #[.int .i64 a_3, .int .i64 b_3, .int .i64 c_3], 22)] _ := (Has.cons (hI16.at 3 rfl) Has.nil)
  refine any_val (i := 15) (v := .bool (d_3 != d_3)) hf46 rfl rfl rfl rfl rfl rfl (fun _ _ _ h => h) (by kernel_rfl) (by kernel_rfl) (by kernel_rfl) (fun wd10 hS3 => (r_neq rfl rfl)) hS3 fun ac44 hf47 => ?_
  refine any_val (i := 16) (v := .bool (d_3 != d_3)) hf47 rfl rfl rfl rfl rfl rfl (fun _ _ _ h => h) (by kernel_rfl) (by kernel_rfl) (by kernel_rfl) (fun wd10 hS3 => (r_pickF rfl rfl)) hS3 fun ac45 hf48 => ?_
  refine any_end (by kernel_rfl) ?_
  clear hI13 ac28 hf28 ac29 hf29 ac30 hf30 hf31 ac31 hf32 ac32 hf33 ac33 hf34 hf35 ac34 hf36 ac35 hf37 ac36 wd8 hI14 hf38 hS1 ac37 hf39 ac38 hf40 ac39 hf41 hf42 ac40 hf43 ac41 hf44 ac42 wd9 hI15 hf45 hS2 ac43 hf46 ac44 hf47 hS3
  refine then_normal ?_
  have hf49 := hf48.know 52 (u := .bool false) rfl (congrArg Value.bool (bne_self_eq_false _))
  refine code_if_false hf49 rfl ?_
  refine wp_skip ?_
  refine then_normal ?_
  refine code_seq ?_
  refine seq_start (l := [0, 1, 2, 3, 4, 5, 6, 7]) rfl ?_
  refine seq_one (op_val (v := .pointer (some ⟨b3, 0, none⟩)) hf49 rfl rfl rfl rfl rfl rfl (r_move rfl) fun ac46 hf50 => ?_)
  refine seq_one (op_val (v := .agg #[.bool h0, .bool h1, .bool h2]) hf50 rfl rfl rfl rfl rfl rfl (r_loadW ag_33 sz_33 rfl (hI16.at 1 rfl) rfl) fun ac47 hf51 => ?_)
  refine seq_one (op_call (R := fun v w' => v = (.tuple #[.int .i64 (pickN h0 h1 h2 w0 w1 w2 ⟨a_3, b_3, c_3, d_3⟩), .bool (h0 || h1 || h2)]) ∧ Inv wd10 [(b3, #[.int .i64 w0, .int .i64 w1, .int .i64 w2, .int .i64 (((pickS h0 h1 h2 w0 w1 w2 ⟨a_3, b_3, c_3, d_3⟩ : St)).c0), .int .i64 (((pickS h0 h1 h2 w0 w1 w2 ⟨a_3, b_3, c_3, d_3⟩ : St)).c1), .int .i64 (((pickS h0 h1 h2 w0 w1 w2 ⟨a_3, b_3, c_3, d_3⟩ : St)).c2), .int .i64 (((pickS h0 h1 h2 w0 w1 w2 ⟨a_3, b_3, c_3, d_3⟩ : St)).now)], 58)] w') hf51 rfl rfl rfl rfl ca_12 ((pick_walk w0 w1 w2 a_3 b_3 c_3 d_3 h0 h1 h2 hd.v.ne hd.v ho3 b3 _ (Has.cons (hI16.at 2 rfl) Has.nil)).mono fun _ _ h => ⟨_, h.1, rfl, h.2⟩) fun ac48 v wd11 hR hf52 => ?_)
  obtain ⟨rfl, hR⟩ := hR
  obtain ⟨a_6, b_6, c_6, d_6, he6⟩ : ∃ a b c d, (pickS h0 h1 h2 w0 w1 w2 ⟨a_3, b_3, c_3, d_3⟩ : St) = ⟨a, b, c, d⟩ := ⟨_, _, _, _, rfl⟩
  rw [he6] at hR
  dsimp only at hR
  have ho6 : Ok w0 w1 w2 ⟨a_6, b_6, c_6, d_6⟩ := by rw [← he6]; exact (pickS_ok hd.v ho3)
  have hI17 : Inv w [(b1, #[.int .u32 x0, .int .u32 x1, .int .u32 x2], 47), (b2, #[.bool h0, .bool h1, .bool h2], 33), (b3, #[.int .i64 w0, .int .i64 w1, .int .i64 w2, .int .i64 a_6, .int .i64 b_6, .int .i64 c_6, .int .i64 d_6], 58), (b4, #[.int .i64 a_3, .int .i64 b_3, .int .i64 c_3], 22)] _ := Inv.callS (A := [(b1, #[.int .u32 x0, .int .u32 x1, .int .u32 x2], 47), (b2, #[.bool h0, .bool h1, .bool h2], 33)]) (S := [(b3, #[.int .i64 w0, .int .i64 w1, .int .i64 w2, .int .i64 a_3, .int .i64 b_3, .int .i64 c_3, .int .i64 d_3], 58)]) (S' := [(b3, #[.int .i64 w0, .int .i64 w1, .int .i64 w2, .int .i64 a_6, .int .i64 b_6, .int .i64 c_6, .int .i64 d_6], 58)]) (L := [(b4, #[.int .i64 a_3, .int .i64 b_3, .int .i64 c_3], 22)]) (N := []) hI16 hR rfl (fun _ h => by cases h)
  refine seq_one (op_val (v := .tuple #[.int .i64 (pickN h0 h1 h2 w0 w1 w2 ⟨a_3, b_3, c_3, d_3⟩), .bool (h0 || h1 || h2)]) hf52 rfl rfl rfl rfl rfl rfl (r_move rfl) fun ac49 hf53 => ?_)
  refine seq_one (op_val (v := .int .i64 (pickN h0 h1 h2 w0 w1 w2 ⟨a_3, b_3, c_3, d_3⟩)) hf53 rfl rfl rfl rfl rfl rfl (r_extract rfl rfl) fun ac50 hf54 => ?_)
  refine seq_one (op_val (v := .bool (h0 || h1 || h2)) hf54 rfl rfl rfl rfl rfl rfl (r_extract rfl rfl) fun ac51 hf55 => ?_)
  refine seq_one (op_val (v := .int .i64 (pickN h0 h1 h2 w0 w1 w2 ⟨a_3, b_3, c_3, d_3⟩)) hf55 rfl rfl rfl rfl rfl rfl (r_assign rfl) fun ac52 hf56 => ?_)
  refine seq_one (op_val (v := .bool (h0 || h1 || h2)) hf56 rfl rfl rfl rfl rfl rfl (r_assign rfl) fun ac53 hf57 => ?_)
  refine seq_end ?_
  clear hf48 ac45 hf49 ac46 hf50 ac47 wd10 hf51 hI16 hR ac48 hf52 ac49 hf53 ac50 hf54 ac51 hf55 ac52 hf56
  refine then_normal ?_
  refine code_seq ?_
  refine seq_start (l := [0, 1, 2, 3]) rfl ?_
  refine seq_one (op_val (v := .pointer (some ⟨b3, 0, none⟩)) hf57 rfl rfl rfl rfl rfl rfl (r_move rfl) fun ac54 hf58 => ?_)
  refine seq_one (op_pureW hf58 rfl rfl rfl rfl ca_17 (credits_walk w0 w1 w2 a_6 b_6 c_6 d_6 hd.v.ne b3 _ (Has.cons (hI17.at 2 rfl) Has.nil)) hI17 fun ac55 wd12 hI18 hf59 => ?_)
  refine seq_one (op_alloc hf59 rfl rfl rfl ze_22 hI18 fun ac56 b7 wd13 hb7 hI19 hf60 => ?_)
  have hI20 : Inv w [(b1, #[.int .u32 x0, .int .u32 x1, .int .u32 x2], 47), (b2, #[.bool h0, .bool h1, .bool h2], 33), (b3, #[.int .i64 w0, .int .i64 w1, .int .i64 w2, .int .i64 a_6, .int .i64 b_6, .int .i64 c_6, .int .i64 d_6], 58), (b4, #[.int .i64 a_3, .int .i64 b_3, .int .i64 c_3], 22), (b7, #[.int .i64 0, .int .i64 0, .int .i64 0], 22)] wd13 := hI19
  refine seq_one (op_storeW (cells := #[.int .i64 a_6, .int .i64 b_6, .int .i64 c_6]) 4 hf60 rfl rfl rfl rfl rfl sz_22 rfl rfl hI20 rfl rfl fun wd14 hI21 => ?_)
  have hI22 : Inv w [(b1, #[.int .u32 x0, .int .u32 x1, .int .u32 x2], 47), (b2, #[.bool h0, .bool h1, .bool h2], 33), (b3, #[.int .i64 w0, .int .i64 w1, .int .i64 w2, .int .i64 a_6, .int .i64 b_6, .int .i64 c_6, .int .i64 d_6], 58), (b4, #[.int .i64 a_3, .int .i64 b_3, .int .i64 c_3], 22), (b7, #[.int .i64 a_6, .int .i64 b_6, .int .i64 c_6], 22)] wd14 := hI21
  refine seq_end ?_
  clear ac53 hf57 ac54 wd11 hI17 hf58 ac55 wd12 hI18 hf59 hI19 wd13 hI20 hI21
  refine then_normal ?_
  refine code_seq ?_
  refine seq_start (l := [0, 1, 2, 3, 4, 5, 6, 7]) rfl ?_
  refine seq_one (op_val (v := .pointer (some ⟨b3, 0, none⟩)) hf60 rfl rfl rfl rfl rfl rfl (r_move rfl) fun ac57 hf61 => ?_)
  refine seq_one (op_val (v := .agg #[.bool h0, .bool h1, .bool h2]) hf61 rfl rfl rfl rfl rfl rfl (r_loadW ag_33 sz_33 rfl (hI22.at 1 rfl) rfl) fun ac58 hf62 => ?_)
  refine seq_one (op_call (R := fun v w' => v = (.tuple #[.int .i64 (pickN h0 h1 h2 w0 w1 w2 ⟨a_6, b_6, c_6, d_6⟩), .bool (h0 || h1 || h2)]) ∧ Inv wd14 [(b3, #[.int .i64 w0, .int .i64 w1, .int .i64 w2, .int .i64 (((pickS h0 h1 h2 w0 w1 w2 ⟨a_6, b_6, c_6, d_6⟩ : St)).c0), .int .i64 (((pickS h0 h1 h2 w0 w1 w2 ⟨a_6, b_6, c_6, d_6⟩ : St)).c1), .int .i64 (((pickS h0 h1 h2 w0 w1 w2 ⟨a_6, b_6, c_6, d_6⟩ : St)).c2), .int .i64 (((pickS h0 h1 h2 w0 w1 w2 ⟨a_6, b_6, c_6, d_6⟩ : St)).now)], 58)] w') hf62 rfl rfl rfl rfl ca_12 ((pick_walk w0 w1 w2 a_6 b_6 c_6 d_6 h0 h1 h2 hd.v.ne hd.v ho6 b3 _ (Has.cons (hI22.at 2 rfl) Has.nil)).mono fun _ _ h => ⟨_, h.1, rfl, h.2⟩) fun ac59 v wd15 hR hf63 => ?_)
  obtain ⟨rfl, hR⟩ := hR
  rw [(show pickS h0 h1 h2 w0 w1 w2 ⟨a_6, b_6, c_6, d_6⟩ = ⟨a_6, b_6, c_6, d_6⟩ by rw [← he6]; exact pick_twice hd.v ho3)] at hR
  dsimp only at hR
  have hI23 : Inv w [(b1, #[.int .u32 x0, .int .u32 x1, .int .u32 x2], 47), (b2, #[.bool h0, .bool h1, .bool h2], 33), (b3, #[.int .i64 w0, .int .i64 w1, .int .i64 w2, .int .i64 a_6, .int .i64 b_6, .int .i64 c_6, .int .i64 d_6], 58), (b4, #[.int .i64 a_3, .int .i64 b_3, .int .i64 c_3], 22), (b7, #[.int .i64 a_6, .int .i64 b_6, .int .i64 c_6], 22)] _ := Inv.callS (A := [(b1, #[.int .u32 x0, .int .u32 x1, .int .u32 x2], 47), (b2, #[.bool h0, .bool h1, .bool h2], 33)]) (S := [(b3, #[.int .i64 w0, .int .i64 w1, .int .i64 w2, .int .i64 a_6, .int .i64 b_6, .int .i64 c_6, .int .i64 d_6], 58)]) (S' := [(b3, #[.int .i64 w0, .int .i64 w1, .int .i64 w2, .int .i64 a_6, .int .i64 b_6, .int .i64 c_6, .int .i64 d_6], 58)]) (L := [(b4, #[.int .i64 a_3, .int .i64 b_3, .int .i64 c_3], 22), (b7, #[.int .i64 a_6, .int .i64 b_6, .int .i64 c_6], 22)]) (N := []) hI22 hR rfl (fun _ h => by cases h)
  refine seq_one (op_val (v := .tuple #[.int .i64 (pickN h0 h1 h2 w0 w1 w2 ⟨a_6, b_6, c_6, d_6⟩), .bool (h0 || h1 || h2)]) hf63 rfl rfl rfl rfl rfl rfl (r_move rfl) fun ac60 hf64 => ?_)
  refine seq_one (op_val (v := .int .i64 (pickN h0 h1 h2 w0 w1 w2 ⟨a_6, b_6, c_6, d_6⟩)) hf64 rfl rfl rfl rfl rfl rfl (r_extract rfl rfl) fun ac61 hf65 => ?_)
  refine seq_one (op_val (v := .bool (h0 || h1 || h2)) hf65 rfl rfl rfl rfl rfl rfl (r_extract rfl rfl) fun ac62 hf66 => ?_)
  refine seq_one (op_val (v := .int .i64 (pickN h0 h1 h2 w0 w1 w2 ⟨a_6, b_6, c_6, d_6⟩)) hf66 rfl rfl rfl rfl rfl rfl (r_assign rfl) fun ac63 hf67 => ?_)
  refine seq_one (op_val (v := .bool (h0 || h1 || h2)) hf67 rfl rfl rfl rfl rfl rfl (r_assign rfl) fun ac64 hf68 => ?_)
  refine seq_end ?_
  clear ac56 hf60 ac57 hf61 ac58 wd14 hf62 hI22 hR ac59 hf63 ac60 hf64 ac61 hf65 ac62 hf66 ac63 hf67
  refine then_normal ?_
  refine code_seq ?_
  refine code_seq ?_
  refine code_join 136 ([(0, .agg #[.int .u32 x0, .int .u32 x1, .int .u32 x2]), (1, .slice p L cap), (2, .agg #[.bool h0, .bool h1, .bool h2]), (3, .pointer (some ⟨b1, 0, none⟩)), (5, .pointer (some ⟨b2, 0, none⟩)), (6, .bool false), (7, .pointer (some ⟨b3, 0, none⟩)), (8, .bool true), (9, .pointer (some ⟨b4, 0, none⟩)), (10, .int .i64 d_3), (11, .int .i64 (pickN false false false w0 w1 w2 ⟨a_3, b_3, c_3, d_3⟩)), (12, .bool (false || false || false)), (13, .int .i64 (pickN h0 h1 h2 w0 w1 w2 ⟨a_3, b_3, c_3, d_3⟩)), (14, .bool (h0 || h1 || h2)), (15, .pointer (some ⟨b7, 0, none⟩)), (16, .int .i64 (pickN h0 h1 h2 w0 w1 w2 ⟨a_6, b_6, c_6, d_6⟩)), (17, .bool (h0 || h1 || h2)), (18, .tuple #[.pointer (some ⟨b3, 0, none⟩), .bool true]), (19, .agg #[.int .u32 x0, .int .u32 x1, .int .u32 x2]), (20, .slice p L cap), (21, .tuple #[.pointer (some ⟨b3, 0, none⟩), .bool true]), (22, .pointer (some ⟨b3, 0, none⟩)), (23, .bool true), (24, .bool true), (25, .bool false), (26, .pointer (some ⟨b3, 0, none⟩)), (27, .agg #[.int .i64 a_3, .int .i64 b_3, .int .i64 c_3]), (28, .pointer (some ⟨b3, 0, none⟩)), (29, .int .i64 d_3), (30, .tuple #[.int .i64 (pickN false false false w0 w1 w2 ⟨a_3, b_3, c_3, d_3⟩), .bool (false || false || false)]), (31, .pointer (some ⟨b3, 0, none⟩)), (32, .agg #[.bool false, .bool false, .bool false]), (33, .tuple #[.int .i64 (pickN false false false w0 w1 w2 ⟨a_3, b_3, c_3, d_3⟩), .bool (false || false || false)]), (34, .int .i64 (pickN false false false w0 w1 w2 ⟨a_3, b_3, c_3, d_3⟩)), (35, .bool (false || false || false)), (36, .int .i64 (pickN false false false w0 w1 w2 ⟨a_3, b_3, c_3, d_3⟩)), (37, .bool ((pickN false false false w0 w1 w2 ⟨a_3, b_3, c_3, d_3⟩) != 0)), (38, .bool false), (39, .bool (false || false || false)), (40, .bool (false || false || false)), (41, .bool false), (42, .pointer (some ⟨b3, 0, none⟩)), (43, .agg #[.int .i64 a_3, .int .i64 b_3, .int .i64 c_3]), (44, .agg #[.int .i64 a_3, .int .i64 b_3, .int .i64 c_3]), (45, .bool (!eqA (#[.int .i64 a_3, .int .i64 b_3, .int .i64 c_3]) (#[.int .i64 a_3, .int .i64 b_3, .int .i64 c_3]))), (46, .bool (!eqA (#[.int .i64 a_3, .int .i64 b_3, .int .i64 c_3]) (#[.int .i64 a_3, .int .i64 b_3, .int .i64 c_3]))), (47, .bool false), (48, .pointer (some ⟨b3, 0, none⟩)), (49, .int .i64 d_3), (50, .int .i64 d_3), (51, .bool (d_3 != d_3)), (52, .bool false), (53, .tuple #[.int .i64 (pickN h0 h1 h2 w0 w1 w2 ⟨a_3, b_3, c_3, d_3⟩), .bool (h0 || h1 || h2)]), (54, .pointer (some ⟨b3, 0, none⟩)), (55, .agg #[.bool h0, .bool h1, .bool h2]), (56, .tuple #[.int .i64 (pickN h0 h1 h2 w0 w1 w2 ⟨a_3, b_3, c_3, d_3⟩), .bool (h0 || h1 || h2)]), (57, .int .i64 (pickN h0 h1 h2 w0 w1 w2 ⟨a_3, b_3, c_3, d_3⟩)), (58, .bool (h0 || h1 || h2)), (59, .pointer (some ⟨b3, 0, none⟩)), (60, .agg #[.int .i64 a_6, .int .i64 b_6, .int .i64 c_6]), (61, .tuple #[.int .i64 (pickN h0 h1 h2 w0 w1 w2 ⟨a_6, b_6, c_6, d_6⟩), .bool (h0 || h1 || h2)]), (62, .pointer (some ⟨b3, 0, none⟩)), (63, .agg #[.bool h0, .bool h1, .bool h2]), (64, .tuple #[.int .i64 (pickN h0 h1 h2 w0 w1 w2 ⟨a_6, b_6, c_6, d_6⟩), .bool (h0 || h1 || h2)]), (65, .int .i64 (pickN h0 h1 h2 w0 w1 w2 ⟨a_6, b_6, c_6, d_6⟩)), (66, .bool (h0 || h1 || h2)), (94, .bool false)]) (fun w' => Inv w [(b1, #[.int .u32 x0, .int .u32 x1, .int .u32 x2], 47), (b2, #[.bool h0, .bool h1, .bool h2], 33), (b3, #[.int .i64 w0, .int .i64 w1, .int .i64 w2, .int .i64 a_6, .int .i64 b_6, .int .i64 c_6, .int .i64 d_6], 58), (b4, #[.int .i64 a_3, .int .i64 b_3, .int .i64 c_3], 22), (b7, #[.int .i64 a_6, .int .i64 b_6, .int .i64 c_6], 22)] w') ?_ ?_
  ·
    refine any_start (fun w => Has [(b2, #[.bool h0, .bool h1, .bool h2], 33), (b7, #[.int .i64 a_6, .int .i64 b_6, .int .i64 c_6], 22)] w) follows (Has.drew (Has.cons (hI23.at 1 rfl) (Has.cons (hI23.at 4 rfl) Has.nil))) ?_
    have hS4 : Has [(b2, #[.bool h0, .bool h1, .bool h2], 33), (b7, #[.int .i64 a_6, .int .i64 b_6, .int .i64 c_6], 22)] _ := Has.drew (Has.cons (hI23.at 1 rfl) (Has.cons (hI23.at 4 rfl) Has.nil))
    have hI24 := hI23.drew
    refine any_val (i := 0) (v := .bool (h0 || h1 || h2)) hf68 rfl rfl rfl rfl rfl rfl (fun _ _ _ h => h) (by kernel_rfl) (by kernel_rfl) (by kernel_rfl) (fun wd15 hS4 => (r_move rfl)) hS4 fun ac65 hf69 => ?_
    refine any_val (i := 1) (v := .pointer (some ⟨b2, 0, none⟩)) hf69 rfl rfl rfl rfl rfl rfl (fun _ _ _ h => h) (by kernel_rfl) (by kernel_rfl) (by kernel_rfl) (fun wd15 hS4 => (r_indexAddr (i := 0) ar_33 rfl rfl rfl (by decide) rfl)) hS4 fun ac66 hf70 => ?_
    refine any_val (i := 2) (v := .bool h0) hf70 rfl rfl rfl rfl rfl rfl (fun _ _ _ h => h) (by kernel_rfl) (by kernel_rfl) (by kernel_rfl) (fun wd15 hS4 => (r_load ag_4 rfl (hS4.at 0 rfl) rfl)) hS4 fun ac67 hf71 => ?_
    refine any_val (i := 3) (v := .bool h0) hf71 rfl rfl rfl rfl rfl rfl (fun _ _ _ h => h) (by kernel_rfl) (by kernel_rfl) (by kernel_rfl) (fun wd15 hS4 => (r_move rfl)) hS4 fun ac68 hf72 => ?_
    rcases Bool.eq_false_or_eq_true (h0 : Bool) with g70_1 | g70_1
    · have hf73 := hf72.know 70 (u := .bool true) rfl (congrArg Value.bool g70_1)
      refine any_skip (i := 4) hf73 rfl rfl rfl rfl (fun _ _ _ h => h) (by kernel_rfl) (by kernel_rfl) (by kernel_rfl) hS4 fun ac69 hf74 => ?_
      refine any_skip (i := 5) hf74 rfl rfl rfl rfl (fun _ _ _ h => h) (by kernel_rfl) (by kernel_rfl) (by kernel_rfl) hS4 fun ac70 hf75 => ?_
      refine any_val (i := 6) (v := .bool true) hf75 rfl rfl rfl rfl rfl rfl (fun _ _ _ h => h) (by kernel_rfl) (by kernel_rfl) (by kernel_rfl) (fun wd15 hS4 => (r_pickT rfl rfl)) hS4 fun ac71 hf76 => ?_
      refine any_val (i := 7) (v := .bool true) hf76 rfl rfl rfl rfl rfl rfl (fun _ _ _ h => h) (by kernel_rfl) (by kernel_rfl) (by kernel_rfl) (fun wd15 hS4 => (r_move rfl)) hS4 fun ac72 hf77 => ?_
      refine any_skip (i := 8) hf77 rfl rfl rfl rfl (fun _ _ _ h => h) (by kernel_rfl) (by kernel_rfl) (by kernel_rfl) hS4 fun ac73 hf78 => ?_
      refine any_skip (i := 9) hf78 rfl rfl rfl rfl (fun _ _ _ h => h) (by kernel_rfl) (by kernel_rfl) (by kernel_rfl) hS4 fun ac74 hf79 => ?_
      refine any_val (i := 10) (v := .bool true) hf79 rfl rfl rfl rfl rfl rfl (fun _ _ _ h => h) (by kernel_rfl) (by kernel_rfl) (by kernel_rfl) (fun wd15 hS4 => (r_pickT rfl rfl)) hS4 fun ac75 hf80 => ?_
      refine any_val (i := 11) (v := .bool ((h0 || h1 || h2) != true)) hf80 rfl rfl rfl rfl rfl rfl (fun _ _ _ h => h) (by kernel_rfl) (by kernel_rfl) (by kernel_rfl) (fun wd15 hS4 => (r_neB ub_4 rfl rfl)) hS4 fun ac76 hf81 => ?_
      refine any_val (i := 12) (v := .bool ((h0 || h1 || h2) != true)) hf81 rfl rfl rfl rfl rfl rfl (fun _ _ _ h => h) (by kernel_rfl) (by kernel_rfl) (by kernel_rfl) (fun wd15 hS4 => (r_move rfl)) hS4 fun ac77 hf82 => ?_
      have hf83 := hf82.know 79 (u := .bool false) rfl (congrArg Value.bool (by simp [g70_1]))
      refine any_val (i := 13) (v := .int .i64 (pickN h0 h1 h2 w0 w1 w2 ⟨a_3, b_3, c_3, d_3⟩)) hf83 rfl rfl rfl rfl rfl rfl (fun _ _ _ h => h) (by kernel_rfl) (by kernel_rfl) (by kernel_rfl) (fun wd15 hS4 => (r_move rfl)) hS4 fun ac78 hf84 => ?_
      refine any_val (i := 14) (v := .int .i64 (pickN h0 h1 h2 w0 w1 w2 ⟨a_6, b_6, c_6, d_6⟩)) hf84 rfl rfl rfl rfl rfl rfl (fun _ _ _ h => h) (by kernel_rfl) (by kernel_rfl) (by kernel_rfl) (fun wd15 hS4 => (r_move rfl)) hS4 fun ac79 hf85 => ?_
      refine any_val (i := 15) (v := .bool ((pickN h0 h1 h2 w0 w1 w2 ⟨a_3, b_3, c_3, d_3⟩) != (pickN h0 h1 h2 w0 w1 w2 ⟨a_6, b_6, c_6, d_6⟩))) hf85 rfl rfl rfl rfl rfl rfl (fun _ _ _ h => h) (by kernel_rfl) (by kernel_rfl) (by kernel_rfl) (fun wd15 hS4 => (r_neq rfl rfl)) hS4 fun ac80 hf86 => ?_
      refine any_val (i := 16) (v := .bool ((pickN h0 h1 h2 w0 w1 w2 ⟨a_3, b_3, c_3, d_3⟩) != (pickN h0 h1 h2 w0 w1 w2 ⟨a_6, b_6, c_6, d_6⟩))) hf86 rfl rfl rfl rfl rfl rfl (fun _ _ _ h => h) (by kernel_rfl) (by kernel_rfl) (by kernel_rfl) (fun wd15 hS4 => (r_pickF rfl rfl)) hS4 fun ac81 hf87 => ?_
      refine any_val (i := 17) (v := .bool ((pickN h0 h1 h2 w0 w1 w2 ⟨a_3, b_3, c_3, d_3⟩) != (pickN h0 h1 h2 w0 w1 w2 ⟨a_6, b_6, c_6, d_6⟩))) hf87 rfl rfl rfl rfl rfl rfl (fun _ _ _ h => h) (by kernel_rfl) (by kernel_rfl) (by kernel_rfl) (fun wd15 hS4 => (r_move rfl)) hS4 fun ac82 hf88 => ?_
      have hf89 := hf88.know 84 (u := .bool false) rfl (congrArg Value.bool (by rw [← he6, pickN_twice hd.v ho3]; exact bne_self_eq_false _))
      refine any_val (i := 18) (v := .bool (h0 || h1 || h2)) hf89 rfl rfl rfl rfl rfl rfl (fun _ _ _ h => h) (by kernel_rfl) (by kernel_rfl) (by kernel_rfl) (fun wd15 hS4 => (r_move rfl)) hS4 fun ac83 hf90 => ?_
      refine any_val (i := 19) (v := .bool (h0 || h1 || h2)) hf90 rfl rfl rfl rfl rfl rfl (fun _ _ _ h => h) (by kernel_rfl) (by kernel_rfl) (by kernel_rfl) (fun wd15 hS4 => (r_move rfl)) hS4 fun ac84 hf91 => ?_
      refine any_val (i := 20) (v := .bool ((h0 || h1 || h2) != (h0 || h1 || h2))) hf91 rfl rfl rfl rfl rfl rfl (fun _ _ _ h => h) (by kernel_rfl) (by kernel_rfl) (by kernel_rfl) (fun wd15 hS4 => (r_neB ub_4 rfl rfl)) hS4 fun ac85 hf92 => ?_
      refine any_val (i := 21) (v := .bool ((h0 || h1 || h2) != (h0 || h1 || h2))) hf92 rfl rfl rfl rfl rfl rfl (fun _ _ _ h => h) (by kernel_rfl) (by kernel_rfl) (by kernel_rfl) (fun wd15 hS4 => (r_pickF rfl rfl)) hS4 fun ac86 hf93 => ?_
      refine any_val (i := 22) (v := .bool ((h0 || h1 || h2) != (h0 || h1 || h2))) hf93 rfl rfl rfl rfl rfl rfl (fun _ _ _ h => h) (by kernel_rfl) (by kernel_rfl) (by kernel_rfl) (fun wd15 hS4 => (r_move rfl)) hS4 fun ac87 hf94 => ?_
      have hf95 := hf94.know 89 (u := .bool false) rfl (congrArg Value.bool (bne_self_eq_false _))
      refine any_val (i := 23) (v := .pointer (some ⟨b3, 0, none⟩)) hf95 rfl rfl rfl rfl rfl rfl (fun _ _ _ h => h) (by kernel_rfl) (by kernel_rfl) (by kernel_rfl) (fun wd15 hS4 => (r_move rfl)) hS4 fun ac88 hf96 => ?_
      refine any_val (i := 25) (v := .agg #[.int .i64 a_6, .int .i64 b_6, .int .i64 c_6]) hf96 rfl rfl rfl rfl rfl rfl (fun _ _ _ h => h) (by kernel_rfl) (by kernel_rfl) (by kernel_rfl) (fun wd15 hS4 => (r_loadW ag_22 sz_22 rfl (hS4.at 1 rfl) rfl)) hS4 fun ac89 hf97 => ?_
      refine any_one (i := 24) (by kernel_rfl) ?_
      refine (op_pureW hf97 rfl rfl rfl rfl ca_17 (credits_walk w0 w1 w2 a_6 b_6 c_6 d_6 hd.v.ne b3 _ (Has.cons (hI24.at 2 rfl) Has.nil)) hI24 fun ac90 wd16 hI25 hf98 => ⟨?_, ?_⟩)
      · exact (Has.cons (hI25.at 1 rfl) (Has.cons (hI25.at 4 rfl) Has.nil))
      have hS5 : Has [(b2, #[.bool h0, .bool h1, .bool h2], 33), (b7, #[.int .i64 a_6, .int .i64 b_6, .int .i64 c_6], 22)] _ := (Has.cons (hI25.at 1 rfl) (Has.cons (hI25.at 4 rfl) Has.nil))
      refine any_val (i := 26) (v := .bool (!eqA (#[.int .i64 a_6, .int .i64 b_6, .int .i64 c_6]) (#[.int .i64 a_6, .int .i64 b_6, .int .i64 c_6]))) hf98 rfl rfl rfl rfl rfl rfl (fun _ _ _ h => h) (by kernel_rfl) (by kernel_rfl) (by kernel_rfl) (fun wd16 hS5 => (r_neA sh_22 kt_22 rw_22 rfl zk_22 eg_22 rfl rfl ⟨⟨_, rfl, (okwf0 hd.v ho6)⟩, ⟨_, rfl, (okwf1 hd.v ho6)⟩, ⟨_, rfl, (okwf2 hd.v ho6)⟩, trivial⟩ ⟨⟨_, rfl, (okwf0 hd.v ho6)⟩, ⟨_, rfl, (okwf1 hd.v ho6)⟩, ⟨_, rfl, (okwf2 hd.v ho6)⟩, trivial⟩)) hS5 fun ac91 hf99 => ?_
      refine any_val (i := 27) (v := .bool (!eqA (#[.int .i64 a_6, .int .i64 b_6, .int .i64 c_6]) (#[.int .i64 a_6, .int .i64 b_6, .int .i64 c_6]))) hf99 rfl rfl rfl rfl rfl rfl (fun _ _ _ h => h) (by kernel_rfl) (by kernel_rfl) (by kernel_rfl) (fun wd16 hS5 => (r_pickF rfl rfl)) hS5 fun ac92 hf100 => ?_
      refine any_end (by kernel_rfl) ?_
      clear hI23 ac64 hf68 ac65 hf69 ac66 hf70 ac67 hf71 hf72 ac68 hf73 ac69 hf74 ac70 hf75 ac71 hf76 ac72 hf77 ac73 hf78 ac74 hf79 ac75 hf80 ac76 hf81 hf82 ac77 hf83 ac78 hf84 ac79 hf85 ac80 hf86 ac81 hf87 hf88 ac82 hf89 ac83 hf90 ac84 hf91 ac85 hf92 ac86 hf93 hf94 ac87 hf95 ac88 hf96 ac89 wd15 hI24 hf97 hS4 ac90 hf98 ac91 hf99 hS5
      refine then_normal ?_
      have hf101 := hf100.know 94 (u := .bool false) rfl (congrArg Value.bool (by rw [eqA_true rfl]; rfl))
      clear hf100
      exact ⟨(hf101.cons 0 rfl (hf101.cons 1 rfl (hf101.cons 2 rfl (hf101.cons 3 rfl (hf101.cons 5 rfl (hf101.cons 6 rfl (hf101.cons 7 rfl (hf101.cons 8 rfl (hf101.cons 9 rfl (hf101.cons 10 rfl (hf101.cons 11 rfl (hf101.cons 12 rfl (hf101.cons 13 rfl (hf101.cons 14 rfl (hf101.cons 15 rfl (hf101.cons 16 rfl (hf101.cons 17 rfl (hf101.cons 18 rfl (hf101.cons 19 rfl (hf101.cons 20 rfl (hf101.cons 21 rfl (hf101.cons 22 rfl (hf101.cons 23 rfl (hf101.cons 24 rfl (hf101.cons 25 rfl (hf101.cons 26 rfl (hf101.cons 27 rfl (hf101.cons 28 rfl (hf101.cons 29 rfl (hf101.cons 30 rfl (hf101.cons 31 rfl (hf101.cons 32 rfl (hf101.cons 33 rfl (hf101.cons 34 rfl (hf101.cons 35 rfl (hf101.cons 36 rfl (hf101.cons 37 rfl (hf101.cons 38 rfl (hf101.cons 39 rfl (hf101.cons 40 rfl (hf101.cons 41 rfl (hf101.cons 42 rfl (hf101.cons 43 rfl (hf101.cons 44 rfl (hf101.cons 45 rfl (hf101.cons 46 rfl (hf101.cons 47 rfl (hf101.cons 48 rfl (hf101.cons 49 rfl (hf101.cons 50 rfl (hf101.cons 51 rfl (hf101.cons 52 rfl (hf101.cons 53 rfl (hf101.cons 54 rfl (hf101.cons 55 rfl (hf101.cons 56 rfl (hf101.cons 57 rfl (hf101.cons 58 rfl (hf101.cons 59 rfl (hf101.cons 60 rfl (hf101.cons 61 rfl (hf101.cons 62 rfl (hf101.cons 63 rfl (hf101.cons 64 rfl (hf101.cons 65 rfl (hf101.cons 66 rfl (hf101.cons 94 rfl hf101.nil))))))))))))))))))))))))))))))))))))))))))))))))))))))))))))))))))), hI25⟩
    · have hf102 := hf72.know 70 (u := .bool false) rfl (congrArg Value.bool g70_1)
      refine any_val (i := 4) (v := .pointer (some ⟨b2, 1, none⟩)) hf102 rfl rfl rfl rfl rfl rfl (fun _ _ _ h => h) (by kernel_rfl) (by kernel_rfl) (by kernel_rfl) (fun wd15 hS4 => (r_indexAddr (i := 1) ar_33 rfl rfl rfl (by decide) rfl)) hS4 fun ac93 hf103 => ?_
      refine any_val (i := 5) (v := .bool h1) hf103 rfl rfl rfl rfl rfl rfl (fun _ _ _ h => h) (by kernel_rfl) (by kernel_rfl) (by kernel_rfl) (fun wd15 hS4 => (r_load ag_4 rfl (hS4.at 0 rfl) rfl)) hS4 fun ac94 hf104 => ?_
      refine any_val (i := 6) (v := .bool h1) hf104 rfl rfl rfl rfl rfl rfl (fun _ _ _ h => h) (by kernel_rfl) (by kernel_rfl) (by kernel_rfl) (fun wd15 hS4 => (r_pickF rfl rfl)) hS4 fun ac95 hf105 => ?_
      refine any_val (i := 7) (v := .bool h1) hf105 rfl rfl rfl rfl rfl rfl (fun _ _ _ h => h) (by kernel_rfl) (by kernel_rfl) (by kernel_rfl) (fun wd15 hS4 => (r_move rfl)) hS4 fun ac96 hf106 => ?_
      rcases Bool.eq_false_or_eq_true (h1 : Bool) with g74_2 | g74_2
      · have hf107 := hf106.know 74 (u := .bool true) rfl (congrArg Value.bool g74_2)
        refine any_skip (i := 8) hf107 rfl rfl rfl rfl (fun _ _ _ h => h) (by kernel_rfl) (by kernel_rfl) (by kernel_rfl) hS4 fun ac97 hf108 => ?_
        refine any_skip (i := 9) hf108 rfl rfl rfl rfl (fun _ _ _ h => h) (by kernel_rfl) (by kernel_rfl) (by kernel_rfl) hS4 fun ac98 hf109 => ?_
        refine any_val (i := 10) (v := .bool true) hf109 rfl rfl rfl rfl rfl rfl (fun _ _ _ h => h) (by kernel_rfl) (by kernel_rfl) (by kernel_rfl) (fun wd15 hS4 => (r_pickT rfl rfl)) hS4 fun ac99 hf110 => ?_
        refine any_val (i := 11) (v := .bool ((h0 || h1 || h2) != true)) hf110 rfl rfl rfl rfl rfl rfl (fun _ _ _ h => h) (by kernel_rfl) (by kernel_rfl) (by kernel_rfl) (fun wd15 hS4 => (r_neB ub_4 rfl rfl)) hS4 fun ac100 hf111 => ?_
        refine any_val (i := 12) (v := .bool ((h0 || h1 || h2) != true)) hf111 rfl rfl rfl rfl rfl rfl (fun _ _ _ h => h) (by kernel_rfl) (by kernel_rfl) (by kernel_rfl) (fun wd15 hS4 => (r_move rfl)) hS4 fun ac101 hf112 => ?_
        have hf113 := hf112.know 79 (u := .bool false) rfl (congrArg Value.bool (by simp [g70_1, g74_2]))
        refine any_val (i := 13) (v := .int .i64 (pickN h0 h1 h2 w0 w1 w2 ⟨a_3, b_3, c_3, d_3⟩)) hf113 rfl rfl rfl rfl rfl rfl (fun _ _ _ h => h) (by kernel_rfl) (by kernel_rfl) (by kernel_rfl) (fun wd15 hS4 => (r_move rfl)) hS4 fun ac102 hf114 => ?_
        refine any_val (i := 14) (v := .int .i64 (pickN h0 h1 h2 w0 w1 w2 ⟨a_6, b_6, c_6, d_6⟩)) hf114 rfl rfl rfl rfl rfl rfl (fun _ _ _ h => h) (by kernel_rfl) (by kernel_rfl) (by kernel_rfl) (fun wd15 hS4 => (r_move rfl)) hS4 fun ac103 hf115 => ?_
        refine any_val (i := 15) (v := .bool ((pickN h0 h1 h2 w0 w1 w2 ⟨a_3, b_3, c_3, d_3⟩) != (pickN h0 h1 h2 w0 w1 w2 ⟨a_6, b_6, c_6, d_6⟩))) hf115 rfl rfl rfl rfl rfl rfl (fun _ _ _ h => h) (by kernel_rfl) (by kernel_rfl) (by kernel_rfl) (fun wd15 hS4 => (r_neq rfl rfl)) hS4 fun ac104 hf116 => ?_
        refine any_val (i := 16) (v := .bool ((pickN h0 h1 h2 w0 w1 w2 ⟨a_3, b_3, c_3, d_3⟩) != (pickN h0 h1 h2 w0 w1 w2 ⟨a_6, b_6, c_6, d_6⟩))) hf116 rfl rfl rfl rfl rfl rfl (fun _ _ _ h => h) (by kernel_rfl) (by kernel_rfl) (by kernel_rfl) (fun wd15 hS4 => (r_pickF rfl rfl)) hS4 fun ac105 hf117 => ?_
        refine any_val (i := 17) (v := .bool ((pickN h0 h1 h2 w0 w1 w2 ⟨a_3, b_3, c_3, d_3⟩) != (pickN h0 h1 h2 w0 w1 w2 ⟨a_6, b_6, c_6, d_6⟩))) hf117 rfl rfl rfl rfl rfl rfl (fun _ _ _ h => h) (by kernel_rfl) (by kernel_rfl) (by kernel_rfl) (fun wd15 hS4 => (r_move rfl)) hS4 fun ac106 hf118 => ?_
        have hf119 := hf118.know 84 (u := .bool false) rfl (congrArg Value.bool (by rw [← he6, pickN_twice hd.v ho3]; exact bne_self_eq_false _))
        refine any_val (i := 18) (v := .bool (h0 || h1 || h2)) hf119 rfl rfl rfl rfl rfl rfl (fun _ _ _ h => h) (by kernel_rfl) (by kernel_rfl) (by kernel_rfl) (fun wd15 hS4 => (r_move rfl)) hS4 fun ac107 hf120 => ?_
        refine any_val (i := 19) (v := .bool (h0 || h1 || h2)) hf120 rfl rfl rfl rfl rfl rfl (fun _ _ _ h => h) (by kernel_rfl) (by kernel_rfl) (by kernel_rfl) (fun wd15 hS4 => (r_move rfl)) hS4 fun ac108 hf121 => ?_
        refine any_val (i := 20) (v := .bool ((h0 || h1 || h2) != (h0 || h1 || h2))) hf121 rfl rfl rfl rfl rfl rfl (fun _ _ _ h => h) (by kernel_rfl) (by kernel_rfl) (by kernel_rfl) (fun wd15 hS4 => (r_neB ub_4 rfl rfl)) hS4 fun ac109 hf122 => ?_
        refine any_val (i := 21) (v := .bool ((h0 || h1 || h2) != (h0 || h1 || h2))) hf122 rfl rfl rfl rfl rfl rfl (fun _ _ _ h => h) (by kernel_rfl) (by kernel_rfl) (by kernel_rfl) (fun wd15 hS4 => (r_pickF rfl rfl)) hS4 fun ac110 hf123 => ?_
        refine any_val (i := 22) (v := .bool ((h0 || h1 || h2) != (h0 || h1 || h2))) hf123 rfl rfl rfl rfl rfl rfl (fun _ _ _ h => h) (by kernel_rfl) (by kernel_rfl) (by kernel_rfl) (fun wd15 hS4 => (r_move rfl)) hS4 fun ac111 hf124 => ?_
        have hf125 := hf124.know 89 (u := .bool false) rfl (congrArg Value.bool (bne_self_eq_false _))
        refine any_val (i := 23) (v := .pointer (some ⟨b3, 0, none⟩)) hf125 rfl rfl rfl rfl rfl rfl (fun _ _ _ h => h) (by kernel_rfl) (by kernel_rfl) (by kernel_rfl) (fun wd15 hS4 => (r_move rfl)) hS4 fun ac112 hf126 => ?_
        refine any_val (i := 25) (v := .agg #[.int .i64 a_6, .int .i64 b_6, .int .i64 c_6]) hf126 rfl rfl rfl rfl rfl rfl (fun _ _ _ h => h) (by kernel_rfl) (by kernel_rfl) (by kernel_rfl) (fun wd15 hS4 => (r_loadW ag_22 sz_22 rfl (hS4.at 1 rfl) rfl)) hS4 fun ac113 hf127 => ?_
        refine any_one (i := 24) (by kernel_rfl) ?_
        refine (op_pureW hf127 rfl rfl rfl rfl ca_17 (credits_walk w0 w1 w2 a_6 b_6 c_6 d_6 hd.v.ne b3 _ (Has.cons (hI24.at 2 rfl) Has.nil)) hI24 fun ac114 wd17 hI26 hf128 => ⟨?_, ?_⟩)
        · exact (Has.cons (hI26.at 1 rfl) (Has.cons (hI26.at 4 rfl) Has.nil))
        have hS6 : Has [(b2, #[.bool h0, .bool h1, .bool h2], 33), (b7, #[.int .i64 a_6, .int .i64 b_6, .int .i64 c_6], 22)] _ := (Has.cons (hI26.at 1 rfl) (Has.cons (hI26.at 4 rfl) Has.nil))
        refine any_val (i := 26) (v := .bool (!eqA (#[.int .i64 a_6, .int .i64 b_6, .int .i64 c_6]) (#[.int .i64 a_6, .int .i64 b_6, .int .i64 c_6]))) hf128 rfl rfl rfl rfl rfl rfl (fun _ _ _ h => h) (by kernel_rfl) (by kernel_rfl) (by kernel_rfl) (fun wd17 hS6 => (r_neA sh_22 kt_22 rw_22 rfl zk_22 eg_22 rfl rfl ⟨⟨_, rfl, (okwf0 hd.v ho6)⟩, ⟨_, rfl, (okwf1 hd.v ho6)⟩, ⟨_, rfl, (okwf2 hd.v ho6)⟩, trivial⟩ ⟨⟨_, rfl, (okwf0 hd.v ho6)⟩, ⟨_, rfl, (okwf1 hd.v ho6)⟩, ⟨_, rfl, (okwf2 hd.v ho6)⟩, trivial⟩)) hS6 fun ac115 hf129 => ?_
        refine any_val (i := 27) (v := .bool (!eqA (#[.int .i64 a_6, .int .i64 b_6, .int .i64 c_6]) (#[.int .i64 a_6, .int .i64 b_6, .int .i64 c_6]))) hf129 rfl rfl rfl rfl rfl rfl (fun _ _ _ h => h) (by kernel_rfl) (by kernel_rfl) (by kernel_rfl) (fun wd17 hS6 => (r_pickF rfl rfl)) hS6 fun ac116 hf130 => ?_
        refine any_end (by kernel_rfl) ?_
        clear hI23 ac64 hf68 ac65 hf69 ac66 hf70 ac67 hf71 hf72 ac68 hf102 ac93 hf103 ac94 hf104 ac95 hf105 hf106 ac96 hf107 ac97 hf108 ac98 hf109 ac99 hf110 ac100 hf111 hf112 ac101 hf113 ac102 hf114 ac103 hf115 ac104 hf116 ac105 hf117 hf118 ac106 hf119 ac107 hf120 ac108 hf121 ac109 hf122 ac110 hf123 hf124 ac111 hf125 ac112 hf126 ac113 wd15 hI24 hf127 hS4 ac114 hf128 ac115 hf129 hS6
        refine then_normal ?_
        have hf131 := hf130.know 94 (u := .bool false) rfl (congrArg Value.bool (by rw [eqA_true rfl]; rfl))
        clear hf130
        exact ⟨(hf131.cons 0 rfl (hf131.cons 1 rfl (hf131.cons 2 rfl (hf131.cons 3 rfl (hf131.cons 5 rfl (hf131.cons 6 rfl (hf131.cons 7 rfl (hf131.cons 8 rfl (hf131.cons 9 rfl (hf131.cons 10 rfl (hf131.cons 11 rfl (hf131.cons 12 rfl (hf131.cons 13 rfl (hf131.cons 14 rfl (hf131.cons 15 rfl (hf131.cons 16 rfl (hf131.cons 17 rfl (hf131.cons 18 rfl (hf131.cons 19 rfl (hf131.cons 20 rfl (hf131.cons 21 rfl (hf131.cons 22 rfl (hf131.cons 23 rfl (hf131.cons 24 rfl (hf131.cons 25 rfl (hf131.cons 26 rfl (hf131.cons 27 rfl (hf131.cons 28 rfl (hf131.cons 29 rfl (hf131.cons 30 rfl (hf131.cons 31 rfl (hf131.cons 32 rfl (hf131.cons 33 rfl (hf131.cons 34 rfl (hf131.cons 35 rfl (hf131.cons 36 rfl (hf131.cons 37 rfl (hf131.cons 38 rfl (hf131.cons 39 rfl (hf131.cons 40 rfl (hf131.cons 41 rfl (hf131.cons 42 rfl (hf131.cons 43 rfl (hf131.cons 44 rfl (hf131.cons 45 rfl (hf131.cons 46 rfl (hf131.cons 47 rfl (hf131.cons 48 rfl (hf131.cons 49 rfl (hf131.cons 50 rfl (hf131.cons 51 rfl (hf131.cons 52 rfl (hf131.cons 53 rfl (hf131.cons 54 rfl (hf131.cons 55 rfl (hf131.cons 56 rfl (hf131.cons 57 rfl (hf131.cons 58 rfl (hf131.cons 59 rfl (hf131.cons 60 rfl (hf131.cons 61 rfl (hf131.cons 62 rfl (hf131.cons 63 rfl (hf131.cons 64 rfl (hf131.cons 65 rfl (hf131.cons 66 rfl (hf131.cons 94 rfl hf131.nil))))))))))))))))))))))))))))))))))))))))))))))))))))))))))))))))))), hI26⟩
      · have hf132 := hf106.know 74 (u := .bool false) rfl (congrArg Value.bool g74_2)
        refine any_val (i := 8) (v := .pointer (some ⟨b2, 2, none⟩)) hf132 rfl rfl rfl rfl rfl rfl (fun _ _ _ h => h) (by kernel_rfl) (by kernel_rfl) (by kernel_rfl) (fun wd15 hS4 => (r_indexAddr (i := 2) ar_33 rfl rfl rfl (by decide) rfl)) hS4 fun ac117 hf133 => ?_
        refine any_val (i := 9) (v := .bool h2) hf133 rfl rfl rfl rfl rfl rfl (fun _ _ _ h => h) (by kernel_rfl) (by kernel_rfl) (by kernel_rfl) (fun wd15 hS4 => (r_load ag_4 rfl (hS4.at 0 rfl) rfl)) hS4 fun ac118 hf134 => ?_
        refine any_val (i := 10) (v := .bool h2) hf134 rfl rfl rfl rfl rfl rfl (fun _ _ _ h => h) (by kernel_rfl) (by kernel_rfl) (by kernel_rfl) (fun wd15 hS4 => (r_pickF rfl rfl)) hS4 fun ac119 hf135 => ?_
        refine any_val (i := 11) (v := .bool ((h0 || h1 || h2) != h2)) hf135 rfl rfl rfl rfl rfl rfl (fun _ _ _ h => h) (by kernel_rfl) (by kernel_rfl) (by kernel_rfl) (fun wd15 hS4 => (r_neB ub_4 rfl rfl)) hS4 fun ac120 hf136 => ?_
        refine any_val (i := 12) (v := .bool ((h0 || h1 || h2) != h2)) hf136 rfl rfl rfl rfl rfl rfl (fun _ _ _ h => h) (by kernel_rfl) (by kernel_rfl) (by kernel_rfl) (fun wd15 hS4 => (r_move rfl)) hS4 fun ac121 hf137 => ?_
        have hf138 := hf137.know 79 (u := .bool false) rfl (congrArg Value.bool (by simp [g70_1, g74_2]))
        refine any_val (i := 13) (v := .int .i64 (pickN h0 h1 h2 w0 w1 w2 ⟨a_3, b_3, c_3, d_3⟩)) hf138 rfl rfl rfl rfl rfl rfl (fun _ _ _ h => h) (by kernel_rfl) (by kernel_rfl) (by kernel_rfl) (fun wd15 hS4 => (r_move rfl)) hS4 fun ac122 hf139 => ?_
        refine any_val (i := 14) (v := .int .i64 (pickN h0 h1 h2 w0 w1 w2 ⟨a_6, b_6, c_6, d_6⟩)) hf139 rfl rfl rfl rfl rfl rfl (fun _ _ _ h => h) (by kernel_rfl) (by kernel_rfl) (by kernel_rfl) (fun wd15 hS4 => (r_move rfl)) hS4 fun ac123 hf140 => ?_
        refine any_val (i := 15) (v := .bool ((pickN h0 h1 h2 w0 w1 w2 ⟨a_3, b_3, c_3, d_3⟩) != (pickN h0 h1 h2 w0 w1 w2 ⟨a_6, b_6, c_6, d_6⟩))) hf140 rfl rfl rfl rfl rfl rfl (fun _ _ _ h => h) (by kernel_rfl) (by kernel_rfl) (by kernel_rfl) (fun wd15 hS4 => (r_neq rfl rfl)) hS4 fun ac124 hf141 => ?_
        refine any_val (i := 16) (v := .bool ((pickN h0 h1 h2 w0 w1 w2 ⟨a_3, b_3, c_3, d_3⟩) != (pickN h0 h1 h2 w0 w1 w2 ⟨a_6, b_6, c_6, d_6⟩))) hf141 rfl rfl rfl rfl rfl rfl (fun _ _ _ h => h) (by kernel_rfl) (by kernel_rfl) (by kernel_rfl) (fun wd15 hS4 => (r_pickF rfl rfl)) hS4 fun ac125 hf142 => ?_
        refine any_val (i := 17) (v := .bool ((pickN h0 h1 h2 w0 w1 w2 ⟨a_3, b_3, c_3, d_3⟩) != (pickN h0 h1 h2 w0 w1 w2 ⟨a_6, b_6, c_6, d_6⟩))) hf142 rfl rfl rfl rfl rfl rfl (fun _ _ _ h => h) (by kernel_rfl) (by kernel_rfl) (by kernel_rfl) (fun wd15 hS4 => (r_move rfl)) hS4 fun ac126 hf143 => ?_
        have hf144 := hf143.know 84 (u := .bool false) rfl (congrArg Value.bool (by rw [← he6, pickN_twice hd.v ho3]; exact bne_self_eq_false _))
        refine any_val (i := 18) (v := .bool (h0 || h1 || h2)) hf144 rfl rfl rfl rfl rfl rfl (fun _ _ _ h => h) (by kernel_rfl) (by kernel_rfl) (by kernel_rfl) (fun wd15 hS4 => (r_move rfl)) hS4 fun ac127 hf145 => ?_
        refine any_val (i := 19) (v := .bool (h0 || h1 || h2)) hf145 rfl rfl rfl rfl rfl rfl (fun _ _ _ h => h) (by kernel_rfl) (by kernel_rfl) (by kernel_rfl) (fun wd15 hS4 => (r_move rfl)) hS4 fun ac128 hf146 => ?_
        refine any_val (i := 20) (v := .bool ((h0 || h1 || h2) != (h0 || h1 || h2))) hf146 rfl rfl rfl rfl rfl rfl (fun _ _ _ h => h) (by kernel_rfl) (by kernel_rfl) (by kernel_rfl) (fun wd15 hS4 => (r_neB ub_4 rfl rfl)) hS4 fun ac129 hf147 => ?_
        refine any_val (i := 21) (v := .bool ((h0 || h1 || h2) != (h0 || h1 || h2))) hf147 rfl rfl rfl rfl rfl rfl (fun _ _ _ h => h) (by kernel_rfl) (by kernel_rfl) (by kernel_rfl) (fun wd15 hS4 => (r_pickF rfl rfl)) hS4 fun ac130 hf148 => ?_
        refine any_val (i := 22) (v := .bool ((h0 || h1 || h2) != (h0 || h1 || h2))) hf148 rfl rfl rfl rfl rfl rfl (fun _ _ _ h => h) (by kernel_rfl) (by kernel_rfl) (by kernel_rfl) (fun wd15 hS4 => (r_move rfl)) hS4 fun ac131 hf149 => ?_
        have hf150 := hf149.know 89 (u := .bool false) rfl (congrArg Value.bool (bne_self_eq_false _))
        refine any_val (i := 23) (v := .pointer (some ⟨b3, 0, none⟩)) hf150 rfl rfl rfl rfl rfl rfl (fun _ _ _ h => h) (by kernel_rfl) (by kernel_rfl) (by kernel_rfl) (fun wd15 hS4 => (r_move rfl)) hS4 fun ac132 hf151 => ?_
        refine any_val (i := 25) (v := .agg #[.int .i64 a_6, .int .i64 b_6, .int .i64 c_6]) hf151 rfl rfl rfl rfl rfl rfl (fun _ _ _ h => h) (by kernel_rfl) (by kernel_rfl) (by kernel_rfl) (fun wd15 hS4 => (r_loadW ag_22 sz_22 rfl (hS4.at 1 rfl) rfl)) hS4 fun ac133 hf152 => ?_
        refine any_one (i := 24) (by kernel_rfl) ?_
        refine (op_pureW hf152 rfl rfl rfl rfl ca_17 (credits_walk w0 w1 w2 a_6 b_6 c_6 d_6 hd.v.ne b3 _ (Has.cons (hI24.at 2 rfl) Has.nil)) hI24 fun ac134 wd18 hI27 hf153 => ⟨?_, ?_⟩)
        · exact (Has.cons (hI27.at 1 rfl) (Has.cons (hI27.at 4 rfl) Has.nil))
        have hS7 : Has [(b2, #[.bool h0, .bool h1, .bool h2], 33), (b7, #[.int .i64 a_6, .int .i64 b_6, .int .i64 c_6], 22)] _ := (Has.cons (hI27.at 1 rfl) (Has.cons (hI27.at 4 rfl) Has.nil))
        refine any_val (i := 26) (v := .bool (!eqA (#[.int .i64 a_6, .int .i64 b_6, .int .i64 c_6]) (#[.int .i64 a_6, .int .i64 b_6, .int .i64 c_6]))) hf153 rfl rfl rfl rfl rfl rfl (fun _ _ _ h => h) (by kernel_rfl) (by kernel_rfl) (by kernel_rfl) (fun wd18 hS7 => (r_neA sh_22 kt_22 rw_22 rfl zk_22 eg_22 rfl rfl ⟨⟨_, rfl, (okwf0 hd.v ho6)⟩, ⟨_, rfl, (okwf1 hd.v ho6)⟩, ⟨_, rfl, (okwf2 hd.v ho6)⟩, trivial⟩ ⟨⟨_, rfl, (okwf0 hd.v ho6)⟩, ⟨_, rfl, (okwf1 hd.v ho6)⟩, ⟨_, rfl, (okwf2 hd.v ho6)⟩, trivial⟩)) hS7 fun ac135 hf154 => ?_
        refine any_val (i := 27) (v := .bool (!eqA (#[.int .i64 a_6, .int .i64 b_6, .int .i64 c_6]) (#[.int .i64 a_6, .int .i64 b_6, .int .i64 c_6]))) hf154 rfl rfl rfl rfl rfl rfl (fun _ _ _ h => h) (by kernel_rfl) (by kernel_rfl) (by kernel_rfl) (fun wd18 hS7 => (r_pickF rfl rfl)) hS7 fun ac136 hf155 => ?_
        refine any_end (by kernel_rfl) ?_
        clear hI23 ac64 hf68 ac65 hf69 ac66 hf70 ac67 hf71 hf72 ac68 hf102 ac93 hf103 ac94 hf104 ac95 hf105 hf106 ac96 hf132 ac117 hf133 ac118 hf134 ac119 hf135 ac120 hf136 hf137 ac121 hf138 ac122 hf139 ac123 hf140 ac124 hf141 ac125 hf142 hf143 ac126 hf144 ac127 hf145 ac128 hf146 ac129 hf147 ac130 hf148 hf149 ac131 hf150 ac132 hf151 ac133 wd15 hI24 hf152 hS4 ac134 hf153 ac135 hf154 hS7
        refine then_normal ?_
        have hf156 := hf155.know 94 (u := .bool false) rfl (congrArg Value.bool (by rw [eqA_true rfl]; rfl))
        clear hf155
        exact ⟨(hf156.cons 0 rfl (hf156.cons 1 rfl (hf156.cons 2 rfl (hf156.cons 3 rfl (hf156.cons 5 rfl (hf156.cons 6 rfl (hf156.cons 7 rfl (hf156.cons 8 rfl (hf156.cons 9 rfl (hf156.cons 10 rfl (hf156.cons 11 rfl (hf156.cons 12 rfl (hf156.cons 13 rfl (hf156.cons 14 rfl (hf156.cons 15 rfl (hf156.cons 16 rfl (hf156.cons 17 rfl (hf156.cons 18 rfl (hf156.cons 19 rfl (hf156.cons 20 rfl (hf156.cons 21 rfl (hf156.cons 22 rfl (hf156.cons 23 rfl (hf156.cons 24 rfl (hf156.cons 25 rfl (hf156.cons 26 rfl (hf156.cons 27 rfl (hf156.cons 28 rfl (hf156.cons 29 rfl (hf156.cons 30 rfl (hf156.cons 31 rfl (hf156.cons 32 rfl (hf156.cons 33 rfl (hf156.cons 34 rfl (hf156.cons 35 rfl (hf156.cons 36 rfl (hf156.cons 37 rfl (hf156.cons 38 rfl (hf156.cons 39 rfl (hf156.cons 40 rfl (hf156.cons 41 rfl (hf156.cons 42 rfl (hf156.cons 43 rfl (hf156.cons 44 rfl (hf156.cons 45 rfl (hf156.cons 46 rfl (hf156.cons 47 rfl (hf156.cons 48 rfl (hf156.cons 49 rfl (hf156.cons 50 rfl (hf156.cons 51 rfl (hf156.cons 52 rfl (hf156.cons 53 rfl (hf156.cons 54 rfl (hf156.cons 55 rfl (hf156.cons 56 rfl (hf156.cons 57 rfl (hf156.cons 58 rfl (hf156.cons 59 rfl (hf156.cons 60 rfl (hf156.cons 61 rfl (hf156.cons 62 rfl (hf156.cons 63 rfl (hf156.cons 64 rfl (hf156.cons 65 rfl (hf156.cons 66 rfl (hf156.cons 94 rfl hf156.nil))))))))))))))))))))))))))))))))))))))))))))))))))))))))))))))))))), hI27⟩
  ·
    intro ac137 wd19 hf157 hI28
    clear ac64 wd15 hf68 hI23
    refine then_normal ?_
    refine code_if_false hf157 rfl ?_
    refine wp_skip ?_
    refine then_normal ?_
    refine code_seq ?_
    refine code_seq ?_
    refine code_join 136 ([(0, .agg #[.int .u32 x0, .int .u32 x1, .int .u32 x2]), (1, .slice p L cap), (2, .agg #[.bool h0, .bool h1, .bool h2]), (3, .pointer (some ⟨b1, 0, none⟩)), (5, .pointer (some ⟨b2, 0, none⟩)), (6, .bool false), (7, .pointer (some ⟨b3, 0, none⟩)), (8, .bool true), (9, .pointer (some ⟨b4, 0, none⟩)), (10, .int .i64 d_3), (11, .int .i64 (pickN false false false w0 w1 w2 ⟨a_3, b_3, c_3, d_3⟩)), (12, .bool (false || false || false)), (13, .int .i64 (pickN h0 h1 h2 w0 w1 w2 ⟨a_3, b_3, c_3, d_3⟩)), (14, .bool (h0 || h1 || h2)), (15, .pointer (some ⟨b7, 0, none⟩)), (16, .int .i64 (pickN h0 h1 h2 w0 w1 w2 ⟨a_6, b_6, c_6, d_6⟩)), (17, .bool (h0 || h1 || h2)), (18, .tuple #[.pointer (some ⟨b3, 0, none⟩), .bool true]), (19, .agg #[.int .u32 x0, .int .u32 x1, .int .u32 x2]), (20, .slice p L cap), (21, .tuple #[.pointer (some ⟨b3, 0, none⟩), .bool true]), (22, .pointer (some ⟨b3, 0, none⟩)), (23, .bool true), (24, .bool true), (25, .bool false), (26, .pointer (some ⟨b3, 0, none⟩)), (27, .agg #[.int .i64 a_3, .int .i64 b_3, .int .i64 c_3]), (28, .pointer (some ⟨b3, 0, none⟩)), (29, .int .i64 d_3), (30, .tuple #[.int .i64 (pickN false false false w0 w1 w2 ⟨a_3, b_3, c_3, d_3⟩), .bool (false || false || false)]), (31, .pointer (some ⟨b3, 0, none⟩)), (32, .agg #[.bool false, .bool false, .bool false]), (33, .tuple #[.int .i64 (pickN false false false w0 w1 w2 ⟨a_3, b_3, c_3, d_3⟩), .bool (false || false || false)]), (34, .int .i64 (pickN false false false w0 w1 w2 ⟨a_3, b_3, c_3, d_3⟩)), (35, .bool (false || false || false)), (36, .int .i64 (pickN false false false w0 w1 w2 ⟨a_3, b_3, c_3, d_3⟩)), (37, .bool ((pickN false false false w0 w1 w2 ⟨a_3, b_3, c_3, d_3⟩) != 0)), (38, .bool false), (39, .bool (false || false || false)), (40, .bool (false || false || false)), (41, .bool false), (42, .pointer (some ⟨b3, 0, none⟩)), (43, .agg #[.int .i64 a_3, .int .i64 b_3, .int .i64 c_3]), (44, .agg #[.int .i64 a_3, .int .i64 b_3, .int .i64 c_3]), (45, .bool (!eqA (#[.int .i64 a_3, .int .i64 b_3, .int .i64 c_3]) (#[.int .i64 a_3, .int .i64 b_3, .int .i64 c_3]))), (46, .bool (!eqA (#[.int .i64 a_3, .int .i64 b_3, .int .i64 c_3]) (#[.int .i64 a_3, .int .i64 b_3, .int .i64 c_3]))), (47, .bool false), (48, .pointer (some ⟨b3, 0, none⟩)), (49, .int .i64 d_3), (50, .int .i64 d_3), (51, .bool (d_3 != d_3)), (52, .bool false), (53, .tuple #[.int .i64 (pickN h0 h1 h2 w0 w1 w2 ⟨a_3, b_3, c_3, d_3⟩), .bool (h0 || h1 || h2)]), (54, .pointer (some ⟨b3, 0, none⟩)), (55, .agg #[.bool h0, .bool h1, .bool h2]), (56, .tuple #[.int .i64 (pickN h0 h1 h2 w0 w1 w2 ⟨a_3, b_3, c_3, d_3⟩), .bool (h0 || h1 || h2)]), (57, .int .i64 (pickN h0 h1 h2 w0 w1 w2 ⟨a_3, b_3, c_3, d_3⟩)), (58, .bool (h0 || h1 || h2)), (59, .pointer (some ⟨b3, 0, none⟩)), (60, .agg #[.int .i64 a_6, .int .i64 b_6, .int .i64 c_6]), (61, .tuple #[.int .i64 (pickN h0 h1 h2 w0 w1 w2 ⟨a_6, b_6, c_6, d_6⟩), .bool (h0 || h1 || h2)]), (62, .pointer (some ⟨b3, 0, none⟩)), (63, .agg #[.bool h0, .bool h1, .bool h2]), (64, .tuple #[.int .i64 (pickN h0 h1 h2 w0 w1 w2 ⟨a_6, b_6, c_6, d_6⟩), .bool (h0 || h1 || h2)]), (65, .int .i64 (pickN h0 h1 h2 w0 w1 w2 ⟨a_6, b_6, c_6, d_6⟩)), (66, .bool (h0 || h1 || h2)), (94, .bool false), (113, .bool false)]) (fun w' => Inv w [(b1, #[.int .u32 x0, .int .u32 x1, .int .u32 x2], 47), (b2, #[.bool h0, .bool h1, .bool h2], 33), (b3, #[.int .i64 w0, .int .i64 w1, .int .i64 w2, .int .i64 a_6, .int .i64 b_6, .int .i64 c_6, .int .i64 d_6], 58), (b4, #[.int .i64 a_3, .int .i64 b_3, .int .i64 c_3], 22), (b7, #[.int .i64 a_6, .int .i64 b_6, .int .i64 c_6], 22)] w') ?_ ?_
    ·
      refine seq_start (l := [0, 1, 2, 3, 4, 5, 6, 7, 8, 9, 10, 11, 12, 13, 14, 15, 16, 17, 18]) rfl ?_
      refine seq_one (op_val (v := .int .i64 d_3) hf157 rfl rfl rfl rfl rfl rfl (r_move rfl) fun ac138 hf158 => ?_)
      refine seq_one (op_val (v := .pointer (some ⟨b2, 0 + d_3.toNat, none⟩)) hf158 rfl rfl rfl rfl rfl rfl (r_indexAddr (i := d_3.toNat) ar_33 rfl rfl (idx3 (show d_3 = 0 ∨ d_3 = 1 ∨ d_3 = 2 from ho3.n)).1 (idx3 (show d_3 = 0 ∨ d_3 = 1 ∨ d_3 = 2 from ho3.n)).2 (by rw [Nat.mul_one])) fun ac139 hf159 => ?_)
      refine seq_one (op_val (v := .bool (hasN h0 h1 h2 d_3)) hf159 rfl rfl rfl rfl rfl rfl (r_load ag_4 rfl (hI28.at 1 rfl) (by rcases (show d_3 = 0 ∨ d_3 = 1 ∨ d_3 = 2 from ho3.n) with h | h | h <;> rw [h] <;> rfl)) fun ac140 hf160 => ?_)
      refine seq_one (op_val (v := .bool (hasN h0 h1 h2 d_3)) hf160 rfl rfl rfl rfl rfl rfl (r_move rfl) fun ac141 hf161 => ?_)
      rcases Bool.eq_false_or_eq_true (hasN h0 h1 h2 d_3 : Bool) with g98_3 | g98_3
      · have hf162 := hf161.know 98 (u := .bool true) rfl (congrArg Value.bool g98_3)
        refine seq_one (op_val (v := .int .i64 d_3) hf162 rfl rfl rfl rfl rfl rfl (r_move rfl) fun ac142 hf163 => ?_)
        refine seq_one (op_val (v := .pointer (some ⟨b4, 0 + d_3.toNat, none⟩)) hf163 rfl rfl rfl rfl rfl rfl (r_indexAddr (i := d_3.toNat) ar_22 rfl rfl (idx3 (show d_3 = 0 ∨ d_3 = 1 ∨ d_3 = 2 from ho3.n)).1 (idx3 (show d_3 = 0 ∨ d_3 = 1 ∨ d_3 = 2 from ho3.n)).2 (by rw [Nat.mul_one])) fun ac143 hf164 => ?_)
        refine seq_one (op_val (v := .int .i64 (sel3 d_3 a_3 b_3 c_3)) hf164 rfl rfl rfl rfl rfl rfl (r_load ag_3 rfl (hI28.at 3 rfl) (by rcases (show d_3 = 0 ∨ d_3 = 1 ∨ d_3 = 2 from ho3.n) with h | h | h <;> rw [h] <;> rfl)) fun ac144 hf165 => ?_)
        refine seq_one (op_val (v := .bool (decide ((sel3 d_3 a_3 b_3 c_3) > 0))) hf165 rfl rfl rfl rfl rfl rfl (r_gtr rfl rfl) fun ac145 hf166 => ?_)
        refine seq_one (op_val (v := .bool (decide ((sel3 d_3 a_3 b_3 c_3) > 0))) hf166 rfl rfl rfl rfl rfl rfl (r_pickT rfl rfl) fun ac146 hf167 => ?_)
        refine seq_one (op_val (v := .bool (decide ((sel3 d_3 a_3 b_3 c_3) > 0))) hf167 rfl rfl rfl rfl rfl rfl (r_move rfl) fun ac147 hf168 => ?_)
        rcases Bool.eq_false_or_eq_true (decide ((sel3 d_3 a_3 b_3 c_3) > 0) : Bool) with g104_4 | g104_4
        · have hf169 := hf168.know 104 (u := .bool true) rfl (congrArg Value.bool g104_4)
          refine seq_one (op_val (v := .int .i64 (pickN h0 h1 h2 w0 w1 w2 ⟨a_3, b_3, c_3, d_3⟩)) hf169 rfl rfl rfl rfl rfl rfl (r_move rfl) fun ac148 hf170 => ?_)
          refine seq_one (op_val (v := .int .i64 d_3) hf170 rfl rfl rfl rfl rfl rfl (r_move rfl) fun ac149 hf171 => ?_)
          refine seq_one (op_val (v := .bool ((pickN h0 h1 h2 w0 w1 w2 ⟨a_3, b_3, c_3, d_3⟩) != d_3)) hf171 rfl rfl rfl rfl rfl rfl (r_neq rfl rfl) fun ac150 hf172 => ?_)
          refine seq_one (op_val (v := .bool ((pickN h0 h1 h2 w0 w1 w2 ⟨a_3, b_3, c_3, d_3⟩) != d_3)) hf172 rfl rfl rfl rfl rfl rfl (r_move rfl) fun ac151 hf173 => ?_)
          have hf174 := hf173.know 108 (u := .bool false) rfl (congrArg Value.bool (by rw [(again_now (w0 := w0) (w1 := w1) (w2 := w2) g98_3 g104_4).2]; exact bne_self_eq_false _))
          refine seq_one (op_val (v := .agg #[.int .i64 a_6, .int .i64 b_6, .int .i64 c_6]) hf174 rfl rfl rfl rfl rfl rfl (r_loadW ag_22 sz_22 rfl (hI28.at 4 rfl) rfl) fun ac152 hf175 => ?_)
          refine seq_one (op_val (v := .agg #[.int .i64 a_3, .int .i64 b_3, .int .i64 c_3]) hf175 rfl rfl rfl rfl rfl rfl (r_loadW ag_22 sz_22 rfl (hI28.at 3 rfl) rfl) fun ac153 hf176 => ?_)
          refine seq_one (op_val (v := .bool (!eqA (#[.int .i64 a_6, .int .i64 b_6, .int .i64 c_6]) (#[.int .i64 a_3, .int .i64 b_3, .int .i64 c_3]))) hf176 rfl rfl rfl rfl rfl rfl (r_neA sh_22 kt_22 rw_22 rfl zk_22 eg_22 rfl rfl ⟨⟨_, rfl, (okwf0 hd.v ho6)⟩, ⟨_, rfl, (okwf1 hd.v ho6)⟩, ⟨_, rfl, (okwf2 hd.v ho6)⟩, trivial⟩ ⟨⟨_, rfl, (okwf0 hd.v ho3)⟩, ⟨_, rfl, (okwf1 hd.v ho3)⟩, ⟨_, rfl, (okwf2 hd.v ho3)⟩, trivial⟩) fun ac154 hf177 => ?_)
          refine seq_one (op_val (v := .bool (!eqA (#[.int .i64 a_6, .int .i64 b_6, .int .i64 c_6]) (#[.int .i64 a_3, .int .i64 b_3, .int .i64 c_3]))) hf177 rfl rfl rfl rfl rfl rfl (r_pickF rfl rfl) fun ac155 hf178 => ?_)
          refine seq_one (op_val (v := .bool (!eqA (#[.int .i64 a_6, .int .i64 b_6, .int .i64 c_6]) (#[.int .i64 a_3, .int .i64 b_3, .int .i64 c_3]))) hf178 rfl rfl rfl rfl rfl rfl (r_pickT rfl rfl) fun ac156 hf179 => ?_)
          refine seq_end ?_
          clear ac137 hf157 ac138 hf158 ac139 hf159 ac140 hf160 hf161 ac141 hf162 ac142 hf163 ac143 hf164 ac144 hf165 ac145 hf166 ac146 hf167 hf168 ac147 hf169 ac148 hf170 ac149 hf171 ac150 hf172 hf173 ac151 hf174 ac152 hf175 ac153 hf176 ac154 hf177 ac155 hf178
          refine then_normal ?_
          have hf180 := hf179.know 113 (u := .bool false) rfl (congrArg Value.bool (by have e := he6.symm.trans (again_now (w0 := w0) (w1 := w1) (w2 := w2) g98_3 g104_4).1; simp only [St.mk.injEq] at e; rw [e.1, e.2.1, e.2.2.1, eqA_true rfl]; rfl))
          clear hf179
          exact ⟨(hf180.cons 0 rfl (hf180.cons 1 rfl (hf180.cons 2 rfl (hf180.cons 3 rfl (hf180.cons 5 rfl (hf180.cons 6 rfl (hf180.cons 7 rfl (hf180.cons 8 rfl (hf180.cons 9 rfl (hf180.cons 10 rfl (hf180.cons 11 rfl (hf180.cons 12 rfl (hf180.cons 13 rfl (hf180.cons 14 rfl (hf180.cons 15 rfl (hf180.cons 16 rfl (hf180.cons 17 rfl (hf180.cons 18 rfl (hf180.cons 19 rfl (hf180.cons 20 rfl (hf180.cons 21 rfl (hf180.cons 22 rfl (hf180.cons 23 rfl (hf180.cons 24 rfl (hf180.cons 25 rfl (hf180.cons 26 rfl (hf180.cons 27 rfl (hf180.cons 28 rfl (hf180.cons 29 rfl (hf180.cons 30 rfl (hf180.cons 31 rfl (hf180.cons 32 rfl (hf180.cons 33 rfl (hf180.cons 34 rfl (hf180.cons 35 rfl (hf180.cons 36 rfl (hf180.cons 37 rfl (hf180.cons 38 rfl (hf180.cons 39 rfl (hf180.cons 40 rfl (hf180.cons 41 rfl (hf180.cons 42 rfl (hf180.cons 43 rfl (hf180.cons 44 rfl (hf180.cons 45 rfl (hf180.cons 46 rfl (hf180.cons 47 rfl (hf180.cons 48 rfl (hf180.cons 49 rfl (hf180.cons 50 rfl (hf180.cons 51 rfl (hf180.cons 52 rfl (hf180.cons 53 rfl (hf180.cons 54 rfl (hf180.cons 55 rfl (hf180.cons 56 rfl (hf180.cons 57 rfl (hf180.cons 58 rfl (hf180.cons 59 rfl (hf180.cons 60 rfl (hf180.cons 61 rfl (hf180.cons 62 rfl (hf180.cons 63 rfl (hf180.cons 64 rfl (hf180.cons 65 rfl (hf180.cons 66 rfl (hf180.cons 94 rfl (hf180.cons 113 rfl hf180.nil)))))))))))))))))))))))))))))))))))))))))))))))))))))))))))))))))))), hI28⟩
        · have hf181 := hf168.know 104 (u := .bool false) rfl (congrArg Value.bool g104_4)
          refine seq_one (op_skip hf181 rfl rfl rfl rfl fun ac157 hf182 => ?_)
          refine seq_one (op_skip hf182 rfl rfl rfl rfl fun ac158 hf183 => ?_)
          refine seq_one (op_skip hf183 rfl rfl rfl rfl fun ac159 hf184 => ?_)
          refine seq_one (op_skip hf184 rfl rfl rfl rfl fun ac160 hf185 => ?_)
          refine seq_one (op_skip hf185 rfl rfl rfl rfl fun ac161 hf186 => ?_)
          refine seq_one (op_skip hf186 rfl rfl rfl rfl fun ac162 hf187 => ?_)
          refine seq_one (op_skip hf187 rfl rfl rfl rfl fun ac163 hf188 => ?_)
          refine seq_one (op_skip hf188 rfl rfl rfl rfl fun ac164 hf189 => ?_)
          refine seq_one (op_val (v := .bool false) hf189 rfl rfl rfl rfl rfl rfl (r_pickF rfl rfl) fun ac165 hf190 => ?_)
          refine seq_end ?_
          clear ac137 hf157 ac138 hf158 ac139 hf159 ac140 hf160 hf161 ac141 hf162 ac142 hf163 ac143 hf164 ac144 hf165 ac145 hf166 ac146 hf167 hf168 ac147 hf181 ac157 hf182 ac158 hf183 ac159 hf184 ac160 hf185 ac161 hf186 ac162 hf187 ac163 hf188 ac164 hf189
          refine then_normal ?_
          exact ⟨(hf190.cons 0 rfl (hf190.cons 1 rfl (hf190.cons 2 rfl (hf190.cons 3 rfl (hf190.cons 5 rfl (hf190.cons 6 rfl (hf190.cons 7 rfl (hf190.cons 8 rfl (hf190.cons 9 rfl (hf190.cons 10 rfl (hf190.cons 11 rfl (hf190.cons 12 rfl (hf190.cons 13 rfl (hf190.cons 14 rfl (hf190.cons 15 rfl (hf190.cons 16 rfl (hf190.cons 17 rfl (hf190.cons 18 rfl (hf190.cons 19 rfl (hf190.cons 20 rfl (hf190.cons 21 rfl (hf190.cons 22 rfl (hf190.cons 23 rfl (hf190.cons 24 rfl (hf190.cons 25 rfl (hf190.cons 26 rfl (hf190.cons 27 rfl (hf190.cons 28 rfl (hf190.cons 29 rfl (hf190.cons 30 rfl (hf190.cons 31 rfl (hf190.cons 32 rfl (hf190.cons 33 rfl (hf190.cons 34 rfl (hf190.cons 35 rfl (hf190.cons 36 rfl (hf190.cons 37 rfl (hf190.cons 38 rfl (hf190.cons 39 rfl (hf190.cons 40 rfl (hf190.cons 41 rfl (hf190.cons 42 rfl (hf190.cons 43 rfl (hf190.cons 44 rfl (hf190.cons 45 rfl (hf190.cons 46 rfl (hf190.cons 47 rfl (hf190.cons 48 rfl (hf190.cons 49 rfl (hf190.cons 50 rfl (hf190.cons 51 rfl (hf190.cons 52 rfl (hf190.cons 53 rfl (hf190.cons 54 rfl (hf190.cons 55 rfl (hf190.cons 56 rfl (hf190.cons 57 rfl (hf190.cons 58 rfl (hf190.cons 59 rfl (hf190.cons 60 rfl (hf190.cons 61 rfl (hf190.cons 62 rfl (hf190.cons 63 rfl (hf190.cons 64 rfl (hf190.cons 65 rfl (hf190.cons 66 rfl (hf190.cons 94 rfl (hf190.cons 113 rfl hf190.nil)))))))))))))))))))))))))))))))))))))))))))))))))))))))))))))))))))), hI28⟩
      · have hf191 := hf161.know 98 (u := .bool false) rfl (congrArg Value.bool g98_3)
        refine seq_one (op_skip hf191 rfl rfl rfl rfl fun ac166 hf192 => ?_)
        refine seq_one (op_skip hf192 rfl rfl rfl rfl fun ac167 hf193 => ?_)
        refine seq_one (op_skip hf193 rfl rfl rfl rfl fun ac168 hf194 => ?_)
        refine seq_one (op_skip hf194 rfl rfl rfl rfl fun ac169 hf195 => ?_)
        refine seq_one (op_val (v := .bool false) hf195 rfl rfl rfl rfl rfl rfl (r_pickF rfl rfl) fun ac170 hf196 => ?_)
        refine seq_one (op_val (v := .bool false) hf196 rfl rfl rfl rfl rfl rfl (r_move rfl) fun ac171 hf197 => ?_)
        refine seq_one (op_skip hf197 rfl rfl rfl rfl fun ac172 hf198 => ?_)
        refine seq_one (op_skip hf198 rfl rfl rfl rfl fun ac173 hf199 => ?_)
        refine seq_one (op_skip hf199 rfl rfl rfl rfl fun ac174 hf200 => ?_)
        refine seq_one (op_skip hf200 rfl rfl rfl rfl fun ac175 hf201 => ?_)
        refine seq_one (op_skip hf201 rfl rfl rfl rfl fun ac176 hf202 => ?_)
        refine seq_one (op_skip hf202 rfl rfl rfl rfl fun ac177 hf203 => ?_)
        refine seq_one (op_skip hf203 rfl rfl rfl rfl fun ac178 hf204 => ?_)
        refine seq_one (op_skip hf204 rfl rfl rfl rfl fun ac179 hf205 => ?_)
        refine seq_one (op_val (v := .bool false) hf205 rfl rfl rfl rfl rfl rfl (r_pickF rfl rfl) fun ac180 hf206 => ?_)
        refine seq_end ?_
        clear ac137 hf157 ac138 hf158 ac139 hf159 ac140 hf160 hf161 ac141 hf191 ac166 hf192 ac167 hf193 ac168 hf194 ac169 hf195 ac170 hf196 ac171 hf197 ac172 hf198 ac173 hf199 ac174 hf200 ac175 hf201 ac176 hf202 ac177 hf203 ac178 hf204 ac179 hf205
        refine then_normal ?_
        exact ⟨(hf206.cons 0 rfl (hf206.cons 1 rfl (hf206.cons 2 rfl (hf206.cons 3 rfl (hf206.cons 5 rfl (hf206.cons 6 rfl (hf206.cons 7 rfl (hf206.cons 8 rfl (hf206.cons 9 rfl (hf206.cons 10 rfl (hf206.cons 11 rfl (hf206.cons 12 rfl (hf206.cons 13 rfl (hf206.cons 14 rfl (hf206.cons 15 rfl (hf206.cons 16 rfl (hf206.cons 17 rfl (hf206.cons 18 rfl (hf206.cons 19 rfl (hf206.cons 20 rfl (hf206.cons 21 rfl (hf206.cons 22 rfl (hf206.cons 23 rfl (hf206.cons 24 rfl (hf206.cons 25 rfl (hf206.cons 26 rfl (hf206.cons 27 rfl (hf206.cons 28 rfl (hf206.cons 29 rfl (hf206.cons 30 rfl (hf206.cons 31 rfl (hf206.cons 32 rfl (hf206.cons 33 rfl (hf206.cons 34 rfl (hf206.cons 35 rfl (hf206.cons 36 rfl (hf206.cons 37 rfl (hf206.cons 38 rfl (hf206.cons 39 rfl (hf206.cons 40 rfl (hf206.cons 41 rfl (hf206.cons 42 rfl (hf206.cons 43 rfl (hf206.cons 44 rfl (hf206.cons 45 rfl (hf206.cons 46 rfl (hf206.cons 47 rfl (hf206.cons 48 rfl (hf206.cons 49 rfl (hf206.cons 50 rfl (hf206.cons 51 rfl (hf206.cons 52 rfl (hf206.cons 53 rfl (hf206.cons 54 rfl (hf206.cons 55 rfl (hf206.cons 56 rfl (hf206.cons 57 rfl (hf206.cons 58 rfl (hf206.cons 59 rfl (hf206.cons 60 rfl (hf206.cons 61 rfl (hf206.cons 62 rfl (hf206.cons 63 rfl (hf206.cons 64 rfl (hf206.cons 65 rfl (hf206.cons 66 rfl (hf206.cons 94 rfl (hf206.cons 113 rfl hf206.nil)))))))))))))))))))))))))))))))))))))))))))))))))))))))))))))))))))), hI28⟩
    ·
      intro ac181 wd20 hf207 hI29
      clear ac137 wd19 hf157 hI28
      refine then_normal ?_
      refine code_if_false hf207 rfl ?_
      refine wp_skip ?_
      refine then_normal ?_
      refine code_seq ?_
      refine seq_start (l := [0, 1, 2, 3, 4, 5, 6, 7, 8, 9, 10, 11, 12, 13, 14, 15, 16, 17, 18, 19, 20, 21, 22]) rfl ?_
      refine seq_one (op_val (v := .bool (h0 || h1 || h2)) hf207 rfl rfl rfl rfl rfl rfl (r_move rfl) fun ac182 hf208 => ?_)
      refine seq_one (op_val (v := .bool (!(h0 || h1 || h2))) hf208 rfl rfl rfl rfl rfl rfl (r_not rfl) fun ac183 hf209 => ?_)
      refine seq_one (op_val (v := .bool (!(h0 || h1 || h2))) hf209 rfl rfl rfl rfl rfl rfl (r_move rfl) fun ac184 hf210 => ?_)
      rcases Bool.eq_false_or_eq_true (!(h0 || h1 || h2) : Bool) with g116_5 | g116_5
      · have hf211 := hf210.know 116 (u := .bool true) rfl (congrArg Value.bool g116_5)
        refine seq_one (op_skip hf211 rfl rfl rfl rfl fun ac185 hf212 => ?_)
        refine seq_one (op_skip hf212 rfl rfl rfl rfl fun ac186 hf213 => ?_)
        refine seq_one (op_skip hf213 rfl rfl rfl rfl fun ac187 hf214 => ?_)
        refine seq_one (op_skip hf214 rfl rfl rfl rfl fun ac188 hf215 => ?_)
        refine seq_one (op_skip hf215 rfl rfl rfl rfl fun ac189 hf216 => ?_)
        refine seq_one (op_skip hf216 rfl rfl rfl rfl fun ac190 hf217 => ?_)
        refine seq_one (op_skip hf217 rfl rfl rfl rfl fun ac191 hf218 => ?_)
        refine seq_one (op_skip hf218 rfl rfl rfl rfl fun ac192 hf219 => ?_)
        refine seq_one (op_skip hf219 rfl rfl rfl rfl fun ac193 hf220 => ?_)
        refine seq_one (op_skip hf220 rfl rfl rfl rfl fun ac194 hf221 => ?_)
        refine seq_one (op_skip hf221 rfl rfl rfl rfl fun ac195 hf222 => ?_)
        refine seq_one (op_skip hf222 rfl rfl rfl rfl fun ac196 hf223 => ?_)
        refine seq_one (op_skip hf223 rfl rfl rfl rfl fun ac197 hf224 => ?_)
        refine seq_one (op_skip hf224 rfl rfl rfl rfl fun ac198 hf225 => ?_)
        refine seq_one (op_skip hf225 rfl rfl rfl rfl fun ac199 hf226 => ?_)
        refine seq_one (op_val (v := .bool true) hf226 rfl rfl rfl rfl rfl rfl (r_pickT rfl rfl) fun ac200 hf227 => ?_)
        refine seq_one (op_val (v := .bool true) hf227 rfl rfl rfl rfl rfl rfl (r_move rfl) fun ac201 hf228 => ?_)
        refine seq_one (op_pure hf228 rfl rfl rfl rfl ca_11 awake_pur hI29 fun ac202 wd21 hI30 hf229 => ?_)
        refine seq_one (op_val (v := .bool true) hf229 rfl rfl rfl rfl rfl rfl (r_pickT rfl rfl) fun ac203 hf230 => ?_)
        refine seq_one (op_val (v := .bool true) hf230 rfl rfl rfl rfl rfl rfl (r_assign rfl) fun ac204 hf231 => ?_)
        refine seq_end ?_
        clear ac181 hf207 ac182 hf208 ac183 hf209 hf210 ac184 hf211 ac185 hf212 ac186 hf213 ac187 hf214 ac188 hf215 ac189 hf216 ac190 hf217 ac191 hf218 ac192 hf219 ac193 hf220 ac194 hf221 ac195 hf222 ac196 hf223 ac197 hf224 ac198 hf225 ac199 hf226 ac200 hf227 ac201 wd20 hI29 hf228 ac202 hf229 ac203 hf230
        refine then_normal ?_
        refine wp_ret ?_
        refine post1 rfl hf231 rfl ⟨?_, hI30.done (fresh_keys (ks := [b1, b2, b3, b4, b7]) rfl (fk_cons hb1 (fk_cons hb2 (fk_cons hb3 (fk_cons hb4 (fk_cons hb7 fk_nil))))))⟩
        rfl
      · have hf232 := hf210.know 116 (u := .bool false) rfl (congrArg Value.bool g116_5)
        refine seq_one (op_val (v := .int .i64 (pickN h0 h1 h2 w0 w1 w2 ⟨a_3, b_3, c_3, d_3⟩)) hf232 rfl rfl rfl rfl rfl rfl (r_move rfl) fun ac205 hf233 => ?_)
        refine seq_one (op_val (v := .pointer (some ⟨b2, 0 + (pickN h0 h1 h2 w0 w1 w2 ⟨a_3, b_3, c_3, d_3⟩).toNat, none⟩)) hf233 rfl rfl rfl rfl rfl rfl (r_indexAddr (i := (pickN h0 h1 h2 w0 w1 w2 ⟨a_3, b_3, c_3, d_3⟩).toNat) ar_33 rfl rfl (idx3 (show pickN h0 h1 h2 w0 w1 w2 ⟨a_3, b_3, c_3, d_3⟩ = 0 ∨ pickN h0 h1 h2 w0 w1 w2 ⟨a_3, b_3, c_3, d_3⟩ = 1 ∨ pickN h0 h1 h2 w0 w1 w2 ⟨a_3, b_3, c_3, d_3⟩ = 2 from pickN_3 hd.v ho3)).1 (idx3 (show pickN h0 h1 h2 w0 w1 w2 ⟨a_3, b_3, c_3, d_3⟩ = 0 ∨ pickN h0 h1 h2 w0 w1 w2 ⟨a_3, b_3, c_3, d_3⟩ = 1 ∨ pickN h0 h1 h2 w0 w1 w2 ⟨a_3, b_3, c_3, d_3⟩ = 2 from pickN_3 hd.v ho3)).2 (by rw [Nat.mul_one])) fun ac206 hf234 => ?_)
        refine seq_one (op_val (v := .bool (hasN h0 h1 h2 (pickN h0 h1 h2 w0 w1 w2 ⟨a_3, b_3, c_3, d_3⟩))) hf234 rfl rfl rfl rfl rfl rfl (r_load ag_4 rfl (hI29.at 1 rfl) (by rcases (show pickN h0 h1 h2 w0 w1 w2 ⟨a_3, b_3, c_3, d_3⟩ = 0 ∨ pickN h0 h1 h2 w0 w1 w2 ⟨a_3, b_3, c_3, d_3⟩ = 1 ∨ pickN h0 h1 h2 w0 w1 w2 ⟨a_3, b_3, c_3, d_3⟩ = 2 from pickN_3 hd.v ho3) with h | h | h <;> rw [h] <;> rfl)) fun ac207 hf235 => ?_)
        refine seq_one (op_val (v := .bool (hasN h0 h1 h2 (pickN h0 h1 h2 w0 w1 w2 ⟨a_3, b_3, c_3, d_3⟩))) hf235 rfl rfl rfl rfl rfl rfl (r_move rfl) fun ac208 hf236 => ?_)
        have hf237 := hf236.know 120 (u := .bool true) rfl (congrArg Value.bool ((again_15 hd.v ho3 (nb' g116_5) he6).1))
        refine seq_one (op_val (v := .int .i64 (pickN h0 h1 h2 w0 w1 w2 ⟨a_3, b_3, c_3, d_3⟩)) hf237 rfl rfl rfl rfl rfl rfl (r_move rfl) fun ac209 hf238 => ?_)
        refine seq_one (op_val (v := .pointer (some ⟨b7, 0 + (pickN h0 h1 h2 w0 w1 w2 ⟨a_3, b_3, c_3, d_3⟩).toNat, none⟩)) hf238 rfl rfl rfl rfl rfl rfl (r_indexAddr (i := (pickN h0 h1 h2 w0 w1 w2 ⟨a_3, b_3, c_3, d_3⟩).toNat) ar_22 rfl rfl (idx3 (show pickN h0 h1 h2 w0 w1 w2 ⟨a_3, b_3, c_3, d_3⟩ = 0 ∨ pickN h0 h1 h2 w0 w1 w2 ⟨a_3, b_3, c_3, d_3⟩ = 1 ∨ pickN h0 h1 h2 w0 w1 w2 ⟨a_3, b_3, c_3, d_3⟩ = 2 from pickN_3 hd.v ho3)).1 (idx3 (show pickN h0 h1 h2 w0 w1 w2 ⟨a_3, b_3, c_3, d_3⟩ = 0 ∨ pickN h0 h1 h2 w0 w1 w2 ⟨a_3, b_3, c_3, d_3⟩ = 1 ∨ pickN h0 h1 h2 w0 w1 w2 ⟨a_3, b_3, c_3, d_3⟩ = 2 from pickN_3 hd.v ho3)).2 (by rw [Nat.mul_one])) fun ac210 hf239 => ?_)
        refine seq_one (op_val (v := .int .i64 (sel3 (pickN h0 h1 h2 w0 w1 w2 ⟨a_3, b_3, c_3, d_3⟩) a_6 b_6 c_6)) hf239 rfl rfl rfl rfl rfl rfl (r_load ag_3 rfl (hI29.at 4 rfl) (by rcases (show pickN h0 h1 h2 w0 w1 w2 ⟨a_3, b_3, c_3, d_3⟩ = 0 ∨ pickN h0 h1 h2 w0 w1 w2 ⟨a_3, b_3, c_3, d_3⟩ = 1 ∨ pickN h0 h1 h2 w0 w1 w2 ⟨a_3, b_3, c_3, d_3⟩ = 2 from pickN_3 hd.v ho3) with h | h | h <;> rw [h] <;> rfl)) fun ac211 hf240 => ?_)
        refine seq_one (op_val (v := .bool (decide ((sel3 (pickN h0 h1 h2 w0 w1 w2 ⟨a_3, b_3, c_3, d_3⟩) a_6 b_6 c_6) > 0))) hf240 rfl rfl rfl rfl rfl rfl (r_gtr rfl rfl) fun ac212 hf241 => ?_)
        refine seq_one (op_val (v := .bool (decide ((sel3 (pickN h0 h1 h2 w0 w1 w2 ⟨a_3, b_3, c_3, d_3⟩) a_6 b_6 c_6) > 0))) hf241 rfl rfl rfl rfl rfl rfl (r_pickT rfl rfl) fun ac213 hf242 => ?_)
        refine seq_one (op_val (v := .bool (decide ((sel3 (pickN h0 h1 h2 w0 w1 w2 ⟨a_3, b_3, c_3, d_3⟩) a_6 b_6 c_6) > 0))) hf242 rfl rfl rfl rfl rfl rfl (r_move rfl) fun ac214 hf243 => ?_)
        have hf244 := hf243.know 126 (u := .bool true) rfl (congrArg Value.bool (decide_eq_true (again_15 hd.v ho3 (nb' g116_5) he6).2.1))
        refine seq_one (op_val (v := .pointer (some ⟨b3, 0, none⟩)) hf244 rfl rfl rfl rfl rfl rfl (r_move rfl) fun ac215 hf245 => ?_)
        refine seq_one (op_pureW hf245 rfl rfl rfl rfl ca_16 (now_walk w0 w1 w2 a_6 b_6 c_6 d_6 hd.v.ne b3 _ (Has.cons (hI29.at 2 rfl) Has.nil)) hI29 fun ac216 wd22 hI31 hf246 => ?_)
        refine seq_one (op_val (v := .int .i64 (pickN h0 h1 h2 w0 w1 w2 ⟨a_3, b_3, c_3, d_3⟩)) hf246 rfl rfl rfl rfl rfl rfl (r_move rfl) fun ac217 hf247 => ?_)
        refine seq_one (op_val (v := .bool (d_6 == (pickN h0 h1 h2 w0 w1 w2 ⟨a_3, b_3, c_3, d_3⟩))) hf247 rfl rfl rfl rfl rfl rfl (r_eql rfl rfl) fun ac218 hf248 => ?_)
        refine seq_one (op_val (v := .bool (d_6 == (pickN h0 h1 h2 w0 w1 w2 ⟨a_3, b_3, c_3, d_3⟩))) hf248 rfl rfl rfl rfl rfl rfl (r_pickT rfl rfl) fun ac219 hf249 => ?_)
        refine seq_one (op_val (v := .bool (d_6 == (pickN h0 h1 h2 w0 w1 w2 ⟨a_3, b_3, c_3, d_3⟩))) hf249 rfl rfl rfl rfl rfl rfl (r_pickF rfl rfl) fun ac220 hf250 => ?_)
        refine seq_one (op_val (v := .bool (d_6 == (pickN h0 h1 h2 w0 w1 w2 ⟨a_3, b_3, c_3, d_3⟩))) hf250 rfl rfl rfl rfl rfl rfl (r_move rfl) fun ac221 hf251 => ?_)
        have hf252 := hf251.know 133 (u := .bool true) rfl (congrArg Value.bool (beq_iff_eq.2 (again_15 hd.v ho3 (nb' g116_5) he6).2.2))
        refine seq_one (op_pure hf252 rfl rfl rfl rfl ca_11 awake_pur hI31 fun ac222 wd23 hI32 hf253 => ?_)
        refine seq_one (op_val (v := .bool true) hf253 rfl rfl rfl rfl rfl rfl (r_pickT rfl rfl) fun ac223 hf254 => ?_)
        refine seq_one (op_val (v := .bool true) hf254 rfl rfl rfl rfl rfl rfl (r_assign rfl) fun ac224 hf255 => ?_)
        refine seq_end ?_
        clear ac181 hf207 ac182 hf208 ac183 hf209 hf210 ac184 hf232 ac205 hf233 ac206 hf234 ac207 hf235 hf236 ac208 hf237 ac209 hf238 ac210 hf239 ac211 hf240 ac212 hf241 ac213 hf242 hf243 ac214 hf244 ac215 wd20 hI29 hf245 ac216 hf246 ac217 hf247 ac218 hf248 ac219 hf249 ac220 hf250 hf251 ac221 wd22 hI31 hf252 ac222 hf253 ac223 hf254
        refine then_normal ?_
        refine wp_ret ?_
        refine post1 rfl hf255 rfl ⟨?_, hI32.done (fresh_keys (ks := [b1, b2, b3, b4, b7]) rfl (fk_cons hb1 (fk_cons hb2 (fk_cons hb3 (fk_cons hb4 (fk_cons hb7 fk_nil))))))⟩
        rfl
end Go.Proofs.Ytkfilmdnpocinaa
