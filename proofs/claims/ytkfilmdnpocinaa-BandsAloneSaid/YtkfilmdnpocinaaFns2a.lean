/-
  Pick: what each call comes to.
-/
import Derived.Test.YtkfilmdnpocinaaFns
namespace Go.Proofs.Ytkfilmdnpocinaa
set_option linter.unusedVariables false
set_option linter.unusedSimpArgs false
set_option maxRecDepth 100000
open Go.RowKit
set_option maxHeartbeats 8000000 in
theorem pick_walk (w0 w1 w2 c0 c1 c2 n : Int) (h0 h1 h2 : Bool) (hw : w0 ≠ 0) (hv : WOK w0 w1 w2) (hs : Ok w0 w1 w2 ⟨c0, c1, c2, n⟩) (b : Nat) (w : World) (h0_ : Has [(b, #[.int .i64 w0, .int .i64 w1, .int .i64 w2, .int .i64 c0, .int .i64 c1, .int .i64 c2, .int .i64 n], 58)] w) : Calls Try.prog 12 [.pointer (some ⟨b, 0, none⟩), .agg #[.bool h0, .bool h1, .bool h2]].toArray w fun e w' => e = .returned (.tuple #[.int .i64 (pickN h0 h1 h2 w0 w1 w2 ⟨c0, c1, c2, n⟩), .bool (h0 || h1 || h2)]) ∧ Inv w [(b, #[.int .i64 w0, .int .i64 w1, .int .i64 w2, .int .i64 (((pickS h0 h1 h2 w0 w1 w2 ⟨c0, c1, c2, n⟩ : St)).c0), .int .i64 (((pickS h0 h1 h2 w0 w1 w2 ⟨c0, c1, c2, n⟩ : St)).c1), .int .i64 (((pickS h0 h1 h2 w0 w1 w2 ⟨c0, c1, c2, n⟩ : St)).c2), .int .i64 (((pickS h0 h1 h2 w0 w1 w2 ⟨c0, c1, c2, n⟩ : St)).now)], 58)] w' := by
  have hI1 := Inv.startS h0_ (List.pairwise_singleton _ _)
  refine enter (n := 76) Try.func12 rfl rfl rfl ?_
  intro ac1 hf1
  refine code_seq ?_
  refine seq_start (l := [0, 1, 2]) rfl ?_
  refine seq_one (op_box hf1 rfl rfl rfl rfl hI1 fun ac2 b1 wd1 hb1 hI2 hf2 => ?_)
  have hI3 : Inv w [(b, #[.int .i64 w0, .int .i64 w1, .int .i64 w2, .int .i64 c0, .int .i64 c1, .int .i64 c2, .int .i64 n], 58), (b1, #[.bool h0, .bool h1, .bool h2], 33)] wd1 := hI2
  refine seq_one (op_val (v := .int .i64 0) hf2 rfl rfl rfl rfl rfl rfl (r_assign rfl) fun ac3 hf3 => ?_)
  refine seq_one (op_val (v := .bool false) hf3 rfl rfl rfl rfl rfl rfl (r_assign rfl) fun ac4 hf4 => ?_)
  refine seq_end ?_
  clear ac1 hI1 hf1 hI2 ac2 hf2 ac3 hf3
  refine then_normal ?_
  refine code_seq ?_
  refine code_seq ?_
  refine seq_start (l := [0, 1, 2, 3, 4, 5, 6]) rfl ?_
  refine seq_one (op_val (v := .pointer (some ⟨b, 0, none⟩)) hf4 rfl rfl rfl rfl rfl rfl (r_move rfl) fun ac5 hf5 => ?_)
  refine seq_one (op_pureW hf5 rfl rfl rfl rfl ca_20 (none_walk w0 w1 w2 c0 c1 c2 n hw b _ (Has.cons (hI3.at 0 rfl) Has.nil)) hI3 fun ac6 wd2 hI4 hf6 => ?_)
  refine seq_one (op_val (v := .bool false) hf6 rfl rfl rfl rfl rfl rfl (r_move rfl) fun ac7 hf7 => ?_)
  refine seq_one (op_val (v := .agg #[.bool h0, .bool h1, .bool h2]) hf7 rfl rfl rfl rfl rfl rfl (r_loadW ag_33 sz_33 rfl (hI4.at 1 rfl) rfl) fun ac8 hf8 => ?_)
  refine seq_one (op_val (v := .agg #[.bool false, .bool false, .bool false]) hf8 rfl rfl rfl rfl rfl rfl (r_build (v := .agg #[.bool false, .bool false, .bool false]) rfl (fun _ => by kernel_rfl)) fun ac9 hf9 => ?_)
  refine seq_one (op_val (v := .bool (eqA (#[.bool h0, .bool h1, .bool h2]) (#[.bool false, .bool false, .bool false]))) hf9 rfl rfl rfl rfl rfl rfl (r_eqA sh_33 kt_33 rw_33 rfl zk_33 eg_33 rfl rfl ⟨⟨_, rfl⟩, ⟨_, rfl⟩, ⟨_, rfl⟩, trivial⟩ ⟨⟨_, rfl⟩, ⟨_, rfl⟩, ⟨_, rfl⟩, trivial⟩) fun ac10 hf10 => ?_)
  refine seq_one (op_val (v := .bool (eqA (#[.bool h0, .bool h1, .bool h2]) (#[.bool false, .bool false, .bool false]))) hf10 rfl rfl rfl rfl rfl rfl (r_pickF rfl rfl) fun ac11 hf11 => ?_)
  refine seq_end ?_
  clear ac4 hf4 ac5 wd1 hI3 hf5 ac6 hf6 ac7 hf7 ac8 hf8 ac9 hf9 ac10 hf10
  refine then_normal ?_
  refine code_if hf11 rfl (fun c13_1 => ?_) (fun c13_1 => ?_)
  · have hf12 := hf11.know 13 (u := .bool true) rfl (congrArg Value.bool c13_1)
    refine code_seq ?_
    refine seq_start (l := [0, 1]) rfl ?_
    refine seq_one (op_val (v := .int .i64 0) hf12 rfl rfl rfl rfl rfl rfl (r_assign rfl) fun ac12 hf13 => ?_)
    refine seq_one (op_val (v := .bool false) hf13 rfl rfl rfl rfl rfl rfl (r_assign rfl) fun ac13 hf14 => ?_)
    refine seq_end ?_
    clear hf11 ac11 hf12 ac12 hf13
    refine then_normal ?_
    refine wp_ret ?_
    refine then_ret ?_
    refine post2 rfl hf14 rfl rfl ?_
    have hI5 : Inv w [(b, #[.int .i64 w0, .int .i64 w1, .int .i64 w2, .int .i64 c0, .int .i64 c1, .int .i64 c2, .int .i64 n], 58)] _ := (Inv.drop (A := [(b, #[.int .i64 w0, .int .i64 w1, .int .i64 w2, .int .i64 c0, .int .i64 c1, .int .i64 c2, .int .i64 n], 58)]) (B := [(b1, #[.bool h0, .bool h1, .bool h2], 33)]) hI4 (fresh_keys (ks := [b1]) rfl (fk_cons hb1 fk_nil)))
    have ha := any_eqA c13_1
    rw [pickN_none ha, pickS_none ha, ha]
    exact ⟨rfl, hI5⟩
  · have hf15 := hf11.know 13 (u := .bool false) rfl (congrArg Value.bool c13_1)
    refine wp_skip ?_
    refine then_normal ?_
    refine code_seq ?_
    refine wp_block ?_
    have ha := any_neA c13_1
    refine code_loop (α := Int × Int × Int × Int) (fun (x : Int × Int × Int × Int) => match x with | (d0, d1, d2, j) => [(0, .pointer (some ⟨b, 0, none⟩)), (1, .agg #[.bool h0, .bool h1, .bool h2]), (3, .pointer (some ⟨b1, 0, none⟩)), (4, .int .i64 0), (5, .bool false), (7, .pointer (some ⟨b, 0, none⟩)), (8, .bool false), (9, .bool false), (10, .agg #[.bool h0, .bool h1, .bool h2]), (11, .agg #[.bool false, .bool false, .bool false]), (12, .bool (eqA (#[.bool h0, .bool h1, .bool h2]) (#[.bool false, .bool false, .bool false]))), (13, .bool false)]) (fun (x : Int × Int × Int × Int) => match x with | (d0, d1, d2, j) => fun wL => Inv w [(b, #[.int .i64 w0, .int .i64 w1, .int .i64 w2, .int .i64 d0, .int .i64 d1, .int .i64 d2, .int .i64 j], 58), (b1, #[.bool h0, .bool h1, .bool h2], 33)] wL ∧ (Ok w0 w1 w2 ⟨d0, d1, d2, j⟩ ∧ (pickS h0 h1 h2 w0 w1 w2 ⟨d0, d1, d2, j⟩ : St) = (pickS h0 h1 h2 w0 w1 w2 ⟨c0, c1, c2, n⟩ : St))) (fun (x : Int × Int × Int × Int) => match x with | (d0, d1, d2, j) => meas h0 h1 h2 ⟨d0, d1, d2, j⟩) (c0, c1, c2, n) (hf15.cons 0 rfl (hf15.cons 1 rfl (hf15.cons 3 rfl (hf15.cons 4 rfl (hf15.cons 5 rfl (hf15.cons 7 rfl (hf15.cons 8 rfl (hf15.cons 9 rfl (hf15.cons 10 rfl (hf15.cons 11 rfl (hf15.cons 12 rfl (hf15.cons 13 rfl hf15.nil)))))))))))) ⟨hI4, ⟨hs, rfl⟩⟩ ?_
    intro ⟨d0, d1, d2, j⟩ ac14 wd3 hf16 hL1
    obtain ⟨hI6, hx1⟩ := hL1
    dsimp only at hf16 hI6 hx1
    clear hf11 ac11 wd2 hf15 hI4
    have hj := hx1.1.n
    dsimp only at hj
    rcases hj with rfl | rfl | rfl
    ·
      refine code_seq ?_
      refine code_seq ?_
      refine any_start (fun w => Has [(b, #[.int .i64 w0, .int .i64 w1, .int .i64 w2, .int .i64 d0, .int .i64 d1, .int .i64 d2, .int .i64 0], 58), (b1, #[.bool h0, .bool h1, .bool h2], 33)] w) follows (Has.drew (Has.cons (hI6.at 0 rfl) (Has.cons (hI6.at 1 rfl) Has.nil))) ?_
      have hS1 : Has [(b, #[.int .i64 w0, .int .i64 w1, .int .i64 w2, .int .i64 d0, .int .i64 d1, .int .i64 d2, .int .i64 0], 58), (b1, #[.bool h0, .bool h1, .bool h2], 33)] _ := Has.drew (Has.cons (hI6.at 0 rfl) (Has.cons (hI6.at 1 rfl) Has.nil))
      have hI7 := hI6.drew
      refine any_val (i := 0) (v := .pointer (some ⟨b, 0, none⟩)) hf16 rfl rfl rfl rfl rfl rfl (fun _ _ _ h => h) (by kernel_rfl) (by kernel_rfl) (by kernel_rfl) (fun wd3 hS1 => (r_move rfl)) hS1 fun ac15 hf17 => ?_
      refine any_val (i := 1) (v := .pointer (some ⟨b, 0, none⟩)) hf17 rfl rfl rfl rfl rfl rfl (fun _ _ _ h => h) (by kernel_rfl) (by kernel_rfl) (by kernel_rfl) (fun wd3 hS1 => (r_nilCheck rfl)) hS1 fun ac16 hf18 => ?_
      refine any_val (i := 2) (v := .pointer (some ⟨b, 6, none⟩)) hf18 rfl rfl rfl rfl rfl rfl (fun _ _ _ h => h) (by kernel_rfl) (by kernel_rfl) (by kernel_rfl) (fun wd3 hS1 => (r_fieldAddr fi_58_2 rfl rfl)) hS1 fun ac17 hf19 => ?_
      refine any_val (i := 3) (v := .int .i64 0) hf19 rfl rfl rfl rfl rfl rfl (fun _ _ _ h => h) (by kernel_rfl) (by kernel_rfl) (by kernel_rfl) (fun wd3 hS1 => (r_load ag_3 rfl (hS1.at 0 rfl) rfl)) hS1 fun ac18 hf20 => ?_
      refine any_val (i := 4) (v := .pointer (some ⟨b1, 0, none⟩)) hf20 rfl rfl rfl rfl rfl rfl (fun _ _ _ h => h) (by kernel_rfl) (by kernel_rfl) (by kernel_rfl) (fun wd3 hS1 => (r_indexAddr (i := 0) ar_33 rfl rfl rfl (by decide) rfl)) hS1 fun ac19 hf21 => ?_
      refine any_val (i := 5) (v := .bool h0) hf21 rfl rfl rfl rfl rfl rfl (fun _ _ _ h => h) (by kernel_rfl) (by kernel_rfl) (by kernel_rfl) (fun wd3 hS1 => (r_load ag_4 rfl (hS1.at 1 rfl) rfl)) hS1 fun ac20 hf22 => ?_
      refine any_val (i := 6) (v := .bool (!h0)) hf22 rfl rfl rfl rfl rfl rfl (fun _ _ _ h => h) (by kernel_rfl) (by kernel_rfl) (by kernel_rfl) (fun wd3 hS1 => (r_not rfl)) hS1 fun ac21 hf23 => ?_
      refine any_val (i := 7) (v := .bool (!h0)) hf23 rfl rfl rfl rfl rfl rfl (fun _ _ _ h => h) (by kernel_rfl) (by kernel_rfl) (by kernel_rfl) (fun wd3 hS1 => (r_move rfl)) hS1 fun ac22 hf24 => ?_
      rcases Bool.eq_false_or_eq_true (!h0 : Bool) with g21_2 | g21_2
      · have hf25 := hf24.know 21 (u := .bool true) rfl (congrArg Value.bool g21_2)
        refine any_skip (i := 8) hf25 rfl rfl rfl rfl (fun _ _ _ h => h) (by kernel_rfl) (by kernel_rfl) (by kernel_rfl) hS1 fun ac23 hf26 => ?_
        refine any_skip (i := 9) hf26 rfl rfl rfl rfl (fun _ _ _ h => h) (by kernel_rfl) (by kernel_rfl) (by kernel_rfl) hS1 fun ac24 hf27 => ?_
        refine any_skip (i := 10) hf27 rfl rfl rfl rfl (fun _ _ _ h => h) (by kernel_rfl) (by kernel_rfl) (by kernel_rfl) hS1 fun ac25 hf28 => ?_
        refine any_skip (i := 11) hf28 rfl rfl rfl rfl (fun _ _ _ h => h) (by kernel_rfl) (by kernel_rfl) (by kernel_rfl) hS1 fun ac26 hf29 => ?_
        refine any_skip (i := 12) hf29 rfl rfl rfl rfl (fun _ _ _ h => h) (by kernel_rfl) (by kernel_rfl) (by kernel_rfl) hS1 fun ac27 hf30 => ?_
        refine any_skip (i := 13) hf30 rfl rfl rfl rfl (fun _ _ _ h => h) (by kernel_rfl) (by kernel_rfl) (by kernel_rfl) hS1 fun ac28 hf31 => ?_
        refine any_skip (i := 14) hf31 rfl rfl rfl rfl (fun _ _ _ h => h) (by kernel_rfl) (by kernel_rfl) (by kernel_rfl) hS1 fun ac29 hf32 => ?_
        refine any_skip (i := 15) hf32 rfl rfl rfl rfl (fun _ _ _ h => h) (by kernel_rfl) (by kernel_rfl) (by kernel_rfl) hS1 fun ac30 hf33 => ?_
        refine any_skip (i := 16) hf33 rfl rfl rfl rfl (fun _ _ _ h => h) (by kernel_rfl) (by kernel_rfl) (by kernel_rfl) hS1 fun ac31 hf34 => ?_
        refine any_skip (i := 17) hf34 rfl rfl rfl rfl (fun _ _ _ h => h) (by kernel_rfl) (by kernel_rfl) (by kernel_rfl) hS1 fun ac32 hf35 => ?_
        refine any_val (i := 18) (v := .bool true) hf35 rfl rfl rfl rfl rfl rfl (fun _ _ _ h => h) (by kernel_rfl) (by kernel_rfl) (by kernel_rfl) (fun wd3 hS1 => (r_pickT rfl rfl)) hS1 fun ac33 hf36 => ?_
        refine any_end (by kernel_rfl) ?_
        clear hI6 ac14 hf16 ac15 hf17 ac16 hf18 ac17 hf19 ac18 hf20 ac19 hf21 ac20 hf22 ac21 hf23 hf24 ac22 hf25 ac23 hf26 ac24 hf27 ac25 hf28 ac26 hf29 ac27 hf30 ac28 hf31 ac29 hf32 ac30 hf33 ac31 hf34 ac32 hf35 hS1
        refine then_normal ?_
        refine code_if_true hf36 rfl ?_
        refine wp_skip ?_
        refine then_normal ?_
        refine wp_block ?_
        refine code_seq ?_
        refine seq_start (l := [0, 1, 2, 3, 4, 5, 6, 7, 8, 9]) rfl ?_
        refine seq_one (op_val (v := .pointer (some ⟨b, 0, none⟩)) hf36 rfl rfl rfl rfl rfl rfl (r_move rfl) fun ac34 hf37 => ?_)
        refine seq_one (op_val (v := .pointer (some ⟨b, 0, none⟩)) hf37 rfl rfl rfl rfl rfl rfl (r_move rfl) fun ac35 hf38 => ?_)
        refine seq_one (op_val (v := .pointer (some ⟨b, 0, none⟩)) hf38 rfl rfl rfl rfl rfl rfl (r_nilCheck rfl) fun ac36 hf39 => ?_)
        refine seq_one (op_val (v := .pointer (some ⟨b, 6, none⟩)) hf39 rfl rfl rfl rfl rfl rfl (r_fieldAddr fi_58_2 rfl rfl) fun ac37 hf40 => ?_)
        refine seq_one (op_val (v := .int .i64 0) hf40 rfl rfl rfl rfl rfl rfl (r_load ag_3 rfl (hI7.at 0 rfl) rfl) fun ac38 hf41 => ?_)
        refine seq_one (op_val (v := .int .i64 1) hf41 rfl rfl rfl rfl rfl rfl (r_add (c := 1) rfl rfl (by rfl)) fun ac39 hf42 => ?_)
        refine seq_one (op_val (v := .int .i64 1) hf42 rfl rfl rfl rfl rfl rfl (r_rem (c := 1) rfl rfl (by decide) (by rfl)) fun ac40 hf43 => ?_)
        refine seq_one (op_val (v := .pointer (some ⟨b, 0, none⟩)) hf43 rfl rfl rfl rfl rfl rfl (r_nilCheck rfl) fun ac41 hf44 => ?_)
        refine seq_one (op_val (v := .pointer (some ⟨b, 6, none⟩)) hf44 rfl rfl rfl rfl rfl rfl (r_fieldAddr fi_58_2 rfl rfl) fun ac42 hf45 => ?_)
        refine seq_one (op_store (cs' := #[.int .i64 w0, .int .i64 w1, .int .i64 w2, .int .i64 d0, .int .i64 d1, .int .i64 d2, .int .i64 1]) 0 hf45 rfl rfl rfl rfl rfl sz_3 hI7 rfl (ltb rfl) (by kernel_rfl) fun wd4 hI8 => ?_)
        have hI9 : Inv w [(b, #[.int .i64 w0, .int .i64 w1, .int .i64 w2, .int .i64 d0, .int .i64 d1, .int .i64 d2, .int .i64 1], 58), (b1, #[.bool h0, .bool h1, .bool h2], 33)] wd4 := hI8
        refine seq_end ?_
        clear ac33 hf36 ac34 hf37 ac35 hf38 ac36 hf39 ac37 hf40 ac38 hf41 ac39 hf42 ac40 hf43 ac41 hf44 wd3 hI7 hI8
        refine then_normal ?_
        refine code_seq ?_
        refine any_start (fun w => Has [(b, #[.int .i64 w0, .int .i64 w1, .int .i64 w2, .int .i64 d0, .int .i64 d1, .int .i64 d2, .int .i64 1], 58)] w) follows (Has.drew (Has.cons (hI9.at 0 rfl) Has.nil)) ?_
        have hS2 : Has [(b, #[.int .i64 w0, .int .i64 w1, .int .i64 w2, .int .i64 d0, .int .i64 d1, .int .i64 d2, .int .i64 1], 58)] _ := Has.drew (Has.cons (hI9.at 0 rfl) Has.nil)
        have hI10 := hI9.drew
        refine any_val (i := 0) (v := .pointer (some ⟨b, 0, none⟩)) hf45 rfl rfl rfl rfl rfl rfl (fun _ _ _ h => h) (by kernel_rfl) (by kernel_rfl) (by kernel_rfl) (fun wd4 hS2 => (r_move rfl)) hS2 fun ac43 hf46 => ?_
        refine any_val (i := 1) (v := .pointer (some ⟨b, 0, none⟩)) hf46 rfl rfl rfl rfl rfl rfl (fun _ _ _ h => h) (by kernel_rfl) (by kernel_rfl) (by kernel_rfl) (fun wd4 hS2 => (r_move rfl)) hS2 fun ac44 hf47 => ?_
        refine any_val (i := 2) (v := .pointer (some ⟨b, 0, none⟩)) hf47 rfl rfl rfl rfl rfl rfl (fun _ _ _ h => h) (by kernel_rfl) (by kernel_rfl) (by kernel_rfl) (fun wd4 hS2 => (r_nilCheck rfl)) hS2 fun ac45 hf48 => ?_
        refine any_val (i := 3) (v := .pointer (some ⟨b, 6, none⟩)) hf48 rfl rfl rfl rfl rfl rfl (fun _ _ _ h => h) (by kernel_rfl) (by kernel_rfl) (by kernel_rfl) (fun wd4 hS2 => (r_fieldAddr fi_58_2 rfl rfl)) hS2 fun ac46 hf49 => ?_
        refine any_val (i := 4) (v := .int .i64 1) hf49 rfl rfl rfl rfl rfl rfl (fun _ _ _ h => h) (by kernel_rfl) (by kernel_rfl) (by kernel_rfl) (fun wd4 hS2 => (r_load ag_3 rfl (hS2.at 0 rfl) rfl)) hS2 fun ac47 hf50 => ?_
        refine any_val (i := 5) (v := .pointer (some ⟨b, 0, none⟩)) hf50 rfl rfl rfl rfl rfl rfl (fun _ _ _ h => h) (by kernel_rfl) (by kernel_rfl) (by kernel_rfl) (fun wd4 hS2 => (r_nilCheck rfl)) hS2 fun ac48 hf51 => ?_
        refine any_val (i := 6) (v := .pointer (some ⟨b, 0, none⟩)) hf51 rfl rfl rfl rfl rfl rfl (fun _ _ _ h => h) (by kernel_rfl) (by kernel_rfl) (by kernel_rfl) (fun wd4 hS2 => (r_fieldAddr fi_58_0 rfl rfl)) hS2 fun ac49 hf52 => ?_
        refine any_val (i := 7) (v := .pointer (some ⟨b, 1, none⟩)) hf52 rfl rfl rfl rfl rfl rfl (fun _ _ _ h => h) (by kernel_rfl) (by kernel_rfl) (by kernel_rfl) (fun wd4 hS2 => (r_indexAddr (i := 1) ar_22 rfl rfl rfl (by decide) rfl)) hS2 fun ac50 hf53 => ?_
        refine any_val (i := 8) (v := .int .i64 w1) hf53 rfl rfl rfl rfl rfl rfl (fun _ _ _ h => h) (by kernel_rfl) (by kernel_rfl) (by kernel_rfl) (fun wd4 hS2 => (r_load ag_3 rfl (hS2.at 0 rfl) rfl)) hS2 fun ac51 hf54 => ?_
        refine any_val (i := 9) (v := .int .i64 w1) hf54 rfl rfl rfl rfl rfl rfl (fun _ _ _ h => h) (by kernel_rfl) (by kernel_rfl) (by kernel_rfl) (fun wd4 hS2 => (r_assign rfl)) hS2 fun ac52 hf55 => ?_
        refine any_end (by kernel_rfl) ?_
        clear hI9 ac42 hf45 ac43 hf46 ac44 hf47 ac45 hf48 ac46 hf49 ac47 hf50 ac48 hf51 ac49 hf52 ac50 hf53 ac51 hf54 hS2
        refine then_normal ?_
        refine any_start (fun w => Has [] w) follows (Has.drew Has.nil) ?_
        have hS3 : ∀ {w : World}, Has [] w := Has.nil
        have hI11 := hI10.drew
        refine any_val (i := 0) (v := .pointer (some ⟨b, 0, none⟩)) hf55 rfl rfl rfl rfl rfl rfl (fun _ _ _ h => h) (by kernel_rfl) (by kernel_rfl) (by kernel_rfl) (fun wd4 hS3 => (r_move rfl)) hS3 fun ac53 hf56 => ?_
        refine any_val (i := 1) (v := .pointer (some ⟨b, 0, none⟩)) hf56 rfl rfl rfl rfl rfl rfl (fun _ _ _ h => h) (by kernel_rfl) (by kernel_rfl) (by kernel_rfl) (fun wd4 hS3 => (r_move rfl)) hS3 fun ac54 hf57 => ?_
        refine any_val (i := 2) (v := .pointer (some ⟨b, 0, none⟩)) hf57 rfl rfl rfl rfl rfl rfl (fun _ _ _ h => h) (by kernel_rfl) (by kernel_rfl) (by kernel_rfl) (fun wd4 hS3 => (r_nilCheck rfl)) hS3 fun ac55 hf58 => ?_
        refine any_val (i := 3) (v := .pointer (some ⟨b, 6, none⟩)) hf58 rfl rfl rfl rfl rfl rfl (fun _ _ _ h => h) (by kernel_rfl) (by kernel_rfl) (by kernel_rfl) (fun wd4 hS3 => (r_fieldAddr fi_58_2 rfl rfl)) hS3 fun ac56 hf59 => ?_
        refine any_val (i := 5) (v := .pointer (some ⟨b, 0, none⟩)) hf59 rfl rfl rfl rfl rfl rfl (fun _ _ _ h => h) (by kernel_rfl) (by kernel_rfl) (by kernel_rfl) (fun wd4 hS3 => (r_move rfl)) hS3 fun ac57 hf60 => ?_
        refine any_val (i := 6) (v := .pointer (some ⟨b, 0, none⟩)) hf60 rfl rfl rfl rfl rfl rfl (fun _ _ _ h => h) (by kernel_rfl) (by kernel_rfl) (by kernel_rfl) (fun wd4 hS3 => (r_move rfl)) hS3 fun ac58 hf61 => ?_
        refine any_val (i := 7) (v := .pointer (some ⟨b, 0, none⟩)) hf61 rfl rfl rfl rfl rfl rfl (fun _ _ _ h => h) (by kernel_rfl) (by kernel_rfl) (by kernel_rfl) (fun wd4 hS3 => (r_nilCheck rfl)) hS3 fun ac59 hf62 => ?_
        refine any_val (i := 8) (v := .pointer (some ⟨b, 6, none⟩)) hf62 rfl rfl rfl rfl rfl rfl (fun _ _ _ h => h) (by kernel_rfl) (by kernel_rfl) (by kernel_rfl) (fun wd4 hS3 => (r_fieldAddr fi_58_2 rfl rfl)) hS3 fun ac60 hf63 => ?_
        refine any_val (i := 10) (v := .pointer (some ⟨b, 0, none⟩)) hf63 rfl rfl rfl rfl rfl rfl (fun _ _ _ h => h) (by kernel_rfl) (by kernel_rfl) (by kernel_rfl) (fun wd4 hS3 => (r_nilCheck rfl)) hS3 fun ac61 hf64 => ?_
        refine any_val (i := 11) (v := .pointer (some ⟨b, 3, none⟩)) hf64 rfl rfl rfl rfl rfl rfl (fun _ _ _ h => h) (by kernel_rfl) (by kernel_rfl) (by kernel_rfl) (fun wd4 hS3 => (r_fieldAddr fi_58_1 rfl rfl)) hS3 fun ac62 hf65 => ?_
        refine any_val (i := 14) (v := .int .i64 w1) hf65 rfl rfl rfl rfl rfl rfl (fun _ _ _ h => h) (by kernel_rfl) (by kernel_rfl) (by kernel_rfl) (fun wd4 hS3 => (r_move rfl)) hS3 fun ac63 hf66 => ?_
        refine any_val (i := 16) (v := .int .i64 w1) hf66 rfl rfl rfl rfl rfl rfl (fun _ _ _ h => h) (by kernel_rfl) (by kernel_rfl) (by kernel_rfl) (fun wd4 hS3 => (r_move rfl)) hS3 fun ac64 hf67 => ?_
        refine any_val (i := 18) (v := .pointer (some ⟨b, 0, none⟩)) hf67 rfl rfl rfl rfl rfl rfl (fun _ _ _ h => h) (by kernel_rfl) (by kernel_rfl) (by kernel_rfl) (fun wd4 hS3 => (r_nilCheck rfl)) hS3 fun ac65 hf68 => ?_
        refine any_val (i := 19) (v := .pointer (some ⟨b, 3, none⟩)) hf68 rfl rfl rfl rfl rfl rfl (fun _ _ _ h => h) (by kernel_rfl) (by kernel_rfl) (by kernel_rfl) (fun wd4 hS3 => (r_fieldAddr fi_58_1 rfl rfl)) hS3 fun ac66 hf69 => ?_
        refine any_two (i := 4) (j := 9) (by kernel_rfl) ?_ ?_
        ·
          refine op_val (v := .int .i64 1) hf69 rfl rfl rfl rfl rfl rfl (r_load ag_3 rfl (hI11.at 0 rfl) rfl) fun ac67 hf70 => ⟨?_, ?_⟩
          · exact Has.nil
          have hS4 : ∀ {w : World}, Has [] w := Has.nil
          refine any_one (i := 9) (by kernel_rfl) ?_
          refine op_val (v := .int .i64 1) hf70 rfl rfl rfl rfl rfl rfl (r_load ag_3 rfl (hI11.at 0 rfl) rfl) fun ac68 hf71 => ⟨?_, ?_⟩
          · exact Has.nil
          have hS5 : ∀ {w : World}, Has [] w := Has.nil
          refine any_val (i := 12) (v := .pointer (some ⟨b, 4, none⟩)) hf71 rfl rfl rfl rfl rfl rfl (fun _ _ _ h => h) (by kernel_rfl) (by kernel_rfl) (by kernel_rfl) (fun wd4 hS5 => (r_indexAddr (i := 1) ar_22 rfl rfl rfl (by decide) rfl)) hS5 fun ac69 hf72 => ?_
          refine any_one (i := 13) (by kernel_rfl) ?_
          refine op_val (v := .int .i64 d1) hf72 rfl rfl rfl rfl rfl rfl (r_load ag_3 rfl (hI11.at 0 rfl) rfl) fun ac70 hf73 => ⟨?_, ?_⟩
          · exact Has.nil
          have hS6 : ∀ {w : World}, Has [] w := Has.nil
          refine any_val (i := 15) (v := .int .i64 (d1 + w1)) hf73 rfl rfl rfl rfl rfl rfl (fun _ _ _ h => h) (by kernel_rfl) (by kernel_rfl) (by kernel_rfl) (fun wd4 hS6 => (r_add (c := (d1 + w1)) rfl rfl (by have h1 := hx1.1.l1; have h2 := hx1.1.r1; have h3 := hv.r1; have h4 := hv.l1; dsimp only at h1 h2; exact wrap_i64 (by omega) (by omega)))) hS6 fun ac71 hf74 => ?_
          refine any_val (i := 17) (v := .int .i64 (if w1 < (d1 + w1) then w1 else (d1 + w1))) hf74 rfl rfl rfl rfl rfl rfl (fun _ _ _ h => h) (by kernel_rfl) (by kernel_rfl) (by kernel_rfl) (fun wd4 hS6 => (r_min rfl rfl)) hS6 fun ac72 hf75 => ?_
          refine any_val (i := 20) (v := .pointer (some ⟨b, 4, none⟩)) hf75 rfl rfl rfl rfl rfl rfl (fun _ _ _ h => h) (by kernel_rfl) (by kernel_rfl) (by kernel_rfl) (fun wd4 hS6 => (r_indexAddr (i := 1) ar_22 rfl rfl rfl (by decide) rfl)) hS6 fun ac73 hf76 => ?_
          refine any_one (i := 21) (by kernel_rfl) ?_
          refine (op_store (cs' := #[.int .i64 w0, .int .i64 w1, .int .i64 w2, .int .i64 d0, .int .i64 (if w1 < (d1 + w1) then w1 else (d1 + w1)), .int .i64 d2, .int .i64 1]) 0 hf76 rfl rfl rfl rfl rfl sz_3 hI11 rfl (ltb rfl) (by kernel_rfl) fun wd5 hI12 => ⟨?_, ?_⟩)
          · exact Has.nil
          have hI13 : Inv w [(b, #[.int .i64 w0, .int .i64 w1, .int .i64 w2, .int .i64 d0, .int .i64 (if w1 < (d1 + w1) then w1 else (d1 + w1)), .int .i64 d2, .int .i64 1], 58), (b1, #[.bool h0, .bool h1, .bool h2], 33)] wd5 := hI12
          have hS7 : ∀ {w : World}, Has [] w := Has.nil
          refine any_end (by kernel_rfl) ?_
          clear hI10 ac52 hf55 ac53 hf56 ac54 hf57 ac55 hf58 ac56 hf59 ac57 hf60 ac58 hf61 ac59 hf62 ac60 hf63 ac61 hf64 ac62 hf65 ac63 hf66 ac64 hf67 ac65 hf68 ac66 hf69 hS3 ac67 hf70 hS4 ac68 hf71 ac69 hf72 hS5 ac70 hf73 ac71 hf74 ac72 hf75 wd4 hI11 hI12 hS6 hS7
          refine block_normal ?_
          refine then_normal ?_
          have hg : good h0 h1 h2 ⟨d0, d1, d2, 0⟩ = false := (good_eq0.trans (gf (.inl (nb g21_2))))
          exact ⟨(d0, mn2 d1 w1, d2, 1), (hf76.cons 0 rfl (hf76.cons 1 rfl (hf76.cons 3 rfl (hf76.cons 4 rfl (hf76.cons 5 rfl (hf76.cons 7 rfl (hf76.cons 8 rfl (hf76.cons 9 rfl (hf76.cons 10 rfl (hf76.cons 11 rfl (hf76.cons 12 rfl (hf76.cons 13 rfl hf76.nil)))))))))))), ⟨hI13, ⟨nxt_ok (s := ⟨d0, d1, d2, 0⟩) hv hx1.1, (pickS_step (s := ⟨d0, d1, d2, 0⟩) (w0 := w0) (w1 := w1) (w2 := w2) ha hv (.inl rfl) hg).symm.trans hx1.2⟩⟩, meas_lt (s := ⟨d0, d1, d2, 0⟩) (w0 := w0) (w1 := w1) (w2 := w2) ha hv (.inl rfl) hg⟩
        ·
          refine op_val (v := .int .i64 1) hf69 rfl rfl rfl rfl rfl rfl (r_load ag_3 rfl (hI11.at 0 rfl) rfl) fun ac74 hf77 => ⟨?_, ?_⟩
          · exact Has.nil
          have hS8 : ∀ {w : World}, Has [] w := Has.nil
          refine any_val (i := 12) (v := .pointer (some ⟨b, 4, none⟩)) hf77 rfl rfl rfl rfl rfl rfl (fun _ _ _ h => h) (by kernel_rfl) (by kernel_rfl) (by kernel_rfl) (fun wd4 hS8 => (r_indexAddr (i := 1) ar_22 rfl rfl rfl (by decide) rfl)) hS8 fun ac75 hf78 => ?_
          refine any_two (i := 4) (j := 13) (by kernel_rfl) ?_ ?_
          ·
            refine op_val (v := .int .i64 1) hf78 rfl rfl rfl rfl rfl rfl (r_load ag_3 rfl (hI11.at 0 rfl) rfl) fun ac76 hf79 => ⟨?_, ?_⟩
            · exact Has.nil
            have hS9 : ∀ {w : World}, Has [] w := Has.nil
            refine any_one (i := 13) (by kernel_rfl) ?_
            refine op_val (v := .int .i64 d1) hf79 rfl rfl rfl rfl rfl rfl (r_load ag_3 rfl (hI11.at 0 rfl) rfl) fun ac77 hf80 => ⟨?_, ?_⟩
            · exact Has.nil
            have hS10 : ∀ {w : World}, Has [] w := Has.nil
            refine any_val (i := 15) (v := .int .i64 (d1 + w1)) hf80 rfl rfl rfl rfl rfl rfl (fun _ _ _ h => h) (by kernel_rfl) (by kernel_rfl) (by kernel_rfl) (fun wd4 hS10 => (r_add (c := (d1 + w1)) rfl rfl (by have h1 := hx1.1.l1; have h2 := hx1.1.r1; have h3 := hv.r1; have h4 := hv.l1; dsimp only at h1 h2; exact wrap_i64 (by omega) (by omega)))) hS10 fun ac78 hf81 => ?_
            refine any_val (i := 17) (v := .int .i64 (if w1 < (d1 + w1) then w1 else (d1 + w1))) hf81 rfl rfl rfl rfl rfl rfl (fun _ _ _ h => h) (by kernel_rfl) (by kernel_rfl) (by kernel_rfl) (fun wd4 hS10 => (r_min rfl rfl)) hS10 fun ac79 hf82 => ?_
            refine any_val (i := 20) (v := .pointer (some ⟨b, 4, none⟩)) hf82 rfl rfl rfl rfl rfl rfl (fun _ _ _ h => h) (by kernel_rfl) (by kernel_rfl) (by kernel_rfl) (fun wd4 hS10 => (r_indexAddr (i := 1) ar_22 rfl rfl rfl (by decide) rfl)) hS10 fun ac80 hf83 => ?_
            refine any_one (i := 21) (by kernel_rfl) ?_
            refine (op_store (cs' := #[.int .i64 w0, .int .i64 w1, .int .i64 w2, .int .i64 d0, .int .i64 (if w1 < (d1 + w1) then w1 else (d1 + w1)), .int .i64 d2, .int .i64 1]) 0 hf83 rfl rfl rfl rfl rfl sz_3 hI11 rfl (ltb rfl) (by kernel_rfl) fun wd6 hI14 => ⟨?_, ?_⟩)
            · exact Has.nil
            have hI15 : Inv w [(b, #[.int .i64 w0, .int .i64 w1, .int .i64 w2, .int .i64 d0, .int .i64 (if w1 < (d1 + w1) then w1 else (d1 + w1)), .int .i64 d2, .int .i64 1], 58), (b1, #[.bool h0, .bool h1, .bool h2], 33)] wd6 := hI14
            have hS11 : ∀ {w : World}, Has [] w := Has.nil
            refine any_end (by kernel_rfl) ?_
            clear hI10 ac52 hf55 ac53 hf56 ac54 hf57 ac55 hf58 ac56 hf59 ac57 hf60 ac58 hf61 ac59 hf62 ac60 hf63 ac61 hf64 ac62 hf65 ac63 hf66 ac64 hf67 ac65 hf68 ac66 hf69 hS3 ac74 hf77 ac75 hf78 hS8 ac76 hf79 hS9 ac77 hf80 ac78 hf81 ac79 hf82 wd4 hI11 hI14 hS10 hS11
            refine block_normal ?_
            refine then_normal ?_
            have hg : good h0 h1 h2 ⟨d0, d1, d2, 0⟩ = false := (good_eq0.trans (gf (.inl (nb g21_2))))
            exact ⟨(d0, mn2 d1 w1, d2, 1), (hf83.cons 0 rfl (hf83.cons 1 rfl (hf83.cons 3 rfl (hf83.cons 4 rfl (hf83.cons 5 rfl (hf83.cons 7 rfl (hf83.cons 8 rfl (hf83.cons 9 rfl (hf83.cons 10 rfl (hf83.cons 11 rfl (hf83.cons 12 rfl (hf83.cons 13 rfl hf83.nil)))))))))))), ⟨hI15, ⟨nxt_ok (s := ⟨d0, d1, d2, 0⟩) hv hx1.1, (pickS_step (s := ⟨d0, d1, d2, 0⟩) (w0 := w0) (w1 := w1) (w2 := w2) ha hv (.inl rfl) hg).symm.trans hx1.2⟩⟩, meas_lt (s := ⟨d0, d1, d2, 0⟩) (w0 := w0) (w1 := w1) (w2 := w2) ha hv (.inl rfl) hg⟩
          ·
            refine op_val (v := .int .i64 d1) hf78 rfl rfl rfl rfl rfl rfl (r_load ag_3 rfl (hI11.at 0 rfl) rfl) fun ac81 hf84 => ⟨?_, ?_⟩
            · exact Has.nil
            have hS12 : ∀ {w : World}, Has [] w := Has.nil
            refine any_val (i := 15) (v := .int .i64 (d1 + w1)) hf84 rfl rfl rfl rfl rfl rfl (fun _ _ _ h => h) (by kernel_rfl) (by kernel_rfl) (by kernel_rfl) (fun wd4 hS12 => (r_add (c := (d1 + w1)) rfl rfl (by have h1 := hx1.1.l1; have h2 := hx1.1.r1; have h3 := hv.r1; have h4 := hv.l1; dsimp only at h1 h2; exact wrap_i64 (by omega) (by omega)))) hS12 fun ac82 hf85 => ?_
            refine any_val (i := 17) (v := .int .i64 (if w1 < (d1 + w1) then w1 else (d1 + w1))) hf85 rfl rfl rfl rfl rfl rfl (fun _ _ _ h => h) (by kernel_rfl) (by kernel_rfl) (by kernel_rfl) (fun wd4 hS12 => (r_min rfl rfl)) hS12 fun ac83 hf86 => ?_
            refine any_one (i := 4) (by kernel_rfl) ?_
            refine op_val (v := .int .i64 1) hf86 rfl rfl rfl rfl rfl rfl (r_load ag_3 rfl (hI11.at 0 rfl) rfl) fun ac84 hf87 => ⟨?_, ?_⟩
            · exact Has.nil
            have hS13 : ∀ {w : World}, Has [] w := Has.nil
            refine any_val (i := 20) (v := .pointer (some ⟨b, 4, none⟩)) hf87 rfl rfl rfl rfl rfl rfl (fun _ _ _ h => h) (by kernel_rfl) (by kernel_rfl) (by kernel_rfl) (fun wd4 hS13 => (r_indexAddr (i := 1) ar_22 rfl rfl rfl (by decide) rfl)) hS13 fun ac85 hf88 => ?_
            refine any_one (i := 21) (by kernel_rfl) ?_
            refine (op_store (cs' := #[.int .i64 w0, .int .i64 w1, .int .i64 w2, .int .i64 d0, .int .i64 (if w1 < (d1 + w1) then w1 else (d1 + w1)), .int .i64 d2, .int .i64 1]) 0 hf88 rfl rfl rfl rfl rfl sz_3 hI11 rfl (ltb rfl) (by kernel_rfl) fun wd7 hI16 => ⟨?_, ?_⟩)
            · exact Has.nil
            have hI17 : Inv w [(b, #[.int .i64 w0, .int .i64 w1, .int .i64 w2, .int .i64 d0, .int .i64 (if w1 < (d1 + w1) then w1 else (d1 + w1)), .int .i64 d2, .int .i64 1], 58), (b1, #[.bool h0, .bool h1, .bool h2], 33)] wd7 := hI16
            have hS14 : ∀ {w : World}, Has [] w := Has.nil
            refine any_end (by kernel_rfl) ?_
            clear hI10 ac52 hf55 ac53 hf56 ac54 hf57 ac55 hf58 ac56 hf59 ac57 hf60 ac58 hf61 ac59 hf62 ac60 hf63 ac61 hf64 ac62 hf65 ac63 hf66 ac64 hf67 ac65 hf68 ac66 hf69 hS3 ac74 hf77 ac75 hf78 hS8 ac81 hf84 ac82 hf85 ac83 hf86 hS12 ac84 hf87 wd4 hI11 hI16 hS13 hS14
            refine block_normal ?_
            refine then_normal ?_
            have hg : good h0 h1 h2 ⟨d0, d1, d2, 0⟩ = false := (good_eq0.trans (gf (.inl (nb g21_2))))
            exact ⟨(d0, mn2 d1 w1, d2, 1), (hf88.cons 0 rfl (hf88.cons 1 rfl (hf88.cons 3 rfl (hf88.cons 4 rfl (hf88.cons 5 rfl (hf88.cons 7 rfl (hf88.cons 8 rfl (hf88.cons 9 rfl (hf88.cons 10 rfl (hf88.cons 11 rfl (hf88.cons 12 rfl (hf88.cons 13 rfl hf88.nil)))))))))))), ⟨hI17, ⟨nxt_ok (s := ⟨d0, d1, d2, 0⟩) hv hx1.1, (pickS_step (s := ⟨d0, d1, d2, 0⟩) (w0 := w0) (w1 := w1) (w2 := w2) ha hv (.inl rfl) hg).symm.trans hx1.2⟩⟩, meas_lt (s := ⟨d0, d1, d2, 0⟩) (w0 := w0) (w1 := w1) (w2 := w2) ha hv (.inl rfl) hg⟩
      · have hf89 := hf24.know 21 (u := .bool false) rfl (congrArg Value.bool g21_2)
        refine any_val (i := 8) (v := .pointer (some ⟨b, 0, none⟩)) hf89 rfl rfl rfl rfl rfl rfl (fun _ _ _ h => h) (by kernel_rfl) (by kernel_rfl) (by kernel_rfl) (fun wd3 hS1 => (r_move rfl)) hS1 fun ac86 hf90 => ?_
        refine any_val (i := 9) (v := .pointer (some ⟨b, 0, none⟩)) hf90 rfl rfl rfl rfl rfl rfl (fun _ _ _ h => h) (by kernel_rfl) (by kernel_rfl) (by kernel_rfl) (fun wd3 hS1 => (r_move rfl)) hS1 fun ac87 hf91 => ?_
        refine any_val (i := 10) (v := .pointer (some ⟨b, 0, none⟩)) hf91 rfl rfl rfl rfl rfl rfl (fun _ _ _ h => h) (by kernel_rfl) (by kernel_rfl) (by kernel_rfl) (fun wd3 hS1 => (r_nilCheck rfl)) hS1 fun ac88 hf92 => ?_
        refine any_val (i := 11) (v := .pointer (some ⟨b, 6, none⟩)) hf92 rfl rfl rfl rfl rfl rfl (fun _ _ _ h => h) (by kernel_rfl) (by kernel_rfl) (by kernel_rfl) (fun wd3 hS1 => (r_fieldAddr fi_58_2 rfl rfl)) hS1 fun ac89 hf93 => ?_
        refine any_val (i := 12) (v := .int .i64 0) hf93 rfl rfl rfl rfl rfl rfl (fun _ _ _ h => h) (by kernel_rfl) (by kernel_rfl) (by kernel_rfl) (fun wd3 hS1 => (r_load ag_3 rfl (hS1.at 0 rfl) rfl)) hS1 fun ac90 hf94 => ?_
        refine any_val (i := 13) (v := .pointer (some ⟨b, 0, none⟩)) hf94 rfl rfl rfl rfl rfl rfl (fun _ _ _ h => h) (by kernel_rfl) (by kernel_rfl) (by kernel_rfl) (fun wd3 hS1 => (r_nilCheck rfl)) hS1 fun ac91 hf95 => ?_
        refine any_val (i := 14) (v := .pointer (some ⟨b, 3, none⟩)) hf95 rfl rfl rfl rfl rfl rfl (fun _ _ _ h => h) (by kernel_rfl) (by kernel_rfl) (by kernel_rfl) (fun wd3 hS1 => (r_fieldAddr fi_58_1 rfl rfl)) hS1 fun ac92 hf96 => ?_
        refine any_val (i := 15) (v := .pointer (some ⟨b, 3, none⟩)) hf96 rfl rfl rfl rfl rfl rfl (fun _ _ _ h => h) (by kernel_rfl) (by kernel_rfl) (by kernel_rfl) (fun wd3 hS1 => (r_indexAddr (i := 0) ar_22 rfl rfl rfl (by decide) rfl)) hS1 fun ac93 hf97 => ?_
        refine any_val (i := 16) (v := .int .i64 d0) hf97 rfl rfl rfl rfl rfl rfl (fun _ _ _ h => h) (by kernel_rfl) (by kernel_rfl) (by kernel_rfl) (fun wd3 hS1 => (r_load ag_3 rfl (hS1.at 0 rfl) rfl)) hS1 fun ac94 hf98 => ?_
        refine any_val (i := 17) (v := .bool (decide (d0 ≤ 0))) hf98 rfl rfl rfl rfl rfl rfl (fun _ _ _ h => h) (by kernel_rfl) (by kernel_rfl) (by kernel_rfl) (fun wd3 hS1 => (r_leq rfl rfl)) hS1 fun ac95 hf99 => ?_
        refine any_val (i := 18) (v := .bool (decide (d0 ≤ 0))) hf99 rfl rfl rfl rfl rfl rfl (fun _ _ _ h => h) (by kernel_rfl) (by kernel_rfl) (by kernel_rfl) (fun wd3 hS1 => (r_pickF rfl rfl)) hS1 fun ac96 hf100 => ?_
        refine any_end (by kernel_rfl) ?_
        clear hI6 ac14 hf16 ac15 hf17 ac16 hf18 ac17 hf19 ac18 hf20 ac19 hf21 ac20 hf22 ac21 hf23 hf24 ac22 hf89 ac86 hf90 ac87 hf91 ac88 hf92 ac89 hf93 ac90 hf94 ac91 hf95 ac92 hf96 ac93 hf97 ac94 hf98 ac95 hf99 hS1
        refine then_normal ?_
        refine code_if hf100 rfl (fun c32_3 => ?_) (fun c32_3 => ?_)
        · have hf101 := hf100.know 32 (u := .bool true) rfl (congrArg Value.bool c32_3)
          refine wp_skip ?_
          refine then_normal ?_
          refine wp_block ?_
          refine code_seq ?_
          refine seq_start (l := [0, 1, 2, 3, 4, 5, 6, 7, 8, 9]) rfl ?_
          refine seq_one (op_val (v := .pointer (some ⟨b, 0, none⟩)) hf101 rfl rfl rfl rfl rfl rfl (r_move rfl) fun ac97 hf102 => ?_)
          refine seq_one (op_val (v := .pointer (some ⟨b, 0, none⟩)) hf102 rfl rfl rfl rfl rfl rfl (r_move rfl) fun ac98 hf103 => ?_)
          refine seq_one (op_val (v := .pointer (some ⟨b, 0, none⟩)) hf103 rfl rfl rfl rfl rfl rfl (r_nilCheck rfl) fun ac99 hf104 => ?_)
          refine seq_one (op_val (v := .pointer (some ⟨b, 6, none⟩)) hf104 rfl rfl rfl rfl rfl rfl (r_fieldAddr fi_58_2 rfl rfl) fun ac100 hf105 => ?_)
          refine seq_one (op_val (v := .int .i64 0) hf105 rfl rfl rfl rfl rfl rfl (r_load ag_3 rfl (hI7.at 0 rfl) rfl) fun ac101 hf106 => ?_)
          refine seq_one (op_val (v := .int .i64 1) hf106 rfl rfl rfl rfl rfl rfl (r_add (c := 1) rfl rfl (by rfl)) fun ac102 hf107 => ?_)
          refine seq_one (op_val (v := .int .i64 1) hf107 rfl rfl rfl rfl rfl rfl (r_rem (c := 1) rfl rfl (by decide) (by rfl)) fun ac103 hf108 => ?_)
          refine seq_one (op_val (v := .pointer (some ⟨b, 0, none⟩)) hf108 rfl rfl rfl rfl rfl rfl (r_nilCheck rfl) fun ac104 hf109 => ?_)
          refine seq_one (op_val (v := .pointer (some ⟨b, 6, none⟩)) hf109 rfl rfl rfl rfl rfl rfl (r_fieldAddr fi_58_2 rfl rfl) fun ac105 hf110 => ?_)
          refine seq_one (op_store (cs' := #[.int .i64 w0, .int .i64 w1, .int .i64 w2, .int .i64 d0, .int .i64 d1, .int .i64 d2, .int .i64 1]) 0 hf110 rfl rfl rfl rfl rfl sz_3 hI7 rfl (ltb rfl) (by kernel_rfl) fun wd8 hI18 => ?_)
          have hI19 : Inv w [(b, #[.int .i64 w0, .int .i64 w1, .int .i64 w2, .int .i64 d0, .int .i64 d1, .int .i64 d2, .int .i64 1], 58), (b1, #[.bool h0, .bool h1, .bool h2], 33)] wd8 := hI18
          refine seq_end ?_
          clear hf100 ac96 hf101 ac97 hf102 ac98 hf103 ac99 hf104 ac100 hf105 ac101 hf106 ac102 hf107 ac103 hf108 ac104 hf109 wd3 hI7 hI18
          refine then_normal ?_
          refine code_seq ?_
          refine any_start (fun w => Has [(b, #[.int .i64 w0, .int .i64 w1, .int .i64 w2, .int .i64 d0, .int .i64 d1, .int .i64 d2, .int .i64 1], 58)] w) follows (Has.drew (Has.cons (hI19.at 0 rfl) Has.nil)) ?_
          have hS15 : Has [(b, #[.int .i64 w0, .int .i64 w1, .int .i64 w2, .int .i64 d0, .int .i64 d1, .int .i64 d2, .int .i64 1], 58)] _ := Has.drew (Has.cons (hI19.at 0 rfl) Has.nil)
          have hI20 := hI19.drew
          refine any_val (i := 0) (v := .pointer (some ⟨b, 0, none⟩)) hf110 rfl rfl rfl rfl rfl rfl (fun _ _ _ h => h) (by kernel_rfl) (by kernel_rfl) (by kernel_rfl) (fun wd8 hS15 => (r_move rfl)) hS15 fun ac106 hf111 => ?_
          refine any_val (i := 1) (v := .pointer (some ⟨b, 0, none⟩)) hf111 rfl rfl rfl rfl rfl rfl (fun _ _ _ h => h) (by kernel_rfl) (by kernel_rfl) (by kernel_rfl) (fun wd8 hS15 => (r_move rfl)) hS15 fun ac107 hf112 => ?_
          refine any_val (i := 2) (v := .pointer (some ⟨b, 0, none⟩)) hf112 rfl rfl rfl rfl rfl rfl (fun _ _ _ h => h) (by kernel_rfl) (by kernel_rfl) (by kernel_rfl) (fun wd8 hS15 => (r_nilCheck rfl)) hS15 fun ac108 hf113 => ?_
          refine any_val (i := 3) (v := .pointer (some ⟨b, 6, none⟩)) hf113 rfl rfl rfl rfl rfl rfl (fun _ _ _ h => h) (by kernel_rfl) (by kernel_rfl) (by kernel_rfl) (fun wd8 hS15 => (r_fieldAddr fi_58_2 rfl rfl)) hS15 fun ac109 hf114 => ?_
          refine any_val (i := 4) (v := .int .i64 1) hf114 rfl rfl rfl rfl rfl rfl (fun _ _ _ h => h) (by kernel_rfl) (by kernel_rfl) (by kernel_rfl) (fun wd8 hS15 => (r_load ag_3 rfl (hS15.at 0 rfl) rfl)) hS15 fun ac110 hf115 => ?_
          refine any_val (i := 5) (v := .pointer (some ⟨b, 0, none⟩)) hf115 rfl rfl rfl rfl rfl rfl (fun _ _ _ h => h) (by kernel_rfl) (by kernel_rfl) (by kernel_rfl) (fun wd8 hS15 => (r_nilCheck rfl)) hS15 fun ac111 hf116 => ?_
          refine any_val (i := 6) (v := .pointer (some ⟨b, 0, none⟩)) hf116 rfl rfl rfl rfl rfl rfl (fun _ _ _ h => h) (by kernel_rfl) (by kernel_rfl) (by kernel_rfl) (fun wd8 hS15 => (r_fieldAddr fi_58_0 rfl rfl)) hS15 fun ac112 hf117 => ?_
          refine any_val (i := 7) (v := .pointer (some ⟨b, 1, none⟩)) hf117 rfl rfl rfl rfl rfl rfl (fun _ _ _ h => h) (by kernel_rfl) (by kernel_rfl) (by kernel_rfl) (fun wd8 hS15 => (r_indexAddr (i := 1) ar_22 rfl rfl rfl (by decide) rfl)) hS15 fun ac113 hf118 => ?_
          refine any_val (i := 8) (v := .int .i64 w1) hf118 rfl rfl rfl rfl rfl rfl (fun _ _ _ h => h) (by kernel_rfl) (by kernel_rfl) (by kernel_rfl) (fun wd8 hS15 => (r_load ag_3 rfl (hS15.at 0 rfl) rfl)) hS15 fun ac114 hf119 => ?_
          refine any_val (i := 9) (v := .int .i64 w1) hf119 rfl rfl rfl rfl rfl rfl (fun _ _ _ h => h) (by kernel_rfl) (by kernel_rfl) (by kernel_rfl) (fun wd8 hS15 => (r_assign rfl)) hS15 fun ac115 hf120 => ?_
          refine any_end (by kernel_rfl) ?_
          clear hI19 ac105 hf110 ac106 hf111 ac107 hf112 ac108 hf113 ac109 hf114 ac110 hf115 ac111 hf116 ac112 hf117 ac113 hf118 ac114 hf119 hS15
          refine then_normal ?_
          refine any_start (fun w => Has [] w) follows (Has.drew Has.nil) ?_
          have hS16 : ∀ {w : World}, Has [] w := Has.nil
          have hI21 := hI20.drew
          refine any_val (i := 0) (v := .pointer (some ⟨b, 0, none⟩)) hf120 rfl rfl rfl rfl rfl rfl (fun _ _ _ h => h) (by kernel_rfl) (by kernel_rfl) (by kernel_rfl) (fun wd8 hS16 => (r_move rfl)) hS16 fun ac116 hf121 => ?_
          refine any_val (i := 1) (v := .pointer (some ⟨b, 0, none⟩)) hf121 rfl rfl rfl rfl rfl rfl (fun _ _ _ h => h) (by kernel_rfl) (by kernel_rfl) (by kernel_rfl) (fun wd8 hS16 => (r_move rfl)) hS16 fun ac117 hf122 => ?_
          refine any_val (i := 2) (v := .pointer (some ⟨b, 0, none⟩)) hf122 rfl rfl rfl rfl rfl rfl (fun _ _ _ h => h) (by kernel_rfl) (by kernel_rfl) (by kernel_rfl) (fun wd8 hS16 => (r_nilCheck rfl)) hS16 fun ac118 hf123 => ?_
          refine any_val (i := 3) (v := .pointer (some ⟨b, 6, none⟩)) hf123 rfl rfl rfl rfl rfl rfl (fun _ _ _ h => h) (by kernel_rfl) (by kernel_rfl) (by kernel_rfl) (fun wd8 hS16 => (r_fieldAddr fi_58_2 rfl rfl)) hS16 fun ac119 hf124 => ?_
          refine any_val (i := 5) (v := .pointer (some ⟨b, 0, none⟩)) hf124 rfl rfl rfl rfl rfl rfl (fun _ _ _ h => h) (by kernel_rfl) (by kernel_rfl) (by kernel_rfl) (fun wd8 hS16 => (r_move rfl)) hS16 fun ac120 hf125 => ?_
          refine any_val (i := 6) (v := .pointer (some ⟨b, 0, none⟩)) hf125 rfl rfl rfl rfl rfl rfl (fun _ _ _ h => h) (by kernel_rfl) (by kernel_rfl) (by kernel_rfl) (fun wd8 hS16 => (r_move rfl)) hS16 fun ac121 hf126 => ?_
          refine any_val (i := 7) (v := .pointer (some ⟨b, 0, none⟩)) hf126 rfl rfl rfl rfl rfl rfl (fun _ _ _ h => h) (by kernel_rfl) (by kernel_rfl) (by kernel_rfl) (fun wd8 hS16 => (r_nilCheck rfl)) hS16 fun ac122 hf127 => ?_
          refine any_val (i := 8) (v := .pointer (some ⟨b, 6, none⟩)) hf127 rfl rfl rfl rfl rfl rfl (fun _ _ _ h => h) (by kernel_rfl) (by kernel_rfl) (by kernel_rfl) (fun wd8 hS16 => (r_fieldAddr fi_58_2 rfl rfl)) hS16 fun ac123 hf128 => ?_
          refine any_val (i := 10) (v := .pointer (some ⟨b, 0, none⟩)) hf128 rfl rfl rfl rfl rfl rfl (fun _ _ _ h => h) (by kernel_rfl) (by kernel_rfl) (by kernel_rfl) (fun wd8 hS16 => (r_nilCheck rfl)) hS16 fun ac124 hf129 => ?_
          refine any_val (i := 11) (v := .pointer (some ⟨b, 3, none⟩)) hf129 rfl rfl rfl rfl rfl rfl (fun _ _ _ h => h) (by kernel_rfl) (by kernel_rfl) (by kernel_rfl) (fun wd8 hS16 => (r_fieldAddr fi_58_1 rfl rfl)) hS16 fun ac125 hf130 => ?_
          refine any_val (i := 14) (v := .int .i64 w1) hf130 rfl rfl rfl rfl rfl rfl (fun _ _ _ h => h) (by kernel_rfl) (by kernel_rfl) (by kernel_rfl) (fun wd8 hS16 => (r_move rfl)) hS16 fun ac126 hf131 => ?_
          refine any_val (i := 16) (v := .int .i64 w1) hf131 rfl rfl rfl rfl rfl rfl (fun _ _ _ h => h) (by kernel_rfl) (by kernel_rfl) (by kernel_rfl) (fun wd8 hS16 => (r_move rfl)) hS16 fun ac127 hf132 => ?_
          refine any_val (i := 18) (v := .pointer (some ⟨b, 0, none⟩)) hf132 rfl rfl rfl rfl rfl rfl (fun _ _ _ h => h) (by kernel_rfl) (by kernel_rfl) (by kernel_rfl) (fun wd8 hS16 => (r_nilCheck rfl)) hS16 fun ac128 hf133 => ?_
          refine any_val (i := 19) (v := .pointer (some ⟨b, 3, none⟩)) hf133 rfl rfl rfl rfl rfl rfl (fun _ _ _ h => h) (by kernel_rfl) (by kernel_rfl) (by kernel_rfl) (fun wd8 hS16 => (r_fieldAddr fi_58_1 rfl rfl)) hS16 fun ac129 hf134 => ?_
          refine any_two (i := 4) (j := 9) (by kernel_rfl) ?_ ?_
          ·
            refine op_val (v := .int .i64 1) hf134 rfl rfl rfl rfl rfl rfl (r_load ag_3 rfl (hI21.at 0 rfl) rfl) fun ac130 hf135 => ⟨?_, ?_⟩
            · exact Has.nil
            have hS17 : ∀ {w : World}, Has [] w := Has.nil
            refine any_one (i := 9) (by kernel_rfl) ?_
            refine op_val (v := .int .i64 1) hf135 rfl rfl rfl rfl rfl rfl (r_load ag_3 rfl (hI21.at 0 rfl) rfl) fun ac131 hf136 => ⟨?_, ?_⟩
            · exact Has.nil
            have hS18 : ∀ {w : World}, Has [] w := Has.nil
            refine any_val (i := 12) (v := .pointer (some ⟨b, 4, none⟩)) hf136 rfl rfl rfl rfl rfl rfl (fun _ _ _ h => h) (by kernel_rfl) (by kernel_rfl) (by kernel_rfl) (fun wd8 hS18 => (r_indexAddr (i := 1) ar_22 rfl rfl rfl (by decide) rfl)) hS18 fun ac132 hf137 => ?_
            refine any_one (i := 13) (by kernel_rfl) ?_
            refine op_val (v := .int .i64 d1) hf137 rfl rfl rfl rfl rfl rfl (r_load ag_3 rfl (hI21.at 0 rfl) rfl) fun ac133 hf138 => ⟨?_, ?_⟩
            · exact Has.nil
            have hS19 : ∀ {w : World}, Has [] w := Has.nil
            refine any_val (i := 15) (v := .int .i64 (d1 + w1)) hf138 rfl rfl rfl rfl rfl rfl (fun _ _ _ h => h) (by kernel_rfl) (by kernel_rfl) (by kernel_rfl) (fun wd8 hS19 => (r_add (c := (d1 + w1)) rfl rfl (by have h1 := hx1.1.l1; have h2 := hx1.1.r1; have h3 := hv.r1; have h4 := hv.l1; dsimp only at h1 h2; exact wrap_i64 (by omega) (by omega)))) hS19 fun ac134 hf139 => ?_
            refine any_val (i := 17) (v := .int .i64 (if w1 < (d1 + w1) then w1 else (d1 + w1))) hf139 rfl rfl rfl rfl rfl rfl (fun _ _ _ h => h) (by kernel_rfl) (by kernel_rfl) (by kernel_rfl) (fun wd8 hS19 => (r_min rfl rfl)) hS19 fun ac135 hf140 => ?_
            refine any_val (i := 20) (v := .pointer (some ⟨b, 4, none⟩)) hf140 rfl rfl rfl rfl rfl rfl (fun _ _ _ h => h) (by kernel_rfl) (by kernel_rfl) (by kernel_rfl) (fun wd8 hS19 => (r_indexAddr (i := 1) ar_22 rfl rfl rfl (by decide) rfl)) hS19 fun ac136 hf141 => ?_
            refine any_one (i := 21) (by kernel_rfl) ?_
            refine (op_store (cs' := #[.int .i64 w0, .int .i64 w1, .int .i64 w2, .int .i64 d0, .int .i64 (if w1 < (d1 + w1) then w1 else (d1 + w1)), .int .i64 d2, .int .i64 1]) 0 hf141 rfl rfl rfl rfl rfl sz_3 hI21 rfl (ltb rfl) (by kernel_rfl) fun wd9 hI22 => ⟨?_, ?_⟩)
            · exact Has.nil
            have hI23 : Inv w [(b, #[.int .i64 w0, .int .i64 w1, .int .i64 w2, .int .i64 d0, .int .i64 (if w1 < (d1 + w1) then w1 else (d1 + w1)), .int .i64 d2, .int .i64 1], 58), (b1, #[.bool h0, .bool h1, .bool h2], 33)] wd9 := hI22
            have hS20 : ∀ {w : World}, Has [] w := Has.nil
            refine any_end (by kernel_rfl) ?_
            clear hI20 ac115 hf120 ac116 hf121 ac117 hf122 ac118 hf123 ac119 hf124 ac120 hf125 ac121 hf126 ac122 hf127 ac123 hf128 ac124 hf129 ac125 hf130 ac126 hf131 ac127 hf132 ac128 hf133 ac129 hf134 hS16 ac130 hf135 hS17 ac131 hf136 ac132 hf137 hS18 ac133 hf138 ac134 hf139 ac135 hf140 wd8 hI21 hI22 hS19 hS20
            refine block_normal ?_
            refine then_normal ?_
            have hg : good h0 h1 h2 ⟨d0, d1, d2, 0⟩ = false := (good_eq0.trans (gf (.inr (of_decide_eq_true c32_3))))
            exact ⟨(d0, mn2 d1 w1, d2, 1), (hf141.cons 0 rfl (hf141.cons 1 rfl (hf141.cons 3 rfl (hf141.cons 4 rfl (hf141.cons 5 rfl (hf141.cons 7 rfl (hf141.cons 8 rfl (hf141.cons 9 rfl (hf141.cons 10 rfl (hf141.cons 11 rfl (hf141.cons 12 rfl (hf141.cons 13 rfl hf141.nil)))))))))))), ⟨hI23, ⟨nxt_ok (s := ⟨d0, d1, d2, 0⟩) hv hx1.1, (pickS_step (s := ⟨d0, d1, d2, 0⟩) (w0 := w0) (w1 := w1) (w2 := w2) ha hv (.inl rfl) hg).symm.trans hx1.2⟩⟩, meas_lt (s := ⟨d0, d1, d2, 0⟩) (w0 := w0) (w1 := w1) (w2 := w2) ha hv (.inl rfl) hg⟩
          ·
            refine op_val (v := .int .i64 1) hf134 rfl rfl rfl rfl rfl rfl (r_load ag_3 rfl (hI21.at 0 rfl) rfl) fun ac137 hf142 => ⟨?_, ?_⟩
            · exact Has.nil
            have hS21 : ∀ {w : World}, Has [] w := Has.nil
            refine any_val (i := 12) (v := .pointer (some ⟨b, 4, none⟩)) hf142 rfl rfl rfl rfl rfl rfl (fun _ _ _ h => h) (by kernel_rfl) (by kernel_rfl) (by kernel_rfl) (fun wd8 hS21 => (r_indexAddr (i := 1) ar_22 rfl rfl rfl (by decide) rfl)) hS21 fun ac138 hf143 => ?_
            refine any_two (i := 4) (j := 13) (by kernel_rfl) ?_ ?_
            ·
              refine op_val (v := .int .i64 1) hf143 rfl rfl rfl rfl rfl rfl (r_load ag_3 rfl (hI21.at 0 rfl) rfl) fun ac139 hf144 => ⟨?_, ?_⟩
              · exact Has.nil
              have hS22 : ∀ {w : World}, Has [] w := Has.nil
              refine any_one (i := 13) (by kernel_rfl) ?_
              refine op_val (v := .int .i64 d1) hf144 rfl rfl rfl rfl rfl rfl (r_load ag_3 rfl (hI21.at 0 rfl) rfl) fun ac140 hf145 => ⟨?_, ?_⟩
              · exact Has.nil
              have hS23 : ∀ {w : World}, Has [] w := Has.nil
              refine any_val (i := 15) (v := .int .i64 (d1 + w1)) hf145 rfl rfl rfl rfl rfl rfl (fun _ _ _ h => h) (by kernel_rfl) (by kernel_rfl) (by kernel_rfl) (fun wd8 hS23 => (r_add (c := (d1 + w1)) rfl rfl (by have h1 := hx1.1.l1; have h2 := hx1.1.r1; have h3 := hv.r1; have h4 := hv.l1; dsimp only at h1 h2; exact wrap_i64 (by omega) (by omega)))) hS23 fun ac141 hf146 => ?_
              refine any_val (i := 17) (v := .int .i64 (if w1 < (d1 + w1) then w1 else (d1 + w1))) hf146 rfl rfl rfl rfl rfl rfl (fun _ _ _ h => h) (by kernel_rfl) (by kernel_rfl) (by kernel_rfl) (fun wd8 hS23 => (r_min rfl rfl)) hS23 fun ac142 hf147 => ?_
              refine any_val (i := 20) (v := .pointer (some ⟨b, 4, none⟩)) hf147 rfl rfl rfl rfl rfl rfl (fun _ _ _ h => h) (by kernel_rfl) (by kernel_rfl) (by kernel_rfl) (fun wd8 hS23 => (r_indexAddr (i := 1) ar_22 rfl rfl rfl (by decide) rfl)) hS23 fun ac143 hf148 => ?_
              refine any_one (i := 21) (by kernel_rfl) ?_
              refine (op_store (cs' := #[.int .i64 w0, .int .i64 w1, .int .i64 w2, .int .i64 d0, .int .i64 (if w1 < (d1 + w1) then w1 else (d1 + w1)), .int .i64 d2, .int .i64 1]) 0 hf148 rfl rfl rfl rfl rfl sz_3 hI21 rfl (ltb rfl) (by kernel_rfl) fun wd10 hI24 => ⟨?_, ?_⟩)
              · exact Has.nil
              have hI25 : Inv w [(b, #[.int .i64 w0, .int .i64 w1, .int .i64 w2, .int .i64 d0, .int .i64 (if w1 < (d1 + w1) then w1 else (d1 + w1)), .int .i64 d2, .int .i64 1], 58), (b1, #[.bool h0, .bool h1, .bool h2], 33)] wd10 := hI24
              have hS24 : ∀ {w : World}, Has [] w := Has.nil
              refine any_end (by kernel_rfl) ?_
              clear hI20 ac115 hf120 ac116 hf121 ac117 hf122 ac118 hf123 ac119 hf124 ac120 hf125 ac121 hf126 ac122 hf127 ac123 hf128 ac124 hf129 ac125 hf130 ac126 hf131 ac127 hf132 ac128 hf133 ac129 hf134 hS16 ac137 hf142 ac138 hf143 hS21 ac139 hf144 hS22 ac140 hf145 ac141 hf146 ac142 hf147 wd8 hI21 hI24 hS23 hS24
              refine block_normal ?_
              refine then_normal ?_
              have hg : good h0 h1 h2 ⟨d0, d1, d2, 0⟩ = false := (good_eq0.trans (gf (.inr (of_decide_eq_true c32_3))))
              exact ⟨(d0, mn2 d1 w1, d2, 1), (hf148.cons 0 rfl (hf148.cons 1 rfl (hf148.cons 3 rfl (hf148.cons 4 rfl (hf148.cons 5 rfl (hf148.cons 7 rfl (hf148.cons 8 rfl (hf148.cons 9 rfl (hf148.cons 10 rfl (hf148.cons 11 rfl (hf148.cons 12 rfl (hf148.cons 13 rfl hf148.nil)))))))))))), ⟨hI25, ⟨nxt_ok (s := ⟨d0, d1, d2, 0⟩) hv hx1.1, (pickS_step (s := ⟨d0, d1, d2, 0⟩) (w0 := w0) (w1 := w1) (w2 := w2) ha hv (.inl rfl) hg).symm.trans hx1.2⟩⟩, meas_lt (s := ⟨d0, d1, d2, 0⟩) (w0 := w0) (w1 := w1) (w2 := w2) ha hv (.inl rfl) hg⟩
            ·
              refine op_val (v := .int .i64 d1) hf143 rfl rfl rfl rfl rfl rfl (r_load ag_3 rfl (hI21.at 0 rfl) rfl) fun ac144 hf149 => ⟨?_, ?_⟩
              · exact Has.nil
              have hS25 : ∀ {w : World}, Has [] w := Has.nil
              refine any_val (i := 15) (v := .int .i64 (d1 + w1)) hf149 rfl rfl rfl rfl rfl rfl (fun _ _ _ h => h) (by kernel_rfl) (by kernel_rfl) (by kernel_rfl) (fun wd8 hS25 => (r_add (c := (d1 + w1)) rfl rfl (by have h1 := hx1.1.l1; have h2 := hx1.1.r1; have h3 := hv.r1; have h4 := hv.l1; dsimp only at h1 h2; exact wrap_i64 (by omega) (by omega)))) hS25 fun ac145 hf150 => ?_
              refine any_val (i := 17) (v := .int .i64 (if w1 < (d1 + w1) then w1 else (d1 + w1))) hf150 rfl rfl rfl rfl rfl rfl (fun _ _ _ h => h) (by kernel_rfl) (by kernel_rfl) (by kernel_rfl) (fun wd8 hS25 => (r_min rfl rfl)) hS25 fun ac146 hf151 => ?_
              refine any_one (i := 4) (by kernel_rfl) ?_
              refine op_val (v := .int .i64 1) hf151 rfl rfl rfl rfl rfl rfl (r_load ag_3 rfl (hI21.at 0 rfl) rfl) fun ac147 hf152 => ⟨?_, ?_⟩
              · exact Has.nil
              have hS26 : ∀ {w : World}, Has [] w := Has.nil
              refine any_val (i := 20) (v := .pointer (some ⟨b, 4, none⟩)) hf152 rfl rfl rfl rfl rfl rfl (fun _ _ _ h => h) (by kernel_rfl) (by kernel_rfl) (by kernel_rfl) (fun wd8 hS26 => (r_indexAddr (i := 1) ar_22 rfl rfl rfl (by decide) rfl)) hS26 fun ac148 hf153 => ?_
              refine any_one (i := 21) (by kernel_rfl) ?_
              refine (op_store (cs' := #[.int .i64 w0, .int .i64 w1, .int .i64 w2, .int .i64 d0, .int .i64 (if w1 < (d1 + w1) then w1 else (d1 + w1)), .int .i64 d2, .int .i64 1]) 0 hf153 rfl rfl rfl rfl rfl sz_3 hI21 rfl (ltb rfl) (by kernel_rfl) fun wd11 hI26 => ⟨?_, ?_⟩)
              · exact Has.nil
              have hI27 : Inv w [(b, #[.int .i64 w0, .int .i64 w1, .int .i64 w2, .int .i64 d0, .int .i64 (if w1 < (d1 + w1) then w1 else (d1 + w1)), .int .i64 d2, .int .i64 1], 58), (b1, #[.bool h0, .bool h1, .bool h2], 33)] wd11 := hI26
              have hS27 : ∀ {w : World}, Has [] w := Has.nil
              refine any_end (by kernel_rfl) ?_
              clear hI20 ac115 hf120 ac116 hf121 ac117 hf122 ac118 hf123 ac119 hf124 ac120 hf125 ac121 hf126 ac122 hf127 ac123 hf128 ac124 hf129 ac125 hf130 ac126 hf131 ac127 hf132 ac128 hf133 ac129 hf134 hS16 ac137 hf142 ac138 hf143 hS21 ac144 hf149 ac145 hf150 ac146 hf151 hS25 ac147 hf152 wd8 hI21 hI26 hS26 hS27
              refine block_normal ?_
              refine then_normal ?_
              have hg : good h0 h1 h2 ⟨d0, d1, d2, 0⟩ = false := (good_eq0.trans (gf (.inr (of_decide_eq_true c32_3))))
              exact ⟨(d0, mn2 d1 w1, d2, 1), (hf153.cons 0 rfl (hf153.cons 1 rfl (hf153.cons 3 rfl (hf153.cons 4 rfl (hf153.cons 5 rfl (hf153.cons 7 rfl (hf153.cons 8 rfl (hf153.cons 9 rfl (hf153.cons 10 rfl (hf153.cons 11 rfl (hf153.cons 12 rfl (hf153.cons 13 rfl hf153.nil)))))))))))), ⟨hI27, ⟨nxt_ok (s := ⟨d0, d1, d2, 0⟩) hv hx1.1, (pickS_step (s := ⟨d0, d1, d2, 0⟩) (w0 := w0) (w1 := w1) (w2 := w2) ha hv (.inl rfl) hg).symm.trans hx1.2⟩⟩, meas_lt (s := ⟨d0, d1, d2, 0⟩) (w0 := w0) (w1 := w1) (w2 := w2) ha hv (.inl rfl) hg⟩
        · have hf154 := hf100.know 32 (u := .bool false) rfl (congrArg Value.bool c32_3)
          refine wp_exit ?_
          refine then_exit ?_
          refine then_exit ?_
          refine block_here ?_
          refine then_normal ?_
          refine code_seq ?_
          refine seq_start (l := [0, 1, 2, 3, 4, 5]) rfl ?_
          refine seq_one (op_val (v := .pointer (some ⟨b, 0, none⟩)) hf154 rfl rfl rfl rfl rfl rfl (r_move rfl) fun ac149 hf155 => ?_)
          refine seq_one (op_val (v := .pointer (some ⟨b, 0, none⟩)) hf155 rfl rfl rfl rfl rfl rfl (r_nilCheck rfl) fun ac150 hf156 => ?_)
          refine seq_one (op_val (v := .pointer (some ⟨b, 6, none⟩)) hf156 rfl rfl rfl rfl rfl rfl (r_fieldAddr fi_58_2 rfl rfl) fun ac151 hf157 => ?_)
          refine seq_one (op_val (v := .int .i64 0) hf157 rfl rfl rfl rfl rfl rfl (r_load ag_3 rfl (hI7.at 0 rfl) rfl) fun ac152 hf158 => ?_)
          refine seq_one (op_val (v := .int .i64 0) hf158 rfl rfl rfl rfl rfl rfl (r_assign rfl) fun ac153 hf159 => ?_)
          refine seq_one (op_val (v := .bool true) hf159 rfl rfl rfl rfl rfl rfl (r_assign rfl) fun ac154 hf160 => ?_)
          refine seq_end ?_
          clear hf100 ac96 hf154 ac149 hf155 ac150 hf156 ac151 hf157 ac152 hf158 ac153 hf159
          refine then_normal ?_
          refine wp_ret ?_
          refine post2 rfl hf160 rfl rfl ?_
          have hI28 : Inv w [(b, #[.int .i64 w0, .int .i64 w1, .int .i64 w2, .int .i64 d0, .int .i64 d1, .int .i64 d2, .int .i64 0], 58)] _ := (Inv.drop (A := [(b, #[.int .i64 w0, .int .i64 w1, .int .i64 w2, .int .i64 d0, .int .i64 d1, .int .i64 d2, .int .i64 0], 58)]) (B := [(b1, #[.bool h0, .bool h1, .bool h2], 33)]) hI7 (fresh_keys (ks := [b1]) rfl (fk_cons hb1 fk_nil)))
          have hg : good h0 h1 h2 ⟨d0, d1, d2, 0⟩ = true := good_eq0.trans (gt (nb' g21_2) (Int.not_le.1 (of_decide_eq_false c32_3)))
          have e1 := hx1.2.symm.trans (pickS_good (w0 := w0) (w1 := w1) (w2 := w2) ha hg)
          rw [pickN_some ha, ha, e1]
          exact ⟨rfl, hI28⟩
    ·
      refine code_seq ?_
      refine code_seq ?_
      refine any_start (fun w => Has [(b, #[.int .i64 w0, .int .i64 w1, .int .i64 w2, .int .i64 d0, .int .i64 d1, .int .i64 d2, .int .i64 1], 58), (b1, #[.bool h0, .bool h1, .bool h2], 33)] w) follows (Has.drew (Has.cons (hI6.at 0 rfl) (Has.cons (hI6.at 1 rfl) Has.nil))) ?_
      have hS28 : Has [(b, #[.int .i64 w0, .int .i64 w1, .int .i64 w2, .int .i64 d0, .int .i64 d1, .int .i64 d2, .int .i64 1], 58), (b1, #[.bool h0, .bool h1, .bool h2], 33)] _ := Has.drew (Has.cons (hI6.at 0 rfl) (Has.cons (hI6.at 1 rfl) Has.nil))
      have hI29 := hI6.drew
      refine any_val (i := 0) (v := .pointer (some ⟨b, 0, none⟩)) hf16 rfl rfl rfl rfl rfl rfl (fun _ _ _ h => h) (by kernel_rfl) (by kernel_rfl) (by kernel_rfl) (fun wd3 hS28 => (r_move rfl)) hS28 fun ac155 hf161 => ?_
      refine any_val (i := 1) (v := .pointer (some ⟨b, 0, none⟩)) hf161 rfl rfl rfl rfl rfl rfl (fun _ _ _ h => h) (by kernel_rfl) (by kernel_rfl) (by kernel_rfl) (fun wd3 hS28 => (r_nilCheck rfl)) hS28 fun ac156 hf162 => ?_
      refine any_val (i := 2) (v := .pointer (some ⟨b, 6, none⟩)) hf162 rfl rfl rfl rfl rfl rfl (fun _ _ _ h => h) (by kernel_rfl) (by kernel_rfl) (by kernel_rfl) (fun wd3 hS28 => (r_fieldAddr fi_58_2 rfl rfl)) hS28 fun ac157 hf163 => ?_
      refine any_val (i := 3) (v := .int .i64 1) hf163 rfl rfl rfl rfl rfl rfl (fun _ _ _ h => h) (by kernel_rfl) (by kernel_rfl) (by kernel_rfl) (fun wd3 hS28 => (r_load ag_3 rfl (hS28.at 0 rfl) rfl)) hS28 fun ac158 hf164 => ?_
      refine any_val (i := 4) (v := .pointer (some ⟨b1, 1, none⟩)) hf164 rfl rfl rfl rfl rfl rfl (fun _ _ _ h => h) (by kernel_rfl) (by kernel_rfl) (by kernel_rfl) (fun wd3 hS28 => (r_indexAddr (i := 1) ar_33 rfl rfl rfl (by decide) rfl)) hS28 fun ac159 hf165 => ?_
      refine any_val (i := 5) (v := .bool h1) hf165 rfl rfl rfl rfl rfl rfl (fun _ _ _ h => h) (by kernel_rfl) (by kernel_rfl) (by kernel_rfl) (fun wd3 hS28 => (r_load ag_4 rfl (hS28.at 1 rfl) rfl)) hS28 fun ac160 hf166 => ?_
      refine any_val (i := 6) (v := .bool (!h1)) hf166 rfl rfl rfl rfl rfl rfl (fun _ _ _ h => h) (by kernel_rfl) (by kernel_rfl) (by kernel_rfl) (fun wd3 hS28 => (r_not rfl)) hS28 fun ac161 hf167 => ?_
      refine any_val (i := 7) (v := .bool (!h1)) hf167 rfl rfl rfl rfl rfl rfl (fun _ _ _ h => h) (by kernel_rfl) (by kernel_rfl) (by kernel_rfl) (fun wd3 hS28 => (r_move rfl)) hS28 fun ac162 hf168 => ?_
      rcases Bool.eq_false_or_eq_true (!h1 : Bool) with g21_4 | g21_4
      · have hf169 := hf168.know 21 (u := .bool true) rfl (congrArg Value.bool g21_4)
        refine any_skip (i := 8) hf169 rfl rfl rfl rfl (fun _ _ _ h => h) (by kernel_rfl) (by kernel_rfl) (by kernel_rfl) hS28 fun ac163 hf170 => ?_
        refine any_skip (i := 9) hf170 rfl rfl rfl rfl (fun _ _ _ h => h) (by kernel_rfl) (by kernel_rfl) (by kernel_rfl) hS28 fun ac164 hf171 => ?_
        refine any_skip (i := 10) hf171 rfl rfl rfl rfl (fun _ _ _ h => h) (by kernel_rfl) (by kernel_rfl) (by kernel_rfl) hS28 fun ac165 hf172 => ?_
        refine any_skip (i := 11) hf172 rfl rfl rfl rfl (fun _ _ _ h => h) (by kernel_rfl) (by kernel_rfl) (by kernel_rfl) hS28 fun ac166 hf173 => ?_
        refine any_skip (i := 12) hf173 rfl rfl rfl rfl (fun _ _ _ h => h) (by kernel_rfl) (by kernel_rfl) (by kernel_rfl) hS28 fun ac167 hf174 => ?_
        refine any_skip (i := 13) hf174 rfl rfl rfl rfl (fun _ _ _ h => h) (by kernel_rfl) (by kernel_rfl) (by kernel_rfl) hS28 fun ac168 hf175 => ?_
        refine any_skip (i := 14) hf175 rfl rfl rfl rfl (fun _ _ _ h => h) (by kernel_rfl) (by kernel_rfl) (by kernel_rfl) hS28 fun ac169 hf176 => ?_
        refine any_skip (i := 15) hf176 rfl rfl rfl rfl (fun _ _ _ h => h) (by kernel_rfl) (by kernel_rfl) (by kernel_rfl) hS28 fun ac170 hf177 => ?_
        refine any_skip (i := 16) hf177 rfl rfl rfl rfl (fun _ _ _ h => h) (by kernel_rfl) (by kernel_rfl) (by kernel_rfl) hS28 fun ac171 hf178 => ?_
        refine any_skip (i := 17) hf178 rfl rfl rfl rfl (fun _ _ _ h => h) (by kernel_rfl) (by kernel_rfl) (by kernel_rfl) hS28 fun ac172 hf179 => ?_
        refine any_val (i := 18) (v := .bool true) hf179 rfl rfl rfl rfl rfl rfl (fun _ _ _ h => h) (by kernel_rfl) (by kernel_rfl) (by kernel_rfl) (fun wd3 hS28 => (r_pickT rfl rfl)) hS28 fun ac173 hf180 => ?_
        refine any_end (by kernel_rfl) ?_
        clear hI6 ac14 hf16 ac155 hf161 ac156 hf162 ac157 hf163 ac158 hf164 ac159 hf165 ac160 hf166 ac161 hf167 hf168 ac162 hf169 ac163 hf170 ac164 hf171 ac165 hf172 ac166 hf173 ac167 hf174 ac168 hf175 ac169 hf176 ac170 hf177 ac171 hf178 ac172 hf179 hS28
        refine then_normal ?_
        refine code_if_true hf180 rfl ?_
        refine wp_skip ?_
        refine then_normal ?_
        refine wp_block ?_
        refine code_seq ?_
        refine seq_start (l := [0, 1, 2, 3, 4, 5, 6, 7, 8, 9]) rfl ?_
        refine seq_one (op_val (v := .pointer (some ⟨b, 0, none⟩)) hf180 rfl rfl rfl rfl rfl rfl (r_move rfl) fun ac174 hf181 => ?_)
        refine seq_one (op_val (v := .pointer (some ⟨b, 0, none⟩)) hf181 rfl rfl rfl rfl rfl rfl (r_move rfl) fun ac175 hf182 => ?_)
        refine seq_one (op_val (v := .pointer (some ⟨b, 0, none⟩)) hf182 rfl rfl rfl rfl rfl rfl (r_nilCheck rfl) fun ac176 hf183 => ?_)
        refine seq_one (op_val (v := .pointer (some ⟨b, 6, none⟩)) hf183 rfl rfl rfl rfl rfl rfl (r_fieldAddr fi_58_2 rfl rfl) fun ac177 hf184 => ?_)
        refine seq_one (op_val (v := .int .i64 1) hf184 rfl rfl rfl rfl rfl rfl (r_load ag_3 rfl (hI29.at 0 rfl) rfl) fun ac178 hf185 => ?_)
        refine seq_one (op_val (v := .int .i64 2) hf185 rfl rfl rfl rfl rfl rfl (r_add (c := 2) rfl rfl (by rfl)) fun ac179 hf186 => ?_)
        refine seq_one (op_val (v := .int .i64 2) hf186 rfl rfl rfl rfl rfl rfl (r_rem (c := 2) rfl rfl (by decide) (by rfl)) fun ac180 hf187 => ?_)
        refine seq_one (op_val (v := .pointer (some ⟨b, 0, none⟩)) hf187 rfl rfl rfl rfl rfl rfl (r_nilCheck rfl) fun ac181 hf188 => ?_)
        refine seq_one (op_val (v := .pointer (some ⟨b, 6, none⟩)) hf188 rfl rfl rfl rfl rfl rfl (r_fieldAddr fi_58_2 rfl rfl) fun ac182 hf189 => ?_)
        refine seq_one (op_store (cs' := #[.int .i64 w0, .int .i64 w1, .int .i64 w2, .int .i64 d0, .int .i64 d1, .int .i64 d2, .int .i64 2]) 0 hf189 rfl rfl rfl rfl rfl sz_3 hI29 rfl (ltb rfl) (by kernel_rfl) fun wd12 hI30 => ?_)
        have hI31 : Inv w [(b, #[.int .i64 w0, .int .i64 w1, .int .i64 w2, .int .i64 d0, .int .i64 d1, .int .i64 d2, .int .i64 2], 58), (b1, #[.bool h0, .bool h1, .bool h2], 33)] wd12 := hI30
        refine seq_end ?_
        clear ac173 hf180 ac174 hf181 ac175 hf182 ac176 hf183 ac177 hf184 ac178 hf185 ac179 hf186 ac180 hf187 ac181 hf188 wd3 hI29 hI30
        refine then_normal ?_
        refine code_seq ?_
        refine any_start (fun w => Has [(b, #[.int .i64 w0, .int .i64 w1, .int .i64 w2, .int .i64 d0, .int .i64 d1, .int .i64 d2, .int .i64 2], 58)] w) follows (Has.drew (Has.cons (hI31.at 0 rfl) Has.nil)) ?_
        have hS29 : Has [(b, #[.int .i64 w0, .int .i64 w1, .int .i64 w2, .int .i64 d0, .int .i64 d1, .int .i64 d2, .int .i64 2], 58)] _ := Has.drew (Has.cons (hI31.at 0 rfl) Has.nil)
        have hI32 := hI31.drew
        refine any_val (i := 0) (v := .pointer (some ⟨b, 0, none⟩)) hf189 rfl rfl rfl rfl rfl rfl (fun _ _ _ h => h) (by kernel_rfl) (by kernel_rfl) (by kernel_rfl) (fun wd12 hS29 => (r_move rfl)) hS29 fun ac183 hf190 => ?_
        refine any_val (i := 1) (v := .pointer (some ⟨b, 0, none⟩)) hf190 rfl rfl rfl rfl rfl rfl (fun _ _ _ h => h) (by kernel_rfl) (by kernel_rfl) (by kernel_rfl) (fun wd12 hS29 => (r_move rfl)) hS29 fun ac184 hf191 => ?_
        refine any_val (i := 2) (v := .pointer (some ⟨b, 0, none⟩)) hf191 rfl rfl rfl rfl rfl rfl (fun _ _ _ h => h) (by kernel_rfl) (by kernel_rfl) (by kernel_rfl) (fun wd12 hS29 => (r_nilCheck rfl)) hS29 fun ac185 hf192 => ?_
        refine any_val (i := 3) (v := .pointer (some ⟨b, 6, none⟩)) hf192 rfl rfl rfl rfl rfl rfl (fun _ _ _ h => h) (by kernel_rfl) (by kernel_rfl) (by kernel_rfl) (fun wd12 hS29 => (r_fieldAddr fi_58_2 rfl rfl)) hS29 fun ac186 hf193 => ?_
        refine any_val (i := 4) (v := .int .i64 2) hf193 rfl rfl rfl rfl rfl rfl (fun _ _ _ h => h) (by kernel_rfl) (by kernel_rfl) (by kernel_rfl) (fun wd12 hS29 => (r_load ag_3 rfl (hS29.at 0 rfl) rfl)) hS29 fun ac187 hf194 => ?_
        refine any_val (i := 5) (v := .pointer (some ⟨b, 0, none⟩)) hf194 rfl rfl rfl rfl rfl rfl (fun _ _ _ h => h) (by kernel_rfl) (by kernel_rfl) (by kernel_rfl) (fun wd12 hS29 => (r_nilCheck rfl)) hS29 fun ac188 hf195 => ?_
        refine any_val (i := 6) (v := .pointer (some ⟨b, 0, none⟩)) hf195 rfl rfl rfl rfl rfl rfl (fun _ _ _ h => h) (by kernel_rfl) (by kernel_rfl) (by kernel_rfl) (fun wd12 hS29 => (r_fieldAddr fi_58_0 rfl rfl)) hS29 fun ac189 hf196 => ?_
        refine any_val (i := 7) (v := .pointer (some ⟨b, 2, none⟩)) hf196 rfl rfl rfl rfl rfl rfl (fun _ _ _ h => h) (by kernel_rfl) (by kernel_rfl) (by kernel_rfl) (fun wd12 hS29 => (r_indexAddr (i := 2) ar_22 rfl rfl rfl (by decide) rfl)) hS29 fun ac190 hf197 => ?_
        refine any_val (i := 8) (v := .int .i64 w2) hf197 rfl rfl rfl rfl rfl rfl (fun _ _ _ h => h) (by kernel_rfl) (by kernel_rfl) (by kernel_rfl) (fun wd12 hS29 => (r_load ag_3 rfl (hS29.at 0 rfl) rfl)) hS29 fun ac191 hf198 => ?_
        refine any_val (i := 9) (v := .int .i64 w2) hf198 rfl rfl rfl rfl rfl rfl (fun _ _ _ h => h) (by kernel_rfl) (by kernel_rfl) (by kernel_rfl) (fun wd12 hS29 => (r_assign rfl)) hS29 fun ac192 hf199 => ?_
        refine any_end (by kernel_rfl) ?_
        clear hI31 ac182 hf189 ac183 hf190 ac184 hf191 ac185 hf192 ac186 hf193 ac187 hf194 ac188 hf195 ac189 hf196 ac190 hf197 ac191 hf198 hS29
        refine then_normal ?_
        refine any_start (fun w => Has [] w) follows (Has.drew Has.nil) ?_
        have hS30 : ∀ {w : World}, Has [] w := Has.nil
        have hI33 := hI32.drew
        refine any_val (i := 0) (v := .pointer (some ⟨b, 0, none⟩)) hf199 rfl rfl rfl rfl rfl rfl (fun _ _ _ h => h) (by kernel_rfl) (by kernel_rfl) (by kernel_rfl) (fun wd12 hS30 => (r_move rfl)) hS30 fun ac193 hf200 => ?_
        refine any_val (i := 1) (v := .pointer (some ⟨b, 0, none⟩)) hf200 rfl rfl rfl rfl rfl rfl (fun _ _ _ h => h) (by kernel_rfl) (by kernel_rfl) (by kernel_rfl) (fun wd12 hS30 => (r_move rfl)) hS30 fun ac194 hf201 => ?_
        refine any_val (i := 2) (v := .pointer (some ⟨b, 0, none⟩)) hf201 rfl rfl rfl rfl rfl rfl (fun _ _ _ h => h) (by kernel_rfl) (by kernel_rfl) (by kernel_rfl) (fun wd12 hS30 => (r_nilCheck rfl)) hS30 fun ac195 hf202 => ?_
        refine any_val (i := 3) (v := .pointer (some ⟨b, 6, none⟩)) hf202 rfl rfl rfl rfl rfl rfl (fun _ _ _ h => h) (by kernel_rfl) (by kernel_rfl) (by kernel_rfl) (fun wd12 hS30 => (r_fieldAddr fi_58_2 rfl rfl)) hS30 fun ac196 hf203 => ?_
        refine any_val (i := 5) (v := .pointer (some ⟨b, 0, none⟩)) hf203 rfl rfl rfl rfl rfl rfl (fun _ _ _ h => h) (by kernel_rfl) (by kernel_rfl) (by kernel_rfl) (fun wd12 hS30 => (r_move rfl)) hS30 fun ac197 hf204 => ?_
        refine any_val (i := 6) (v := .pointer (some ⟨b, 0, none⟩)) hf204 rfl rfl rfl rfl rfl rfl (fun _ _ _ h => h) (by kernel_rfl) (by kernel_rfl) (by kernel_rfl) (fun wd12 hS30 => (r_move rfl)) hS30 fun ac198 hf205 => ?_
        refine any_val (i := 7) (v := .pointer (some ⟨b, 0, none⟩)) hf205 rfl rfl rfl rfl rfl rfl (fun _ _ _ h => h) (by kernel_rfl) (by kernel_rfl) (by kernel_rfl) (fun wd12 hS30 => (r_nilCheck rfl)) hS30 fun ac199 hf206 => ?_
        refine any_val (i := 8) (v := .pointer (some ⟨b, 6, none⟩)) hf206 rfl rfl rfl rfl rfl rfl (fun _ _ _ h => h) (by kernel_rfl) (by kernel_rfl) (by kernel_rfl) (fun wd12 hS30 => (r_fieldAddr fi_58_2 rfl rfl)) hS30 fun ac200 hf207 => ?_
        refine any_val (i := 10) (v := .pointer (some ⟨b, 0, none⟩)) hf207 rfl rfl rfl rfl rfl rfl (fun _ _ _ h => h) (by kernel_rfl) (by kernel_rfl) (by kernel_rfl) (fun wd12 hS30 => (r_nilCheck rfl)) hS30 fun ac201 hf208 => ?_
        refine any_val (i := 11) (v := .pointer (some ⟨b, 3, none⟩)) hf208 rfl rfl rfl rfl rfl rfl (fun _ _ _ h => h) (by kernel_rfl) (by kernel_rfl) (by kernel_rfl) (fun wd12 hS30 => (r_fieldAddr fi_58_1 rfl rfl)) hS30 fun ac202 hf209 => ?_
        refine any_val (i := 14) (v := .int .i64 w2) hf209 rfl rfl rfl rfl rfl rfl (fun _ _ _ h => h) (by kernel_rfl) (by kernel_rfl) (by kernel_rfl) (fun wd12 hS30 => (r_move rfl)) hS30 fun ac203 hf210 => ?_
        refine any_val (i := 16) (v := .int .i64 w2) hf210 rfl rfl rfl rfl rfl rfl (fun _ _ _ h => h) (by kernel_rfl) (by kernel_rfl) (by kernel_rfl) (fun wd12 hS30 => (r_move rfl)) hS30 fun ac204 hf211 => ?_
        refine any_val (i := 18) (v := .pointer (some ⟨b, 0, none⟩)) hf211 rfl rfl rfl rfl rfl rfl (fun _ _ _ h => h) (by kernel_rfl) (by kernel_rfl) (by kernel_rfl) (fun wd12 hS30 => (r_nilCheck rfl)) hS30 fun ac205 hf212 => ?_
        refine any_val (i := 19) (v := .pointer (some ⟨b, 3, none⟩)) hf212 rfl rfl rfl rfl rfl rfl (fun _ _ _ h => h) (by kernel_rfl) (by kernel_rfl) (by kernel_rfl) (fun wd12 hS30 => (r_fieldAddr fi_58_1 rfl rfl)) hS30 fun ac206 hf213 => ?_
        refine any_two (i := 4) (j := 9) (by kernel_rfl) ?_ ?_
        ·
          refine op_val (v := .int .i64 2) hf213 rfl rfl rfl rfl rfl rfl (r_load ag_3 rfl (hI33.at 0 rfl) rfl) fun ac207 hf214 => ⟨?_, ?_⟩
          · exact Has.nil
          have hS31 : ∀ {w : World}, Has [] w := Has.nil
          refine any_one (i := 9) (by kernel_rfl) ?_
          refine op_val (v := .int .i64 2) hf214 rfl rfl rfl rfl rfl rfl (r_load ag_3 rfl (hI33.at 0 rfl) rfl) fun ac208 hf215 => ⟨?_, ?_⟩
          · exact Has.nil
          have hS32 : ∀ {w : World}, Has [] w := Has.nil
          refine any_val (i := 12) (v := .pointer (some ⟨b, 5, none⟩)) hf215 rfl rfl rfl rfl rfl rfl (fun _ _ _ h => h) (by kernel_rfl) (by kernel_rfl) (by kernel_rfl) (fun wd12 hS32 => (r_indexAddr (i := 2) ar_22 rfl rfl rfl (by decide) rfl)) hS32 fun ac209 hf216 => ?_
          refine any_one (i := 13) (by kernel_rfl) ?_
          refine op_val (v := .int .i64 d2) hf216 rfl rfl rfl rfl rfl rfl (r_load ag_3 rfl (hI33.at 0 rfl) rfl) fun ac210 hf217 => ⟨?_, ?_⟩
          · exact Has.nil
          have hS33 : ∀ {w : World}, Has [] w := Has.nil
          refine any_val (i := 15) (v := .int .i64 (d2 + w2)) hf217 rfl rfl rfl rfl rfl rfl (fun _ _ _ h => h) (by kernel_rfl) (by kernel_rfl) (by kernel_rfl) (fun wd12 hS33 => (r_add (c := (d2 + w2)) rfl rfl (by have h1 := hx1.1.l2; have h2 := hx1.1.r2; have h3 := hv.r2; have h4 := hv.l2; dsimp only at h1 h2; exact wrap_i64 (by omega) (by omega)))) hS33 fun ac211 hf218 => ?_
          refine any_val (i := 17) (v := .int .i64 (if w2 < (d2 + w2) then w2 else (d2 + w2))) hf218 rfl rfl rfl rfl rfl rfl (fun _ _ _ h => h) (by kernel_rfl) (by kernel_rfl) (by kernel_rfl) (fun wd12 hS33 => (r_min rfl rfl)) hS33 fun ac212 hf219 => ?_
          refine any_val (i := 20) (v := .pointer (some ⟨b, 5, none⟩)) hf219 rfl rfl rfl rfl rfl rfl (fun _ _ _ h => h) (by kernel_rfl) (by kernel_rfl) (by kernel_rfl) (fun wd12 hS33 => (r_indexAddr (i := 2) ar_22 rfl rfl rfl (by decide) rfl)) hS33 fun ac213 hf220 => ?_
          refine any_one (i := 21) (by kernel_rfl) ?_
          refine (op_store (cs' := #[.int .i64 w0, .int .i64 w1, .int .i64 w2, .int .i64 d0, .int .i64 d1, .int .i64 (if w2 < (d2 + w2) then w2 else (d2 + w2)), .int .i64 2]) 0 hf220 rfl rfl rfl rfl rfl sz_3 hI33 rfl (ltb rfl) (by kernel_rfl) fun wd13 hI34 => ⟨?_, ?_⟩)
          · exact Has.nil
          have hI35 : Inv w [(b, #[.int .i64 w0, .int .i64 w1, .int .i64 w2, .int .i64 d0, .int .i64 d1, .int .i64 (if w2 < (d2 + w2) then w2 else (d2 + w2)), .int .i64 2], 58), (b1, #[.bool h0, .bool h1, .bool h2], 33)] wd13 := hI34
          have hS34 : ∀ {w : World}, Has [] w := Has.nil
          refine any_end (by kernel_rfl) ?_
          clear hI32 ac192 hf199 ac193 hf200 ac194 hf201 ac195 hf202 ac196 hf203 ac197 hf204 ac198 hf205 ac199 hf206 ac200 hf207 ac201 hf208 ac202 hf209 ac203 hf210 ac204 hf211 ac205 hf212 ac206 hf213 hS30 ac207 hf214 hS31 ac208 hf215 ac209 hf216 hS32 ac210 hf217 ac211 hf218 ac212 hf219 wd12 hI33 hI34 hS33 hS34
          refine block_normal ?_
          refine then_normal ?_
          have hg : good h0 h1 h2 ⟨d0, d1, d2, 1⟩ = false := (good_eq1.trans (gf (.inl (nb g21_4))))
          exact ⟨(d0, d1, mn2 d2 w2, 2), (hf220.cons 0 rfl (hf220.cons 1 rfl (hf220.cons 3 rfl (hf220.cons 4 rfl (hf220.cons 5 rfl (hf220.cons 7 rfl (hf220.cons 8 rfl (hf220.cons 9 rfl (hf220.cons 10 rfl (hf220.cons 11 rfl (hf220.cons 12 rfl (hf220.cons 13 rfl hf220.nil)))))))))))), ⟨hI35, ⟨nxt_ok (s := ⟨d0, d1, d2, 1⟩) hv hx1.1, (pickS_step (s := ⟨d0, d1, d2, 1⟩) (w0 := w0) (w1 := w1) (w2 := w2) ha hv (.inr (.inl rfl)) hg).symm.trans hx1.2⟩⟩, meas_lt (s := ⟨d0, d1, d2, 1⟩) (w0 := w0) (w1 := w1) (w2 := w2) ha hv (.inr (.inl rfl)) hg⟩
        ·
          refine op_val (v := .int .i64 2) hf213 rfl rfl rfl rfl rfl rfl (r_load ag_3 rfl (hI33.at 0 rfl) rfl) fun ac214 hf221 => ⟨?_, ?_⟩
          · exact Has.nil
          have hS35 : ∀ {w : World}, Has [] w := Has.nil
          refine any_val (i := 12) (v := .pointer (some ⟨b, 5, none⟩)) hf221 rfl rfl rfl rfl rfl rfl (fun _ _ _ h => h) (by kernel_rfl) (by kernel_rfl) (by kernel_rfl) (fun wd12 hS35 => (r_indexAddr (i := 2) ar_22 rfl rfl rfl (by decide) rfl)) hS35 fun ac215 hf222 => ?_
          refine any_two (i := 4) (j := 13) (by kernel_rfl) ?_ ?_
          ·
            refine op_val (v := .int .i64 2) hf222 rfl rfl rfl rfl rfl rfl (r_load ag_3 rfl (hI33.at 0 rfl) rfl) fun ac216 hf223 => ⟨?_, ?_⟩
            · exact Has.nil
            have hS36 : ∀ {w : World}, Has [] w := Has.nil
            refine any_one (i := 13) (by kernel_rfl) ?_
            refine op_val (v := .int .i64 d2) hf223 rfl rfl rfl rfl rfl rfl (r_load ag_3 rfl (hI33.at 0 rfl) rfl) fun ac217 hf224 => ⟨?_, ?_⟩
            · exact Has.nil
            have hS37 : ∀ {w : World}, Has [] w := Has.nil
            refine any_val (i := 15) (v := .int .i64 (d2 + w2)) hf224 rfl rfl rfl rfl rfl rfl (fun _ _ _ h => h) (by kernel_rfl) (by kernel_rfl) (by kernel_rfl) (fun wd12 hS37 => (r_add (c := (d2 + w2)) rfl rfl (by have h1 := hx1.1.l2; have h2 := hx1.1.r2; have h3 := hv.r2; have h4 := hv.l2; dsimp only at h1 h2; exact wrap_i64 (by omega) (by omega)))) hS37 fun ac218 hf225 => ?_
            refine any_val (i := 17) (v := .int .i64 (if w2 < (d2 + w2) then w2 else (d2 + w2))) hf225 rfl rfl rfl rfl rfl rfl (fun _ _ _ h => h) (by kernel_rfl) (by kernel_rfl) (by kernel_rfl) (fun wd12 hS37 => (r_min rfl rfl)) hS37 fun ac219 hf226 => ?_
            refine any_val (i := 20) (v := .pointer (some ⟨b, 5, none⟩)) hf226 rfl rfl rfl rfl rfl rfl (fun _ _ _ h => h) (by kernel_rfl) (by kernel_rfl) (by kernel_rfl) (fun wd12 hS37 => (r_indexAddr (i := 2) ar_22 rfl rfl rfl (by decide) rfl)) hS37 fun ac220 hf227 => ?_
            refine any_one (i := 21) (by kernel_rfl) ?_
            refine (op_store (cs' := #[.int .i64 w0, .int .i64 w1, .int .i64 w2, .int .i64 d0, .int .i64 d1, .int .i64 (if w2 < (d2 + w2) then w2 else (d2 + w2)), .int .i64 2]) 0 hf227 rfl rfl rfl rfl rfl sz_3 hI33 rfl (ltb rfl) (by kernel_rfl) fun wd14 hI36 => ⟨?_, ?_⟩)
            · exact Has.nil
            have hI37 : Inv w [(b, #[.int .i64 w0, .int .i64 w1, .int .i64 w2, .int .i64 d0, .int .i64 d1, .int .i64 (if w2 < (d2 + w2) then w2 else (d2 + w2)), .int .i64 2], 58), (b1, #[.bool h0, .bool h1, .bool h2], 33)] wd14 := hI36
            have hS38 : ∀ {w : World}, Has [] w := Has.nil
            refine any_end (by kernel_rfl) ?_
            clear hI32 ac192 hf199 ac193 hf200 ac194 hf201 ac195 hf202 ac196 hf203 ac197 hf204 ac198 hf205 ac199 hf206 ac200 hf207 ac201 hf208 ac202 hf209 ac203 hf210 ac204 hf211 ac205 hf212 ac206 hf213 hS30 ac214 hf221 ac215 hf222 hS35 ac216 hf223 hS36 ac217 hf224 ac218 hf225 ac219 hf226 wd12 hI33 hI36 hS37 hS38
            refine block_normal ?_
            refine then_normal ?_
            have hg : good h0 h1 h2 ⟨d0, d1, d2, 1⟩ = false := (good_eq1.trans (gf (.inl (nb g21_4))))
            exact ⟨(d0, d1, mn2 d2 w2, 2), (hf227.cons 0 rfl (hf227.cons 1 rfl (hf227.cons 3 rfl (hf227.cons 4 rfl (hf227.cons 5 rfl (hf227.cons 7 rfl (hf227.cons 8 rfl (hf227.cons 9 rfl (hf227.cons 10 rfl (hf227.cons 11 rfl (hf227.cons 12 rfl (hf227.cons 13 rfl hf227.nil)))))))))))), ⟨hI37, ⟨nxt_ok (s := ⟨d0, d1, d2, 1⟩) hv hx1.1, (pickS_step (s := ⟨d0, d1, d2, 1⟩) (w0 := w0) (w1 := w1) (w2 := w2) ha hv (.inr (.inl rfl)) hg).symm.trans hx1.2⟩⟩, meas_lt (s := ⟨d0, d1, d2, 1⟩) (w0 := w0) (w1 := w1) (w2 := w2) ha hv (.inr (.inl rfl)) hg⟩
          ·
            refine op_val (v := .int .i64 d2) hf222 rfl rfl rfl rfl rfl rfl (r_load ag_3 rfl (hI33.at 0 rfl) rfl) fun ac221 hf228 => ⟨?_, ?_⟩
            · exact Has.nil
            have hS39 : ∀ {w : World}, Has [] w := Has.nil
            refine any_val (i := 15) (v := .int .i64 (d2 + w2)) hf228 rfl rfl rfl rfl rfl rfl (fun _ _ _ h => h) (by kernel_rfl) (by kernel_rfl) (by kernel_rfl) (fun wd12 hS39 => (r_add (c := (d2 + w2)) rfl rfl (by have h1 := hx1.1.l2; have h2 := hx1.1.r2; have h3 := hv.r2; have h4 := hv.l2; dsimp only at h1 h2; exact wrap_i64 (by omega) (by omega)))) hS39 fun ac222 hf229 => ?_
            refine any_val (i := 17) (v := .int .i64 (if w2 < (d2 + w2) then w2 else (d2 + w2))) hf229 rfl rfl rfl rfl rfl rfl (fun _ _ _ h => h) (by kernel_rfl) (by kernel_rfl) (by kernel_rfl) (fun wd12 hS39 => (r_min rfl rfl)) hS39 fun ac223 hf230 => ?_
            refine any_one (i := 4) (by kernel_rfl) ?_
            refine op_val (v := .int .i64 2) hf230 rfl rfl rfl rfl rfl rfl (r_load ag_3 rfl (hI33.at 0 rfl) rfl) fun ac224 hf231 => ⟨?_, ?_⟩
            · exact Has.nil
            have hS40 : ∀ {w : World}, Has [] w := Has.nil
            refine any_val (i := 20) (v := .pointer (some ⟨b, 5, none⟩)) hf231 rfl rfl rfl rfl rfl rfl (fun _ _ _ h => h) (by kernel_rfl) (by kernel_rfl) (by kernel_rfl) (fun wd12 hS40 => (r_indexAddr (i := 2) ar_22 rfl rfl rfl (by decide) rfl)) hS40 fun ac225 hf232 => ?_
            refine any_one (i := 21) (by kernel_rfl) ?_
            refine (op_store (cs' := #[.int .i64 w0, .int .i64 w1, .int .i64 w2, .int .i64 d0, .int .i64 d1, .int .i64 (if w2 < (d2 + w2) then w2 else (d2 + w2)), .int .i64 2]) 0 hf232 rfl rfl rfl rfl rfl sz_3 hI33 rfl (ltb rfl) (by kernel_rfl) fun wd15 hI38 => ⟨?_, ?_⟩)
            · exact Has.nil
            have hI39 : Inv w [(b, #[.int .i64 w0, .int .i64 w1, .int .i64 w2, .int .i64 d0, .int .i64 d1, .int .i64 (if w2 < (d2 + w2) then w2 else (d2 + w2)), .int .i64 2], 58), (b1, #[.bool h0, .bool h1, .bool h2], 33)] wd15 := hI38
            have hS41 : ∀ {w : World}, Has [] w := Has.nil
            refine any_end (by kernel_rfl) ?_
            clear hI32 ac192 hf199 ac193 hf200 ac194 hf201 ac195 hf202 ac196 hf203 ac197 hf204 ac198 hf205 ac199 hf206 ac200 hf207 ac201 hf208 ac202 hf209 ac203 hf210 ac204 hf211 ac205 hf212 ac206 hf213 hS30 ac214 hf221 ac215 hf222 hS35 ac221 hf228 ac222 hf229 ac223 hf230 hS39 ac224 hf231 wd12 hI33 hI38 hS40 hS41
            refine block_normal ?_
            refine then_normal ?_
            have hg : good h0 h1 h2 ⟨d0, d1, d2, 1⟩ = false := (good_eq1.trans (gf (.inl (nb g21_4))))
            exact ⟨(d0, d1, mn2 d2 w2, 2), (hf232.cons 0 rfl (hf232.cons 1 rfl (hf232.cons 3 rfl (hf232.cons 4 rfl (hf232.cons 5 rfl (hf232.cons 7 rfl (hf232.cons 8 rfl (hf232.cons 9 rfl (hf232.cons 10 rfl (hf232.cons 11 rfl (hf232.cons 12 rfl (hf232.cons 13 rfl hf232.nil)))))))))))), ⟨hI39, ⟨nxt_ok (s := ⟨d0, d1, d2, 1⟩) hv hx1.1, (pickS_step (s := ⟨d0, d1, d2, 1⟩) (w0 := w0) (w1 := w1) (w2 := w2) ha hv (.inr (.inl rfl)) hg).symm.trans hx1.2⟩⟩, meas_lt (s := ⟨d0, d1, d2, 1⟩) (w0 := w0) (w1 := w1) (w2 := w2) ha hv (.inr (.inl rfl)) hg⟩
      · have hf233 := hf168.know 21 (u := .bool false) rfl (congrArg Value.bool g21_4)
        refine any_val (i := 8) (v := .pointer (some ⟨b, 0, none⟩)) hf233 rfl rfl rfl rfl rfl rfl (fun _ _ _ h => h) (by kernel_rfl) (by kernel_rfl) (by kernel_rfl) (fun wd3 hS28 => (r_move rfl)) hS28 fun ac226 hf234 => ?_
        refine any_val (i := 9) (v := .pointer (some ⟨b, 0, none⟩)) hf234 rfl rfl rfl rfl rfl rfl (fun _ _ _ h => h) (by kernel_rfl) (by kernel_rfl) (by kernel_rfl) (fun wd3 hS28 => (r_move rfl)) hS28 fun ac227 hf235 => ?_
        refine any_val (i := 10) (v := .pointer (some ⟨b, 0, none⟩)) hf235 rfl rfl rfl rfl rfl rfl (fun _ _ _ h => h) (by kernel_rfl) (by kernel_rfl) (by kernel_rfl) (fun wd3 hS28 => (r_nilCheck rfl)) hS28 fun ac228 hf236 => ?_
        refine any_val (i := 11) (v := .pointer (some ⟨b, 6, none⟩)) hf236 rfl rfl rfl rfl rfl rfl (fun _ _ _ h => h) (by kernel_rfl) (by kernel_rfl) (by kernel_rfl) (fun wd3 hS28 => (r_fieldAddr fi_58_2 rfl rfl)) hS28 fun ac229 hf237 => ?_
        refine any_val (i := 12) (v := .int .i64 1) hf237 rfl rfl rfl rfl rfl rfl (fun _ _ _ h => h) (by kernel_rfl) (by kernel_rfl) (by kernel_rfl) (fun wd3 hS28 => (r_load ag_3 rfl (hS28.at 0 rfl) rfl)) hS28 fun ac230 hf238 => ?_
        refine any_val (i := 13) (v := .pointer (some ⟨b, 0, none⟩)) hf238 rfl rfl rfl rfl rfl rfl (fun _ _ _ h => h) (by kernel_rfl) (by kernel_rfl) (by kernel_rfl) (fun wd3 hS28 => (r_nilCheck rfl)) hS28 fun ac231 hf239 => ?_
        refine any_val (i := 14) (v := .pointer (some ⟨b, 3, none⟩)) hf239 rfl rfl rfl rfl rfl rfl (fun _ _ _ h => h) (by kernel_rfl) (by kernel_rfl) (by kernel_rfl) (fun wd3 hS28 => (r_fieldAddr fi_58_1 rfl rfl)) hS28 fun ac232 hf240 => ?_
        refine any_val (i := 15) (v := .pointer (some ⟨b, 4, none⟩)) hf240 rfl rfl rfl rfl rfl rfl (fun _ _ _ h => h) (by kernel_rfl) (by kernel_rfl) (by kernel_rfl) (fun wd3 hS28 => (r_indexAddr (i := 1) ar_22 rfl rfl rfl (by decide) rfl)) hS28 fun ac233 hf241 => ?_
        refine any_val (i := 16) (v := .int .i64 d1) hf241 rfl rfl rfl rfl rfl rfl (fun _ _ _ h => h) (by kernel_rfl) (by kernel_rfl) (by kernel_rfl) (fun wd3 hS28 => (r_load ag_3 rfl (hS28.at 0 rfl) rfl)) hS28 fun ac234 hf242 => ?_
        refine any_val (i := 17) (v := .bool (decide (d1 ≤ 0))) hf242 rfl rfl rfl rfl rfl rfl (fun _ _ _ h => h) (by kernel_rfl) (by kernel_rfl) (by kernel_rfl) (fun wd3 hS28 => (r_leq rfl rfl)) hS28 fun ac235 hf243 => ?_
        refine any_val (i := 18) (v := .bool (decide (d1 ≤ 0))) hf243 rfl rfl rfl rfl rfl rfl (fun _ _ _ h => h) (by kernel_rfl) (by kernel_rfl) (by kernel_rfl) (fun wd3 hS28 => (r_pickF rfl rfl)) hS28 fun ac236 hf244 => ?_
        refine any_end (by kernel_rfl) ?_
        clear hI6 ac14 hf16 ac155 hf161 ac156 hf162 ac157 hf163 ac158 hf164 ac159 hf165 ac160 hf166 ac161 hf167 hf168 ac162 hf233 ac226 hf234 ac227 hf235 ac228 hf236 ac229 hf237 ac230 hf238 ac231 hf239 ac232 hf240 ac233 hf241 ac234 hf242 ac235 hf243 hS28
        refine then_normal ?_
        refine code_if hf244 rfl (fun c32_5 => ?_) (fun c32_5 => ?_)
        · have hf245 := hf244.know 32 (u := .bool true) rfl (congrArg Value.bool c32_5)
          refine wp_skip ?_
          refine then_normal ?_
          refine wp_block ?_
          refine code_seq ?_
          refine seq_start (l := [0, 1, 2, 3, 4, 5, 6, 7, 8, 9]) rfl ?_
          refine seq_one (op_val (v := .pointer (some ⟨b, 0, none⟩)) hf245 rfl rfl rfl rfl rfl rfl (r_move rfl) fun ac237 hf246 => ?_)
          refine seq_one (op_val (v := .pointer (some ⟨b, 0, none⟩)) hf246 rfl rfl rfl rfl rfl rfl (r_move rfl) fun ac238 hf247 => ?_)
          refine seq_one (op_val (v := .pointer (some ⟨b, 0, none⟩)) hf247 rfl rfl rfl rfl rfl rfl (r_nilCheck rfl) fun ac239 hf248 => ?_)
          refine seq_one (op_val (v := .pointer (some ⟨b, 6, none⟩)) hf248 rfl rfl rfl rfl rfl rfl (r_fieldAddr fi_58_2 rfl rfl) fun ac240 hf249 => ?_)
          refine seq_one (op_val (v := .int .i64 1) hf249 rfl rfl rfl rfl rfl rfl (r_load ag_3 rfl (hI29.at 0 rfl) rfl) fun ac241 hf250 => ?_)
          refine seq_one (op_val (v := .int .i64 2) hf250 rfl rfl rfl rfl rfl rfl (r_add (c := 2) rfl rfl (by rfl)) fun ac242 hf251 => ?_)
          refine seq_one (op_val (v := .int .i64 2) hf251 rfl rfl rfl rfl rfl rfl (r_rem (c := 2) rfl rfl (by decide) (by rfl)) fun ac243 hf252 => ?_)
          refine seq_one (op_val (v := .pointer (some ⟨b, 0, none⟩)) hf252 rfl rfl rfl rfl rfl rfl (r_nilCheck rfl) fun ac244 hf253 => ?_)
          refine seq_one (op_val (v := .pointer (some ⟨b, 6, none⟩)) hf253 rfl rfl rfl rfl rfl rfl (r_fieldAddr fi_58_2 rfl rfl) fun ac245 hf254 => ?_)
          refine seq_one (op_store (cs' := #[.int .i64 w0, .int .i64 w1, .int .i64 w2, .int .i64 d0, .int .i64 d1, .int .i64 d2, .int .i64 2]) 0 hf254 rfl rfl rfl rfl rfl sz_3 hI29 rfl (ltb rfl) (by kernel_rfl) fun wd16 hI40 => ?_)
          have hI41 : Inv w [(b, #[.int .i64 w0, .int .i64 w1, .int .i64 w2, .int .i64 d0, .int .i64 d1, .int .i64 d2, .int .i64 2], 58), (b1, #[.bool h0, .bool h1, .bool h2], 33)] wd16 := hI40
          refine seq_end ?_
          clear hf244 ac236 hf245 ac237 hf246 ac238 hf247 ac239 hf248 ac240 hf249 ac241 hf250 ac242 hf251 ac243 hf252 ac244 hf253 wd3 hI29 hI40
          refine then_normal ?_
          refine code_seq ?_
          refine any_start (fun w => Has [(b, #[.int .i64 w0, .int .i64 w1, .int .i64 w2, .int .i64 d0, .int .i64 d1, .int .i64 d2, .int .i64 2], 58)] w) follows (Has.drew (Has.cons (hI41.at 0 rfl) Has.nil)) ?_
          have hS42 : Has [(b, #[.int .i64 w0, .int .i64 w1, .int .i64 w2, .int .i64 d0, .int .i64 d1, .int .i64 d2, .int .i64 2], 58)] _ := Has.drew (Has.cons (hI41.at 0 rfl) Has.nil)
          have hI42 := hI41.drew
          refine any_val (i := 0) (v := .pointer (some ⟨b, 0, none⟩)) hf254 rfl rfl rfl rfl rfl rfl (fun _ _ _ h => h) (by kernel_rfl) (by kernel_rfl) (by kernel_rfl) (fun wd16 hS42 => (r_move rfl)) hS42 fun ac246 hf255 => ?_
          refine any_val (i := 1) (v := .pointer (some ⟨b, 0, none⟩)) hf255 rfl rfl rfl rfl rfl rfl (fun _ _ _ h => h) (by kernel_rfl) (by kernel_rfl) (by kernel_rfl) (fun wd16 hS42 => (r_move rfl)) hS42 fun ac247 hf256 => ?_
          refine any_val (i := 2) (v := .pointer (some ⟨b, 0, none⟩)) hf256 rfl rfl rfl rfl rfl rfl (fun _ _ _ h => h) (by kernel_rfl) (by kernel_rfl) (by kernel_rfl) (fun wd16 hS42 => (r_nilCheck rfl)) hS42 fun ac248 hf257 => ?_
          refine any_val (i := 3) (v := .pointer (some ⟨b, 6, none⟩)) hf257 rfl rfl rfl rfl rfl rfl (fun _ _ _ h => h) (by kernel_rfl) (by kernel_rfl) (by kernel_rfl) (fun wd16 hS42 => (r_fieldAddr fi_58_2 rfl rfl)) hS42 fun ac249 hf258 => ?_
          refine any_val (i := 4) (v := .int .i64 2) hf258 rfl rfl rfl rfl rfl rfl (fun _ _ _ h => h) (by kernel_rfl) (by kernel_rfl) (by kernel_rfl) (fun wd16 hS42 => (r_load ag_3 rfl (hS42.at 0 rfl) rfl)) hS42 fun ac250 hf259 => ?_
          refine any_val (i := 5) (v := .pointer (some ⟨b, 0, none⟩)) hf259 rfl rfl rfl rfl rfl rfl (fun _ _ _ h => h) (by kernel_rfl) (by kernel_rfl) (by kernel_rfl) (fun wd16 hS42 => (r_nilCheck rfl)) hS42 fun ac251 hf260 => ?_
          refine any_val (i := 6) (v := .pointer (some ⟨b, 0, none⟩)) hf260 rfl rfl rfl rfl rfl rfl (fun _ _ _ h => h) (by kernel_rfl) (by kernel_rfl) (by kernel_rfl) (fun wd16 hS42 => (r_fieldAddr fi_58_0 rfl rfl)) hS42 fun ac252 hf261 => ?_
          refine any_val (i := 7) (v := .pointer (some ⟨b, 2, none⟩)) hf261 rfl rfl rfl rfl rfl rfl (fun _ _ _ h => h) (by kernel_rfl) (by kernel_rfl) (by kernel_rfl) (fun wd16 hS42 => (r_indexAddr (i := 2) ar_22 rfl rfl rfl (by decide) rfl)) hS42 fun ac253 hf262 => ?_
          refine any_val (i := 8) (v := .int .i64 w2) hf262 rfl rfl rfl rfl rfl rfl (fun _ _ _ h => h) (by kernel_rfl) (by kernel_rfl) (by kernel_rfl) (fun wd16 hS42 => (r_load ag_3 rfl (hS42.at 0 rfl) rfl)) hS42 fun ac254 hf263 => ?_
          refine any_val (i := 9) (v := .int .i64 w2) hf263 rfl rfl rfl rfl rfl rfl (fun _ _ _ h => h) (by kernel_rfl) (by kernel_rfl) (by kernel_rfl) (fun wd16 hS42 => (r_assign rfl)) hS42 fun ac255 hf264 => ?_
          refine any_end (by kernel_rfl) ?_
          clear hI41 ac245 hf254 ac246 hf255 ac247 hf256 ac248 hf257 ac249 hf258 ac250 hf259 ac251 hf260 ac252 hf261 ac253 hf262 ac254 hf263 hS42
          refine then_normal ?_
          refine any_start (fun w => Has [] w) follows (Has.drew Has.nil) ?_
          have hS43 : ∀ {w : World}, Has [] w := Has.nil
          have hI43 := hI42.drew
          refine any_val (i := 0) (v := .pointer (some ⟨b, 0, none⟩)) hf264 rfl rfl rfl rfl rfl rfl (fun _ _ _ h => h) (by kernel_rfl) (by kernel_rfl) (by kernel_rfl) (fun wd16 hS43 => (r_move rfl)) hS43 fun ac256 hf265 => ?_
          refine any_val (i := 1) (v := .pointer (some ⟨b, 0, none⟩)) hf265 rfl rfl rfl rfl rfl rfl (fun _ _ _ h => h) (by kernel_rfl) (by kernel_rfl) (by kernel_rfl) (fun wd16 hS43 => (r_move rfl)) hS43 fun ac257 hf266 => ?_
          refine any_val (i := 2) (v := .pointer (some ⟨b, 0, none⟩)) hf266 rfl rfl rfl rfl rfl rfl (fun _ _ _ h => h) (by kernel_rfl) (by kernel_rfl) (by kernel_rfl) (fun wd16 hS43 => (r_nilCheck rfl)) hS43 fun ac258 hf267 => ?_
          refine any_val (i := 3) (v := .pointer (some ⟨b, 6, none⟩)) hf267 rfl rfl rfl rfl rfl rfl (fun _ _ _ h => h) (by kernel_rfl) (by kernel_rfl) (by kernel_rfl) (fun wd16 hS43 => (r_fieldAddr fi_58_2 rfl rfl)) hS43 fun ac259 hf268 => ?_
          refine any_val (i := 5) (v := .pointer (some ⟨b, 0, none⟩)) hf268 rfl rfl rfl rfl rfl rfl (fun _ _ _ h => h) (by kernel_rfl) (by kernel_rfl) (by kernel_rfl) (fun wd16 hS43 => (r_move rfl)) hS43 fun ac260 hf269 => ?_
          refine any_val (i := 6) (v := .pointer (some ⟨b, 0, none⟩)) hf269 rfl rfl rfl rfl rfl rfl (fun _ _ _ h => h) (by kernel_rfl) (by kernel_rfl) (by kernel_rfl) (fun wd16 hS43 => (r_move rfl)) hS43 fun ac261 hf270 => ?_
          refine any_val (i := 7) (v := .pointer (some ⟨b, 0, none⟩)) hf270 rfl rfl rfl rfl rfl rfl (fun _ _ _ h => h) (by kernel_rfl) (by kernel_rfl) (by kernel_rfl) (fun wd16 hS43 => (r_nilCheck rfl)) hS43 fun ac262 hf271 => ?_
          refine any_val (i := 8) (v := .pointer (some ⟨b, 6, none⟩)) hf271 rfl rfl rfl rfl rfl rfl (fun _ _ _ h => h) (by kernel_rfl) (by kernel_rfl) (by kernel_rfl) (fun wd16 hS43 => (r_fieldAddr fi_58_2 rfl rfl)) hS43 fun ac263 hf272 => ?_
          refine any_val (i := 10) (v := .pointer (some ⟨b, 0, none⟩)) hf272 rfl rfl rfl rfl rfl rfl (fun _ _ _ h => h) (by kernel_rfl) (by kernel_rfl) (by kernel_rfl) (fun wd16 hS43 => (r_nilCheck rfl)) hS43 fun ac264 hf273 => ?_
          refine any_val (i := 11) (v := .pointer (some ⟨b, 3, none⟩)) hf273 rfl rfl rfl rfl rfl rfl (fun _ _ _ h => h) (by kernel_rfl) (by kernel_rfl) (by kernel_rfl) (fun wd16 hS43 => (r_fieldAddr fi_58_1 rfl rfl)) hS43 fun ac265 hf274 => ?_
          refine any_val (i := 14) (v := .int .i64 w2) hf274 rfl rfl rfl rfl rfl rfl (fun _ _ _ h => h) (by kernel_rfl) (by kernel_rfl) (by kernel_rfl) (fun wd16 hS43 => (r_move rfl)) hS43 fun ac266 hf275 => ?_
          refine any_val (i := 16) (v := .int .i64 w2) hf275 rfl rfl rfl rfl rfl rfl (fun _ _ _ h => h) (by kernel_rfl) (by kernel_rfl) (by kernel_rfl) (fun wd16 hS43 => (r_move rfl)) hS43 fun ac267 hf276 => ?_
          refine any_val (i := 18) (v := .pointer (some ⟨b, 0, none⟩)) hf276 rfl rfl rfl rfl rfl rfl (fun _ _ _ h => h) (by kernel_rfl) (by kernel_rfl) (by kernel_rfl) (fun wd16 hS43 => (r_nilCheck rfl)) hS43 fun ac268 hf277 => ?_
          refine any_val (i := 19) (v := .pointer (some ⟨b, 3, none⟩)) hf277 rfl rfl rfl rfl rfl rfl (fun _ _ _ h => h) (by kernel_rfl) (by kernel_rfl) (by kernel_rfl) (fun wd16 hS43 => (r_fieldAddr fi_58_1 rfl rfl)) hS43 fun ac269 hf278 => ?_
          refine any_two (i := 4) (j := 9) (by kernel_rfl) ?_ ?_
          ·
            refine op_val (v := .int .i64 2) hf278 rfl rfl rfl rfl rfl rfl (r_load ag_3 rfl (hI43.at 0 rfl) rfl) fun ac270 hf279 => ⟨?_, ?_⟩
            · exact Has.nil
            have hS44 : ∀ {w : World}, Has [] w := Has.nil
            refine any_one (i := 9) (by kernel_rfl) ?_
            refine op_val (v := .int .i64 2) hf279 rfl rfl rfl rfl rfl rfl (r_load ag_3 rfl (hI43.at 0 rfl) rfl) fun ac271 hf280 => ⟨?_, ?_⟩
            · exact Has.nil
            have hS45 : ∀ {w : World}, Has [] w := Has.nil
            refine any_val (i := 12) (v := .pointer (some ⟨b, 5, none⟩)) hf280 rfl rfl rfl rfl rfl rfl (fun _ _ _ h => h) (by kernel_rfl) (by kernel_rfl) (by kernel_rfl) (fun wd16 hS45 => (r_indexAddr (i := 2) ar_22 rfl rfl rfl (by decide) rfl)) hS45 fun ac272 hf281 => ?_
            refine any_one (i := 13) (by kernel_rfl) ?_
            refine op_val (v := .int .i64 d2) hf281 rfl rfl rfl rfl rfl rfl (r_load ag_3 rfl (hI43.at 0 rfl) rfl) fun ac273 hf282 => ⟨?_, ?_⟩
            · exact Has.nil
            have hS46 : ∀ {w : World}, Has [] w := Has.nil
            refine any_val (i := 15) (v := .int .i64 (d2 + w2)) hf282 rfl rfl rfl rfl rfl rfl (fun _ _ _ h => h) (by kernel_rfl) (by kernel_rfl) (by kernel_rfl) (fun wd16 hS46 => (r_add (c := (d2 + w2)) rfl rfl (by have h1 := hx1.1.l2; have h2 := hx1.1.r2; have h3 := hv.r2; have h4 := hv.l2; dsimp only at h1 h2; exact wrap_i64 (by omega) (by omega)))) hS46 fun ac274 hf283 => ?_
            refine any_val (i := 17) (v := .int .i64 (if w2 < (d2 + w2) then w2 else (d2 + w2))) hf283 rfl rfl rfl rfl rfl rfl (fun _ _ _ h => h) (by kernel_rfl) (by kernel_rfl) (by kernel_rfl) (fun wd16 hS46 => (r_min rfl rfl)) hS46 fun ac275 hf284 => ?_
            refine any_val (i := 20) (v := .pointer (some ⟨b, 5, none⟩)) hf284 rfl rfl rfl rfl rfl rfl (fun _ _ _ h => h) (by kernel_rfl) (by kernel_rfl) (by kernel_rfl) (fun wd16 hS46 => (r_indexAddr (i := 2) ar_22 rfl rfl rfl (by decide) rfl)) hS46 fun ac276 hf285 => ?_
            refine any_one (i := 21) (by kernel_rfl) ?_
            refine (op_store (cs' := #[.int .i64 w0, .int .i64 w1, .int .i64 w2, .int .i64 d0, .int .i64 d1, .int .i64 (if w2 < (d2 + w2) then w2 else (d2 + w2)), .int .i64 2]) 0 hf285 rfl rfl rfl rfl rfl sz_3 hI43 rfl (ltb rfl) (by kernel_rfl) fun wd17 hI44 => ⟨?_, ?_⟩)
            · exact Has.nil
            have hI45 : Inv w [(b, #[.int .i64 w0, .int .i64 w1, .int .i64 w2, .int .i64 d0, .int .i64 d1, .int .i64 (if w2 < (d2 + w2) then w2 else (d2 + w2)), .int .i64 2], 58), (b1, #[.bool h0, .bool h1, .bool h2], 33)] wd17 := hI44
            have hS47 : ∀ {w : World}, Has [] w := Has.nil
            refine any_end (by kernel_rfl) ?_
            clear hI42 ac255 hf264 ac256 hf265 ac257 hf266 ac258 hf267 ac259 hf268 ac260 hf269 ac261 hf270 ac262 hf271 ac263 hf272 ac264 hf273 ac265 hf274 ac266 hf275 ac267 hf276 ac268 hf277 ac269 hf278 hS43 ac270 hf279 hS44 ac271 hf280 ac272 hf281 hS45 ac273 hf282 ac274 hf283 ac275 hf284 wd16 hI43 hI44 hS46 hS47
            refine block_normal ?_
            refine then_normal ?_
            have hg : good h0 h1 h2 ⟨d0, d1, d2, 1⟩ = false := (good_eq1.trans (gf (.inr (of_decide_eq_true c32_5))))
            exact ⟨(d0, d1, mn2 d2 w2, 2), (hf285.cons 0 rfl (hf285.cons 1 rfl (hf285.cons 3 rfl (hf285.cons 4 rfl (hf285.cons 5 rfl (hf285.cons 7 rfl (hf285.cons 8 rfl (hf285.cons 9 rfl (hf285.cons 10 rfl (hf285.cons 11 rfl (hf285.cons 12 rfl (hf285.cons 13 rfl hf285.nil)))))))))))), ⟨hI45, ⟨nxt_ok (s := ⟨d0, d1, d2, 1⟩) hv hx1.1, (pickS_step (s := ⟨d0, d1, d2, 1⟩) (w0 := w0) (w1 := w1) (w2 := w2) ha hv (.inr (.inl rfl)) hg).symm.trans hx1.2⟩⟩, meas_lt (s := ⟨d0, d1, d2, 1⟩) (w0 := w0) (w1 := w1) (w2 := w2) ha hv (.inr (.inl rfl)) hg⟩
          ·
            refine op_val (v := .int .i64 2) hf278 rfl rfl rfl rfl rfl rfl (r_load ag_3 rfl (hI43.at 0 rfl) rfl) fun ac277 hf286 => ⟨?_, ?_⟩
            · exact Has.nil
            have hS48 : ∀ {w : World}, Has [] w := Has.nil
            refine any_val (i := 12) (v := .pointer (some ⟨b, 5, none⟩)) hf286 rfl rfl rfl rfl rfl rfl (fun _ _ _ h => h) (by kernel_rfl) (by kernel_rfl) (by kernel_rfl) (fun wd16 hS48 => (r_indexAddr (i := 2) ar_22 rfl rfl rfl (by decide) rfl)) hS48 fun ac278 hf287 => ?_
            refine any_two (i := 4) (j := 13) (by kernel_rfl) ?_ ?_
            ·
              refine op_val (v := .int .i64 2) hf287 rfl rfl rfl rfl rfl rfl (r_load ag_3 rfl (hI43.at 0 rfl) rfl) fun ac279 hf288 => ⟨?_, ?_⟩
              · exact Has.nil
              have hS49 : ∀ {w : World}, Has [] w := Has.nil
              refine any_one (i := 13) (by kernel_rfl) ?_
              refine op_val (v := .int .i64 d2) hf288 rfl rfl rfl rfl rfl rfl (r_load ag_3 rfl (hI43.at 0 rfl) rfl) fun ac280 hf289 => ⟨?_, ?_⟩
              · exact Has.nil
              have hS50 : ∀ {w : World}, Has [] w := Has.nil
              refine any_val (i := 15) (v := .int .i64 (d2 + w2)) hf289 rfl rfl rfl rfl rfl rfl (fun _ _ _ h => h) (by kernel_rfl) (by kernel_rfl) (by kernel_rfl) (fun wd16 hS50 => (r_add (c := (d2 + w2)) rfl rfl (by have h1 := hx1.1.l2; have h2 := hx1.1.r2; have h3 := hv.r2; have h4 := hv.l2; dsimp only at h1 h2; exact wrap_i64 (by omega) (by omega)))) hS50 fun ac281 hf290 => ?_
              refine any_val (i := 17) (v := .int .i64 (if w2 < (d2 + w2) then w2 else (d2 + w2))) hf290 rfl rfl rfl rfl rfl rfl (fun _ _ _ h => h) (by kernel_rfl) (by kernel_rfl) (by kernel_rfl) (fun wd16 hS50 => (r_min rfl rfl)) hS50 fun ac282 hf291 => ?_
              refine any_val (i := 20) (v := .pointer (some ⟨b, 5, none⟩)) hf291 rfl rfl rfl rfl rfl rfl (fun _ _ _ h => h) (by kernel_rfl) (by kernel_rfl) (by kernel_rfl) (fun wd16 hS50 => (r_indexAddr (i := 2) ar_22 rfl rfl rfl (by decide) rfl)) hS50 fun ac283 hf292 => ?_
              refine any_one (i := 21) (by kernel_rfl) ?_
              refine (op_store (cs' := #[.int .i64 w0, .int .i64 w1, .int .i64 w2, .int .i64 d0, .int .i64 d1, .int .i64 (if w2 < (d2 + w2) then w2 else (d2 + w2)), .int .i64 2]) 0 hf292 rfl rfl rfl rfl rfl sz_3 hI43 rfl (ltb rfl) (by kernel_rfl) fun wd18 hI46 => ⟨?_, ?_⟩)
              · exact Has.nil
              have hI47 : Inv w [(b, #[.int .i64 w0, .int .i64 w1, .int .i64 w2, .int .i64 d0, .int .i64 d1, .int .i64 (if w2 < (d2 + w2) then w2 else (d2 + w2)), .int .i64 2], 58), (b1, #[.bool h0, .bool h1, .bool h2], 33)] wd18 := hI46
              have hS51 : ∀ {w : World}, Has [] w := Has.nil
              refine any_end (by kernel_rfl) ?_
              clear hI42 ac255 hf264 ac256 hf265 ac257 hf266 ac258 hf267 ac259 hf268 ac260 hf269 ac261 hf270 ac262 hf271 ac263 hf272 ac264 hf273 ac265 hf274 ac266 hf275 ac267 hf276 ac268 hf277 ac269 hf278 hS43 ac277 hf286 ac278 hf287 hS48 ac279 hf288 hS49 ac280 hf289 ac281 hf290 ac282 hf291 wd16 hI43 hI46 hS50 hS51
              refine block_normal ?_
              refine then_normal ?_
              have hg : good h0 h1 h2 ⟨d0, d1, d2, 1⟩ = false := (good_eq1.trans (gf (.inr (of_decide_eq_true c32_5))))
              exact ⟨(d0, d1, mn2 d2 w2, 2), (hf292.cons 0 rfl (hf292.cons 1 rfl (hf292.cons 3 rfl (hf292.cons 4 rfl (hf292.cons 5 rfl (hf292.cons 7 rfl (hf292.cons 8 rfl (hf292.cons 9 rfl (hf292.cons 10 rfl (hf292.cons 11 rfl (hf292.cons 12 rfl (hf292.cons 13 rfl hf292.nil)))))))))))), ⟨hI47, ⟨nxt_ok (s := ⟨d0, d1, d2, 1⟩) hv hx1.1, (pickS_step (s := ⟨d0, d1, d2, 1⟩) (w0 := w0) (w1 := w1) (w2 := w2) ha hv (.inr (.inl rfl)) hg).symm.trans hx1.2⟩⟩, meas_lt (s := ⟨d0, d1, d2, 1⟩) (w0 := w0) (w1 := w1) (w2 := w2) ha hv (.inr (.inl rfl)) hg⟩
            ·
              refine op_val (v := .int .i64 d2) hf287 rfl rfl rfl rfl rfl rfl (r_load ag_3 rfl (hI43.at 0 rfl) rfl) fun ac284 hf293 => ⟨?_, ?_⟩
              · exact Has.nil
              have hS52 : ∀ {w : World}, Has [] w := Has.nil
              refine any_val (i := 15) (v := .int .i64 (d2 + w2)) hf293 rfl rfl rfl rfl rfl rfl (fun _ _ _ h => h) (by kernel_rfl) (by kernel_rfl) (by kernel_rfl) (fun wd16 hS52 => (r_add (c := (d2 + w2)) rfl rfl (by have h1 := hx1.1.l2; have h2 := hx1.1.r2; have h3 := hv.r2; have h4 := hv.l2; dsimp only at h1 h2; exact wrap_i64 (by omega) (by omega)))) hS52 fun ac285 hf294 => ?_
              refine any_val (i := 17) (v := .int .i64 (if w2 < (d2 + w2) then w2 else (d2 + w2))) hf294 rfl rfl rfl rfl rfl rfl (fun _ _ _ h => h) (by kernel_rfl) (by kernel_rfl) (by kernel_rfl) (fun wd16 hS52 => (r_min rfl rfl)) hS52 fun ac286 hf295 => ?_
              refine any_one (i := 4) (by kernel_rfl) ?_
              refine op_val (v := .int .i64 2) hf295 rfl rfl rfl rfl rfl rfl (r_load ag_3 rfl (hI43.at 0 rfl) rfl) fun ac287 hf296 => ⟨?_, ?_⟩
              · exact Has.nil
              have hS53 : ∀ {w : World}, Has [] w := Has.nil
              refine any_val (i := 20) (v := .pointer (some ⟨b, 5, none⟩)) hf296 rfl rfl rfl rfl rfl rfl (fun _ _ _ h => h) (by kernel_rfl) (by kernel_rfl) (by kernel_rfl) (fun wd16 hS53 => (r_indexAddr (i := 2) ar_22 rfl rfl rfl (by decide) rfl)) hS53 fun ac288 hf297 => ?_
              refine any_one (i := 21) (by kernel_rfl) ?_
              refine (op_store (cs' := #[.int .i64 w0, .int .i64 w1, .int .i64 w2, .int .i64 d0, .int .i64 d1, .int .i64 (if w2 < (d2 + w2) then w2 else (d2 + w2)), .int .i64 2]) 0 hf297 rfl rfl rfl rfl rfl sz_3 hI43 rfl (ltb rfl) (by kernel_rfl) fun wd19 hI48 => ⟨?_, ?_⟩)
              · exact Has.nil
              have hI49 : Inv w [(b, #[.int .i64 w0, .int .i64 w1, .int .i64 w2, .int .i64 d0, .int .i64 d1, .int .i64 (if w2 < (d2 + w2) then w2 else (d2 + w2)), .int .i64 2], 58), (b1, #[.bool h0, .bool h1, .bool h2], 33)] wd19 := hI48
              have hS54 : ∀ {w : World}, Has [] w := Has.nil
              refine any_end (by kernel_rfl) ?_
              clear hI42 ac255 hf264 ac256 hf265 ac257 hf266 ac258 hf267 ac259 hf268 ac260 hf269 ac261 hf270 ac262 hf271 ac263 hf272 ac264 hf273 ac265 hf274 ac266 hf275 ac267 hf276 ac268 hf277 ac269 hf278 hS43 ac277 hf286 ac278 hf287 hS48 ac284 hf293 ac285 hf294 ac286 hf295 hS52 ac287 hf296 wd16 hI43 hI48 hS53 hS54
              refine block_normal ?_
              refine then_normal ?_
              have hg : good h0 h1 h2 ⟨d0, d1, d2, 1⟩ = false := (good_eq1.trans (gf (.inr (of_decide_eq_true c32_5))))
              exact ⟨(d0, d1, mn2 d2 w2, 2), (hf297.cons 0 rfl (hf297.cons 1 rfl (hf297.cons 3 rfl (hf297.cons 4 rfl (hf297.cons 5 rfl (hf297.cons 7 rfl (hf297.cons 8 rfl (hf297.cons 9 rfl (hf297.cons 10 rfl (hf297.cons 11 rfl (hf297.cons 12 rfl (hf297.cons 13 rfl hf297.nil)))))))))))), ⟨hI49, ⟨nxt_ok (s := ⟨d0, d1, d2, 1⟩) hv hx1.1, (pickS_step (s := ⟨d0, d1, d2, 1⟩) (w0 := w0) (w1 := w1) (w2 := w2) ha hv (.inr (.inl rfl)) hg).symm.trans hx1.2⟩⟩, meas_lt (s := ⟨d0, d1, d2, 1⟩) (w0 := w0) (w1 := w1) (w2 := w2) ha hv (.inr (.inl rfl)) hg⟩
        · have hf298 := hf244.know 32 (u := .bool false) rfl (congrArg Value.bool c32_5)
          refine wp_exit ?_
          refine then_exit ?_
          refine then_exit ?_
          refine block_here ?_
          refine then_normal ?_
          refine code_seq ?_
          refine seq_start (l := [0, 1, 2, 3, 4, 5]) rfl ?_
          refine seq_one (op_val (v := .pointer (some ⟨b, 0, none⟩)) hf298 rfl rfl rfl rfl rfl rfl (r_move rfl) fun ac289 hf299 => ?_)
          refine seq_one (op_val (v := .pointer (some ⟨b, 0, none⟩)) hf299 rfl rfl rfl rfl rfl rfl (r_nilCheck rfl) fun ac290 hf300 => ?_)
          refine seq_one (op_val (v := .pointer (some ⟨b, 6, none⟩)) hf300 rfl rfl rfl rfl rfl rfl (r_fieldAddr fi_58_2 rfl rfl) fun ac291 hf301 => ?_)
          refine seq_one (op_val (v := .int .i64 1) hf301 rfl rfl rfl rfl rfl rfl (r_load ag_3 rfl (hI29.at 0 rfl) rfl) fun ac292 hf302 => ?_)
          refine seq_one (op_val (v := .int .i64 1) hf302 rfl rfl rfl rfl rfl rfl (r_assign rfl) fun ac293 hf303 => ?_)
          refine seq_one (op_val (v := .bool true) hf303 rfl rfl rfl rfl rfl rfl (r_assign rfl) fun ac294 hf304 => ?_)
          refine seq_end ?_
          clear hf244 ac236 hf298 ac289 hf299 ac290 hf300 ac291 hf301 ac292 hf302 ac293 hf303
          refine then_normal ?_
          refine wp_ret ?_
          refine post2 rfl hf304 rfl rfl ?_
          have hI50 : Inv w [(b, #[.int .i64 w0, .int .i64 w1, .int .i64 w2, .int .i64 d0, .int .i64 d1, .int .i64 d2, .int .i64 1], 58)] _ := (Inv.drop (A := [(b, #[.int .i64 w0, .int .i64 w1, .int .i64 w2, .int .i64 d0, .int .i64 d1, .int .i64 d2, .int .i64 1], 58)]) (B := [(b1, #[.bool h0, .bool h1, .bool h2], 33)]) hI29 (fresh_keys (ks := [b1]) rfl (fk_cons hb1 fk_nil)))
          have hg : good h0 h1 h2 ⟨d0, d1, d2, 1⟩ = true := good_eq1.trans (gt (nb' g21_4) (Int.not_le.1 (of_decide_eq_false c32_5)))
          have e1 := hx1.2.symm.trans (pickS_good (w0 := w0) (w1 := w1) (w2 := w2) ha hg)
          rw [pickN_some ha, ha, e1]
          exact ⟨rfl, hI50⟩
    ·
      refine code_seq ?_
      refine code_seq ?_
      refine any_start (fun w => Has [(b, #[.int .i64 w0, .int .i64 w1, .int .i64 w2, .int .i64 d0, .int .i64 d1, .int .i64 d2, .int .i64 2], 58), (b1, #[.bool h0, .bool h1, .bool h2], 33)] w) follows (Has.drew (Has.cons (hI6.at 0 rfl) (Has.cons (hI6.at 1 rfl) Has.nil))) ?_
      have hS55 : Has [(b, #[.int .i64 w0, .int .i64 w1, .int .i64 w2, .int .i64 d0, .int .i64 d1, .int .i64 d2, .int .i64 2], 58), (b1, #[.bool h0, .bool h1, .bool h2], 33)] _ := Has.drew (Has.cons (hI6.at 0 rfl) (Has.cons (hI6.at 1 rfl) Has.nil))
      have hI51 := hI6.drew
      refine any_val (i := 0) (v := .pointer (some ⟨b, 0, none⟩)) hf16 rfl rfl rfl rfl rfl rfl (fun _ _ _ h => h) (by kernel_rfl) (by kernel_rfl) (by kernel_rfl) (fun wd3 hS55 => (r_move rfl)) hS55 fun ac295 hf305 => ?_
      refine any_val (i := 1) (v := .pointer (some ⟨b, 0, none⟩)) hf305 rfl rfl rfl rfl rfl rfl (fun _ _ _ h => h) (by kernel_rfl) (by kernel_rfl) (by kernel_rfl) (fun wd3 hS55 => (r_nilCheck rfl)) hS55 fun ac296 hf306 => ?_
      refine any_val (i := 2) (v := .pointer (some ⟨b, 6, none⟩)) hf306 rfl rfl rfl rfl rfl rfl (fun _ _ _ h => h) (by kernel_rfl) (by kernel_rfl) (by kernel_rfl) (fun wd3 hS55 => (r_fieldAddr fi_58_2 rfl rfl)) hS55 fun ac297 hf307 => ?_
      refine any_val (i := 3) (v := .int .i64 2) hf307 rfl rfl rfl rfl rfl rfl (fun _ _ _ h => h) (by kernel_rfl) (by kernel_rfl) (by kernel_rfl) (fun wd3 hS55 => (r_load ag_3 rfl (hS55.at 0 rfl) rfl)) hS55 fun ac298 hf308 => ?_
      refine any_val (i := 4) (v := .pointer (some ⟨b1, 2, none⟩)) hf308 rfl rfl rfl rfl rfl rfl (fun _ _ _ h => h) (by kernel_rfl) (by kernel_rfl) (by kernel_rfl) (fun wd3 hS55 => (r_indexAddr (i := 2) ar_33 rfl rfl rfl (by decide) rfl)) hS55 fun ac299 hf309 => ?_
      refine any_val (i := 5) (v := .bool h2) hf309 rfl rfl rfl rfl rfl rfl (fun _ _ _ h => h) (by kernel_rfl) (by kernel_rfl) (by kernel_rfl) (fun wd3 hS55 => (r_load ag_4 rfl (hS55.at 1 rfl) rfl)) hS55 fun ac300 hf310 => ?_
      refine any_val (i := 6) (v := .bool (!h2)) hf310 rfl rfl rfl rfl rfl rfl (fun _ _ _ h => h) (by kernel_rfl) (by kernel_rfl) (by kernel_rfl) (fun wd3 hS55 => (r_not rfl)) hS55 fun ac301 hf311 => ?_
      refine any_val (i := 7) (v := .bool (!h2)) hf311 rfl rfl rfl rfl rfl rfl (fun _ _ _ h => h) (by kernel_rfl) (by kernel_rfl) (by kernel_rfl) (fun wd3 hS55 => (r_move rfl)) hS55 fun ac302 hf312 => ?_
      rcases Bool.eq_false_or_eq_true (!h2 : Bool) with g21_6 | g21_6
      · have hf313 := hf312.know 21 (u := .bool true) rfl (congrArg Value.bool g21_6)
        refine any_skip (i := 8) hf313 rfl rfl rfl rfl (fun _ _ _ h => h) (by kernel_rfl) (by kernel_rfl) (by kernel_rfl) hS55 fun ac303 hf314 => ?_
        refine any_skip (i := 9) hf314 rfl rfl rfl rfl (fun _ _ _ h => h) (by kernel_rfl) (by kernel_rfl) (by kernel_rfl) hS55 fun ac304 hf315 => ?_
        refine any_skip (i := 10) hf315 rfl rfl rfl rfl (fun _ _ _ h => h) (by kernel_rfl) (by kernel_rfl) (by kernel_rfl) hS55 fun ac305 hf316 => ?_
        refine any_skip (i := 11) hf316 rfl rfl rfl rfl (fun _ _ _ h => h) (by kernel_rfl) (by kernel_rfl) (by kernel_rfl) hS55 fun ac306 hf317 => ?_
        refine any_skip (i := 12) hf317 rfl rfl rfl rfl (fun _ _ _ h => h) (by kernel_rfl) (by kernel_rfl) (by kernel_rfl) hS55 fun ac307 hf318 => ?_
        refine any_skip (i := 13) hf318 rfl rfl rfl rfl (fun _ _ _ h => h) (by kernel_rfl) (by kernel_rfl) (by kernel_rfl) hS55 fun ac308 hf319 => ?_
        refine any_skip (i := 14) hf319 rfl rfl rfl rfl (fun _ _ _ h => h) (by kernel_rfl) (by kernel_rfl) (by kernel_rfl) hS55 fun ac309 hf320 => ?_
        refine any_skip (i := 15) hf320 rfl rfl rfl rfl (fun _ _ _ h => h) (by kernel_rfl) (by kernel_rfl) (by kernel_rfl) hS55 fun ac310 hf321 => ?_
        refine any_skip (i := 16) hf321 rfl rfl rfl rfl (fun _ _ _ h => h) (by kernel_rfl) (by kernel_rfl) (by kernel_rfl) hS55 fun ac311 hf322 => ?_
        refine any_skip (i := 17) hf322 rfl rfl rfl rfl (fun _ _ _ h => h) (by kernel_rfl) (by kernel_rfl) (by kernel_rfl) hS55 fun ac312 hf323 => ?_
        refine any_val (i := 18) (v := .bool true) hf323 rfl rfl rfl rfl rfl rfl (fun _ _ _ h => h) (by kernel_rfl) (by kernel_rfl) (by kernel_rfl) (fun wd3 hS55 => (r_pickT rfl rfl)) hS55 fun ac313 hf324 => ?_
        refine any_end (by kernel_rfl) ?_
        clear hI6 ac14 hf16 ac295 hf305 ac296 hf306 ac297 hf307 ac298 hf308 ac299 hf309 ac300 hf310 ac301 hf311 hf312 ac302 hf313 ac303 hf314 ac304 hf315 ac305 hf316 ac306 hf317 ac307 hf318 ac308 hf319 ac309 hf320 ac310 hf321 ac311 hf322 ac312 hf323 hS55
        refine then_normal ?_
        refine code_if_true hf324 rfl ?_
        refine wp_skip ?_
        refine then_normal ?_
        refine wp_block ?_
        refine code_seq ?_
        refine seq_start (l := [0, 1, 2, 3, 4, 5, 6, 7, 8, 9]) rfl ?_
        refine seq_one (op_val (v := .pointer (some ⟨b, 0, none⟩)) hf324 rfl rfl rfl rfl rfl rfl (r_move rfl) fun ac314 hf325 => ?_)
        refine seq_one (op_val (v := .pointer (some ⟨b, 0, none⟩)) hf325 rfl rfl rfl rfl rfl rfl (r_move rfl) fun ac315 hf326 => ?_)
        refine seq_one (op_val (v := .pointer (some ⟨b, 0, none⟩)) hf326 rfl rfl rfl rfl rfl rfl (r_nilCheck rfl) fun ac316 hf327 => ?_)
        refine seq_one (op_val (v := .pointer (some ⟨b, 6, none⟩)) hf327 rfl rfl rfl rfl rfl rfl (r_fieldAddr fi_58_2 rfl rfl) fun ac317 hf328 => ?_)
        refine seq_one (op_val (v := .int .i64 2) hf328 rfl rfl rfl rfl rfl rfl (r_load ag_3 rfl (hI51.at 0 rfl) rfl) fun ac318 hf329 => ?_)
        refine seq_one (op_val (v := .int .i64 3) hf329 rfl rfl rfl rfl rfl rfl (r_add (c := 3) rfl rfl (by rfl)) fun ac319 hf330 => ?_)
        refine seq_one (op_val (v := .int .i64 0) hf330 rfl rfl rfl rfl rfl rfl (r_rem (c := 0) rfl rfl (by decide) (by rfl)) fun ac320 hf331 => ?_)
        refine seq_one (op_val (v := .pointer (some ⟨b, 0, none⟩)) hf331 rfl rfl rfl rfl rfl rfl (r_nilCheck rfl) fun ac321 hf332 => ?_)
        refine seq_one (op_val (v := .pointer (some ⟨b, 6, none⟩)) hf332 rfl rfl rfl rfl rfl rfl (r_fieldAddr fi_58_2 rfl rfl) fun ac322 hf333 => ?_)
        refine seq_one (op_store (cs' := #[.int .i64 w0, .int .i64 w1, .int .i64 w2, .int .i64 d0, .int .i64 d1, .int .i64 d2, .int .i64 0]) 0 hf333 rfl rfl rfl rfl rfl sz_3 hI51 rfl (ltb rfl) (by kernel_rfl) fun wd20 hI52 => ?_)
        have hI53 : Inv w [(b, #[.int .i64 w0, .int .i64 w1, .int .i64 w2, .int .i64 d0, .int .i64 d1, .int .i64 d2, .int .i64 0], 58), (b1, #[.bool h0, .bool h1, .bool h2], 33)] wd20 := hI52
        refine seq_end ?_
        clear ac313 hf324 ac314 hf325 ac315 hf326 ac316 hf327 ac317 hf328 ac318 hf329 ac319 hf330 ac320 hf331 ac321 hf332 wd3 hI51 hI52
        refine then_normal ?_
        refine code_seq ?_
        refine any_start (fun w => Has [(b, #[.int .i64 w0, .int .i64 w1, .int .i64 w2, .int .i64 d0, .int .i64 d1, .int .i64 d2, .int .i64 0], 58)] w) follows (Has.drew (Has.cons (hI53.at 0 rfl) Has.nil)) ?_
        have hS56 : Has [(b, #[.int .i64 w0, .int .i64 w1, .int .i64 w2, .int .i64 d0, .int .i64 d1, .int .i64 d2, .int .i64 0], 58)] _ := Has.drew (Has.cons (hI53.at 0 rfl) Has.nil)
        have hI54 := hI53.drew
        refine any_val (i := 0) (v := .pointer (some ⟨b, 0, none⟩)) hf333 rfl rfl rfl rfl rfl rfl (fun _ _ _ h => h) (by kernel_rfl) (by kernel_rfl) (by kernel_rfl) (fun wd20 hS56 => (r_move rfl)) hS56 fun ac323 hf334 => ?_
        refine any_val (i := 1) (v := .pointer (some ⟨b, 0, none⟩)) hf334 rfl rfl rfl rfl rfl rfl (fun _ _ _ h => h) (by kernel_rfl) (by kernel_rfl) (by kernel_rfl) (fun wd20 hS56 => (r_move rfl)) hS56 fun ac324 hf335 => ?_
        refine any_val (i := 2) (v := .pointer (some ⟨b, 0, none⟩)) hf335 rfl rfl rfl rfl rfl rfl (fun _ _ _ h => h) (by kernel_rfl) (by kernel_rfl) (by kernel_rfl) (fun wd20 hS56 => (r_nilCheck rfl)) hS56 fun ac325 hf336 => ?_
        refine any_val (i := 3) (v := .pointer (some ⟨b, 6, none⟩)) hf336 rfl rfl rfl rfl rfl rfl (fun _ _ _ h => h) (by kernel_rfl) (by kernel_rfl) (by kernel_rfl) (fun wd20 hS56 => (r_fieldAddr fi_58_2 rfl rfl)) hS56 fun ac326 hf337 => ?_
        refine any_val (i := 4) (v := .int .i64 0) hf337 rfl rfl rfl rfl rfl rfl (fun _ _ _ h => h) (by kernel_rfl) (by kernel_rfl) (by kernel_rfl) (fun wd20 hS56 => (r_load ag_3 rfl (hS56.at 0 rfl) rfl)) hS56 fun ac327 hf338 => ?_
        refine any_val (i := 5) (v := .pointer (some ⟨b, 0, none⟩)) hf338 rfl rfl rfl rfl rfl rfl (fun _ _ _ h => h) (by kernel_rfl) (by kernel_rfl) (by kernel_rfl) (fun wd20 hS56 => (r_nilCheck rfl)) hS56 fun ac328 hf339 => ?_
        refine any_val (i := 6) (v := .pointer (some ⟨b, 0, none⟩)) hf339 rfl rfl rfl rfl rfl rfl (fun _ _ _ h => h) (by kernel_rfl) (by kernel_rfl) (by kernel_rfl) (fun wd20 hS56 => (r_fieldAddr fi_58_0 rfl rfl)) hS56 fun ac329 hf340 => ?_
        refine any_val (i := 7) (v := .pointer (some ⟨b, 0, none⟩)) hf340 rfl rfl rfl rfl rfl rfl (fun _ _ _ h => h) (by kernel_rfl) (by kernel_rfl) (by kernel_rfl) (fun wd20 hS56 => (r_indexAddr (i := 0) ar_22 rfl rfl rfl (by decide) rfl)) hS56 fun ac330 hf341 => ?_
        refine any_val (i := 8) (v := .int .i64 w0) hf341 rfl rfl rfl rfl rfl rfl (fun _ _ _ h => h) (by kernel_rfl) (by kernel_rfl) (by kernel_rfl) (fun wd20 hS56 => (r_load ag_3 rfl (hS56.at 0 rfl) rfl)) hS56 fun ac331 hf342 => ?_
        refine any_val (i := 9) (v := .int .i64 w0) hf342 rfl rfl rfl rfl rfl rfl (fun _ _ _ h => h) (by kernel_rfl) (by kernel_rfl) (by kernel_rfl) (fun wd20 hS56 => (r_assign rfl)) hS56 fun ac332 hf343 => ?_
        refine any_end (by kernel_rfl) ?_
        clear hI53 ac322 hf333 ac323 hf334 ac324 hf335 ac325 hf336 ac326 hf337 ac327 hf338 ac328 hf339 ac329 hf340 ac330 hf341 ac331 hf342 hS56
        refine then_normal ?_
        refine any_start (fun w => Has [] w) follows (Has.drew Has.nil) ?_
        have hS57 : ∀ {w : World}, Has [] w := Has.nil
        have hI55 := hI54.drew
        refine any_val (i := 0) (v := .pointer (some ⟨b, 0, none⟩)) hf343 rfl rfl rfl rfl rfl rfl (fun _ _ _ h => h) (by kernel_rfl) (by kernel_rfl) (by kernel_rfl) (fun wd20 hS57 => (r_move rfl)) hS57 fun ac333 hf344 => ?_
        refine any_val (i := 1) (v := .pointer (some ⟨b, 0, none⟩)) hf344 rfl rfl rfl rfl rfl rfl (fun _ _ _ h => h) (by kernel_rfl) (by kernel_rfl) (by kernel_rfl) (fun wd20 hS57 => (r_move rfl)) hS57 fun ac334 hf345 => ?_
        refine any_val (i := 2) (v := .pointer (some ⟨b, 0, none⟩)) hf345 rfl rfl rfl rfl rfl rfl (fun _ _ _ h => h) (by kernel_rfl) (by kernel_rfl) (by kernel_rfl) (fun wd20 hS57 => (r_nilCheck rfl)) hS57 fun ac335 hf346 => ?_
        refine any_val (i := 3) (v := .pointer (some ⟨b, 6, none⟩)) hf346 rfl rfl rfl rfl rfl rfl (fun _ _ _ h => h) (by kernel_rfl) (by kernel_rfl) (by kernel_rfl) (fun wd20 hS57 => (r_fieldAddr fi_58_2 rfl rfl)) hS57 fun ac336 hf347 => ?_
        refine any_val (i := 5) (v := .pointer (some ⟨b, 0, none⟩)) hf347 rfl rfl rfl rfl rfl rfl (fun _ _ _ h => h) (by kernel_rfl) (by kernel_rfl) (by kernel_rfl) (fun wd20 hS57 => (r_move rfl)) hS57 fun ac337 hf348 => ?_
        refine any_val (i := 6) (v := .pointer (some ⟨b, 0, none⟩)) hf348 rfl rfl rfl rfl rfl rfl (fun _ _ _ h => h) (by kernel_rfl) (by kernel_rfl) (by kernel_rfl) (fun wd20 hS57 => (r_move rfl)) hS57 fun ac338 hf349 => ?_
        refine any_val (i := 7) (v := .pointer (some ⟨b, 0, none⟩)) hf349 rfl rfl rfl rfl rfl rfl (fun _ _ _ h => h) (by kernel_rfl) (by kernel_rfl) (by kernel_rfl) (fun wd20 hS57 => (r_nilCheck rfl)) hS57 fun ac339 hf350 => ?_
        refine any_val (i := 8) (v := .pointer (some ⟨b, 6, none⟩)) hf350 rfl rfl rfl rfl rfl rfl (fun _ _ _ h => h) (by kernel_rfl) (by kernel_rfl) (by kernel_rfl) (fun wd20 hS57 => (r_fieldAddr fi_58_2 rfl rfl)) hS57 fun ac340 hf351 => ?_
        refine any_val (i := 10) (v := .pointer (some ⟨b, 0, none⟩)) hf351 rfl rfl rfl rfl rfl rfl (fun _ _ _ h => h) (by kernel_rfl) (by kernel_rfl) (by kernel_rfl) (fun wd20 hS57 => (r_nilCheck rfl)) hS57 fun ac341 hf352 => ?_
        refine any_val (i := 11) (v := .pointer (some ⟨b, 3, none⟩)) hf352 rfl rfl rfl rfl rfl rfl (fun _ _ _ h => h) (by kernel_rfl) (by kernel_rfl) (by kernel_rfl) (fun wd20 hS57 => (r_fieldAddr fi_58_1 rfl rfl)) hS57 fun ac342 hf353 => ?_
        refine any_val (i := 14) (v := .int .i64 w0) hf353 rfl rfl rfl rfl rfl rfl (fun _ _ _ h => h) (by kernel_rfl) (by kernel_rfl) (by kernel_rfl) (fun wd20 hS57 => (r_move rfl)) hS57 fun ac343 hf354 => ?_
        refine any_val (i := 16) (v := .int .i64 w0) hf354 rfl rfl rfl rfl rfl rfl (fun _ _ _ h => h) (by kernel_rfl) (by kernel_rfl) (by kernel_rfl) (fun wd20 hS57 => (r_move rfl)) hS57 fun ac344 hf355 => ?_
        refine any_val (i := 18) (v := .pointer (some ⟨b, 0, none⟩)) hf355 rfl rfl rfl rfl rfl rfl (fun _ _ _ h => h) (by kernel_rfl) (by kernel_rfl) (by kernel_rfl) (fun wd20 hS57 => (r_nilCheck rfl)) hS57 fun ac345 hf356 => ?_
        refine any_val (i := 19) (v := .pointer (some ⟨b, 3, none⟩)) hf356 rfl rfl rfl rfl rfl rfl (fun _ _ _ h => h) (by kernel_rfl) (by kernel_rfl) (by kernel_rfl) (fun wd20 hS57 => (r_fieldAddr fi_58_1 rfl rfl)) hS57 fun ac346 hf357 => ?_
        refine any_two (i := 4) (j := 9) (by kernel_rfl) ?_ ?_
        ·
          refine op_val (v := .int .i64 0) hf357 rfl rfl rfl rfl rfl rfl (r_load ag_3 rfl (hI55.at 0 rfl) rfl) fun ac347 hf358 => ⟨?_, ?_⟩
          · exact Has.nil
          have hS58 : ∀ {w : World}, Has [] w := Has.nil
          refine any_one (i := 9) (by kernel_rfl) ?_
          refine op_val (v := .int .i64 0) hf358 rfl rfl rfl rfl rfl rfl (r_load ag_3 rfl (hI55.at 0 rfl) rfl) fun ac348 hf359 => ⟨?_, ?_⟩
          · exact Has.nil
          have hS59 : ∀ {w : World}, Has [] w := Has.nil
          refine any_val (i := 12) (v := .pointer (some ⟨b, 3, none⟩)) hf359 rfl rfl rfl rfl rfl rfl (fun _ _ _ h => h) (by kernel_rfl) (by kernel_rfl) (by kernel_rfl) (fun wd20 hS59 => (r_indexAddr (i := 0) ar_22 rfl rfl rfl (by decide) rfl)) hS59 fun ac349 hf360 => ?_
          refine any_one (i := 13) (by kernel_rfl) ?_
          refine op_val (v := .int .i64 d0) hf360 rfl rfl rfl rfl rfl rfl (r_load ag_3 rfl (hI55.at 0 rfl) rfl) fun ac350 hf361 => ⟨?_, ?_⟩
          · exact Has.nil
          have hS60 : ∀ {w : World}, Has [] w := Has.nil
          refine any_val (i := 15) (v := .int .i64 (d0 + w0)) hf361 rfl rfl rfl rfl rfl rfl (fun _ _ _ h => h) (by kernel_rfl) (by kernel_rfl) (by kernel_rfl) (fun wd20 hS60 => (r_add (c := (d0 + w0)) rfl rfl (by have h1 := hx1.1.l0; have h2 := hx1.1.r0; have h3 := hv.r0; have h4 := hv.l0; dsimp only at h1 h2; exact wrap_i64 (by omega) (by omega)))) hS60 fun ac351 hf362 => ?_
          refine any_val (i := 17) (v := .int .i64 (if w0 < (d0 + w0) then w0 else (d0 + w0))) hf362 rfl rfl rfl rfl rfl rfl (fun _ _ _ h => h) (by kernel_rfl) (by kernel_rfl) (by kernel_rfl) (fun wd20 hS60 => (r_min rfl rfl)) hS60 fun ac352 hf363 => ?_
          refine any_val (i := 20) (v := .pointer (some ⟨b, 3, none⟩)) hf363 rfl rfl rfl rfl rfl rfl (fun _ _ _ h => h) (by kernel_rfl) (by kernel_rfl) (by kernel_rfl) (fun wd20 hS60 => (r_indexAddr (i := 0) ar_22 rfl rfl rfl (by decide) rfl)) hS60 fun ac353 hf364 => ?_
          refine any_one (i := 21) (by kernel_rfl) ?_
          refine (op_store (cs' := #[.int .i64 w0, .int .i64 w1, .int .i64 w2, .int .i64 (if w0 < (d0 + w0) then w0 else (d0 + w0)), .int .i64 d1, .int .i64 d2, .int .i64 0]) 0 hf364 rfl rfl rfl rfl rfl sz_3 hI55 rfl (ltb rfl) (by kernel_rfl) fun wd21 hI56 => ⟨?_, ?_⟩)
          · exact Has.nil
          have hI57 : Inv w [(b, #[.int .i64 w0, .int .i64 w1, .int .i64 w2, .int .i64 (if w0 < (d0 + w0) then w0 else (d0 + w0)), .int .i64 d1, .int .i64 d2, .int .i64 0], 58), (b1, #[.bool h0, .bool h1, .bool h2], 33)] wd21 := hI56
          have hS61 : ∀ {w : World}, Has [] w := Has.nil
          refine any_end (by kernel_rfl) ?_
          clear hI54 ac332 hf343 ac333 hf344 ac334 hf345 ac335 hf346 ac336 hf347 ac337 hf348 ac338 hf349 ac339 hf350 ac340 hf351 ac341 hf352 ac342 hf353 ac343 hf354 ac344 hf355 ac345 hf356 ac346 hf357 hS57 ac347 hf358 hS58 ac348 hf359 ac349 hf360 hS59 ac350 hf361 ac351 hf362 ac352 hf363 wd20 hI55 hI56 hS60 hS61
          refine block_normal ?_
          refine then_normal ?_
          have hg : good h0 h1 h2 ⟨d0, d1, d2, 2⟩ = false := (good_eq2.trans (gf (.inl (nb g21_6))))
          exact ⟨(mn2 d0 w0, d1, d2, 0), (hf364.cons 0 rfl (hf364.cons 1 rfl (hf364.cons 3 rfl (hf364.cons 4 rfl (hf364.cons 5 rfl (hf364.cons 7 rfl (hf364.cons 8 rfl (hf364.cons 9 rfl (hf364.cons 10 rfl (hf364.cons 11 rfl (hf364.cons 12 rfl (hf364.cons 13 rfl hf364.nil)))))))))))), ⟨hI57, ⟨nxt_ok (s := ⟨d0, d1, d2, 2⟩) hv hx1.1, (pickS_step (s := ⟨d0, d1, d2, 2⟩) (w0 := w0) (w1 := w1) (w2 := w2) ha hv (.inr (.inr rfl)) hg).symm.trans hx1.2⟩⟩, meas_lt (s := ⟨d0, d1, d2, 2⟩) (w0 := w0) (w1 := w1) (w2 := w2) ha hv (.inr (.inr rfl)) hg⟩
        ·
          refine op_val (v := .int .i64 0) hf357 rfl rfl rfl rfl rfl rfl (r_load ag_3 rfl (hI55.at 0 rfl) rfl) fun ac354 hf365 => ⟨?_, ?_⟩
          · exact Has.nil
          have hS62 : ∀ {w : World}, Has [] w := Has.nil
          refine any_val (i := 12) (v := .pointer (some ⟨b, 3, none⟩)) hf365 rfl rfl rfl rfl rfl rfl (fun _ _ _ h => h) (by kernel_rfl) (by kernel_rfl) (by kernel_rfl) (fun wd20 hS62 => (r_indexAddr (i := 0) ar_22 rfl rfl rfl (by decide) rfl)) hS62 fun ac355 hf366 => ?_
          refine any_two (i := 4) (j := 13) (by kernel_rfl) ?_ ?_
          ·
            refine op_val (v := .int .i64 0) hf366 rfl rfl rfl rfl rfl rfl (r_load ag_3 rfl (hI55.at 0 rfl) rfl) fun ac356 hf367 => ⟨?_, ?_⟩
            · exact Has.nil
            have hS63 : ∀ {w : World}, Has [] w := Has.nil
            refine any_one (i := 13) (by kernel_rfl) ?_
            refine op_val (v := .int .i64 d0) hf367 rfl rfl rfl rfl rfl rfl (r_load ag_3 rfl (hI55.at 0 rfl) rfl) fun ac357 hf368 => ⟨?_, ?_⟩
            · exact Has.nil
            have hS64 : ∀ {w : World}, Has [] w := Has.nil
            refine any_val (i := 15) (v := .int .i64 (d0 + w0)) hf368 rfl rfl rfl rfl rfl rfl (fun _ _ _ h => h) (by kernel_rfl) (by kernel_rfl) (by kernel_rfl) (fun wd20 hS64 => (r_add (c := (d0 + w0)) rfl rfl (by have h1 := hx1.1.l0; have h2 := hx1.1.r0; have h3 := hv.r0; have h4 := hv.l0; dsimp only at h1 h2; exact wrap_i64 (by omega) (by omega)))) hS64 fun ac358 hf369 => ?_
            refine any_val (i := 17) (v := .int .i64 (if w0 < (d0 + w0) then w0 else (d0 + w0))) hf369 rfl rfl rfl rfl rfl rfl (fun _ _ _ h => h) (by kernel_rfl) (by kernel_rfl) (by kernel_rfl) (fun wd20 hS64 => (r_min rfl rfl)) hS64 fun ac359 hf370 => ?_
            refine any_val (i := 20) (v := .pointer (some ⟨b, 3, none⟩)) hf370 rfl rfl rfl rfl rfl rfl (fun _ _ _ h => h) (by kernel_rfl) (by kernel_rfl) (by kernel_rfl) (fun wd20 hS64 => (r_indexAddr (i := 0) ar_22 rfl rfl rfl (by decide) rfl)) hS64 fun ac360 hf371 => ?_
            refine any_one (i := 21) (by kernel_rfl) ?_
            refine (op_store (cs' := #[.int .i64 w0, .int .i64 w1, .int .i64 w2, .int .i64 (if w0 < (d0 + w0) then w0 else (d0 + w0)), .int .i64 d1, .int .i64 d2, .int .i64 0]) 0 hf371 rfl rfl rfl rfl rfl sz_3 hI55 rfl (ltb rfl) (by kernel_rfl) fun wd22 hI58 => ⟨?_, ?_⟩)
            · exact Has.nil
            have hI59 : Inv w [(b, #[.int .i64 w0, .int .i64 w1, .int .i64 w2, .int .i64 (if w0 < (d0 + w0) then w0 else (d0 + w0)), .int .i64 d1, .int .i64 d2, .int .i64 0], 58), (b1, #[.bool h0, .bool h1, .bool h2], 33)] wd22 := hI58
            have hS65 : ∀ {w : World}, Has [] w := Has.nil
            refine any_end (by kernel_rfl) ?_
            clear hI54 ac332 hf343 ac333 hf344 ac334 hf345 ac335 hf346 ac336 hf347 ac337 hf348 ac338 hf349 ac339 hf350 ac340 hf351 ac341 hf352 ac342 hf353 ac343 hf354 ac344 hf355 ac345 hf356 ac346 hf357 hS57 ac354 hf365 ac355 hf366 hS62 ac356 hf367 hS63 ac357 hf368 ac358 hf369 ac359 hf370 wd20 hI55 hI58 hS64 hS65
            refine block_normal ?_
            refine then_normal ?_
            have hg : good h0 h1 h2 ⟨d0, d1, d2, 2⟩ = false := (good_eq2.trans (gf (.inl (nb g21_6))))
            exact ⟨(mn2 d0 w0, d1, d2, 0), (hf371.cons 0 rfl (hf371.cons 1 rfl (hf371.cons 3 rfl (hf371.cons 4 rfl (hf371.cons 5 rfl (hf371.cons 7 rfl (hf371.cons 8 rfl (hf371.cons 9 rfl (hf371.cons 10 rfl (hf371.cons 11 rfl (hf371.cons 12 rfl (hf371.cons 13 rfl hf371.nil)))))))))))), ⟨hI59, ⟨nxt_ok (s := ⟨d0, d1, d2, 2⟩) hv hx1.1, (pickS_step (s := ⟨d0, d1, d2, 2⟩) (w0 := w0) (w1 := w1) (w2 := w2) ha hv (.inr (.inr rfl)) hg).symm.trans hx1.2⟩⟩, meas_lt (s := ⟨d0, d1, d2, 2⟩) (w0 := w0) (w1 := w1) (w2 := w2) ha hv (.inr (.inr rfl)) hg⟩
          ·
            refine op_val (v := .int .i64 d0) hf366 rfl rfl rfl rfl rfl rfl (r_load ag_3 rfl (hI55.at 0 rfl) rfl) fun ac361 hf372 => ⟨?_, ?_⟩
            · exact Has.nil
            have hS66 : ∀ {w : World}, Has [] w := Has.nil
            refine any_val (i := 15) (v := .int .i64 (d0 + w0)) hf372 rfl rfl rfl rfl rfl rfl (fun _ _ _ h => h) (by kernel_rfl) (by kernel_rfl) (by kernel_rfl) (fun wd20 hS66 => (r_add (c := (d0 + w0)) rfl rfl (by have h1 := hx1.1.l0; have h2 := hx1.1.r0; have h3 := hv.r0; have h4 := hv.l0; dsimp only at h1 h2; exact wrap_i64 (by omega) (by omega)))) hS66 fun ac362 hf373 => ?_
            refine any_val (i := 17) (v := .int .i64 (if w0 < (d0 + w0) then w0 else (d0 + w0))) hf373 rfl rfl rfl rfl rfl rfl (fun _ _ _ h => h) (by kernel_rfl) (by kernel_rfl) (by kernel_rfl) (fun wd20 hS66 => (r_min rfl rfl)) hS66 fun ac363 hf374 => ?_
            refine any_one (i := 4) (by kernel_rfl) ?_
            refine op_val (v := .int .i64 0) hf374 rfl rfl rfl rfl rfl rfl (r_load ag_3 rfl (hI55.at 0 rfl) rfl) fun ac364 hf375 => ⟨?_, ?_⟩
            · exact Has.nil
            have hS67 : ∀ {w : World}, Has [] w := Has.nil
            refine any_val (i := 20) (v := .pointer (some ⟨b, 3, none⟩)) hf375 rfl rfl rfl rfl rfl rfl (fun _ _ _ h => h) (by kernel_rfl) (by kernel_rfl) (by kernel_rfl) (fun wd20 hS67 => (r_indexAddr (i := 0) ar_22 rfl rfl rfl (by decide) rfl)) hS67 fun ac365 hf376 => ?_
            refine any_one (i := 21) (by kernel_rfl) ?_
            refine (op_store (cs' := #[.int .i64 w0, .int .i64 w1, .int .i64 w2, .int .i64 (if w0 < (d0 + w0) then w0 else (d0 + w0)), .int .i64 d1, .int .i64 d2, .int .i64 0]) 0 hf376 rfl rfl rfl rfl rfl sz_3 hI55 rfl (ltb rfl) (by kernel_rfl) fun wd23 hI60 => ⟨?_, ?_⟩)
            · exact Has.nil
            have hI61 : Inv w [(b, #[.int .i64 w0, .int .i64 w1, .int .i64 w2, .int .i64 (if w0 < (d0 + w0) then w0 else (d0 + w0)), .int .i64 d1, .int .i64 d2, .int .i64 0], 58), (b1, #[.bool h0, .bool h1, .bool h2], 33)] wd23 := hI60
            have hS68 : ∀ {w : World}, Has [] w := Has.nil
            refine any_end (by kernel_rfl) ?_
            clear hI54 ac332 hf343 ac333 hf344 ac334 hf345 ac335 hf346 ac336 hf347 ac337 hf348 ac338 hf349 ac339 hf350 ac340 hf351 ac341 hf352 ac342 hf353 ac343 hf354 ac344 hf355 ac345 hf356 ac346 hf357 hS57 ac354 hf365 ac355 hf366 hS62 ac361 hf372 ac362 hf373 ac363 hf374 hS66 ac364 hf375 wd20 hI55 hI60 hS67 hS68
            refine block_normal ?_
            refine then_normal ?_
            have hg : good h0 h1 h2 ⟨d0, d1, d2, 2⟩ = false := (good_eq2.trans (gf (.inl (nb g21_6))))
            exact ⟨(mn2 d0 w0, d1, d2, 0), (hf376.cons 0 rfl (hf376.cons 1 rfl (hf376.cons 3 rfl (hf376.cons 4 rfl (hf376.cons 5 rfl (hf376.cons 7 rfl (hf376.cons 8 rfl (hf376.cons 9 rfl (hf376.cons 10 rfl (hf376.cons 11 rfl (hf376.cons 12 rfl (hf376.cons 13 rfl hf376.nil)))))))))))), ⟨hI61, ⟨nxt_ok (s := ⟨d0, d1, d2, 2⟩) hv hx1.1, (pickS_step (s := ⟨d0, d1, d2, 2⟩) (w0 := w0) (w1 := w1) (w2 := w2) ha hv (.inr (.inr rfl)) hg).symm.trans hx1.2⟩⟩, meas_lt (s := ⟨d0, d1, d2, 2⟩) (w0 := w0) (w1 := w1) (w2 := w2) ha hv (.inr (.inr rfl)) hg⟩
      · have hf377 := hf312.know 21 (u := .bool false) rfl (congrArg Value.bool g21_6)
        refine any_val (i := 8) (v := .pointer (some ⟨b, 0, none⟩)) hf377 rfl rfl rfl rfl rfl rfl (fun _ _ _ h => h) (by kernel_rfl) (by kernel_rfl) (by kernel_rfl) (fun wd3 hS55 => (r_move rfl)) hS55 fun ac366 hf378 => ?_
        refine any_val (i := 9) (v := .pointer (some ⟨b, 0, none⟩)) hf378 rfl rfl rfl rfl rfl rfl (fun _ _ _ h => h) (by kernel_rfl) (by kernel_rfl) (by kernel_rfl) (fun wd3 hS55 => (r_move rfl)) hS55 fun ac367 hf379 => ?_
        refine any_val (i := 10) (v := .pointer (some ⟨b, 0, none⟩)) hf379 rfl rfl rfl rfl rfl rfl (fun _ _ _ h => h) (by kernel_rfl) (by kernel_rfl) (by kernel_rfl) (fun wd3 hS55 => (r_nilCheck rfl)) hS55 fun ac368 hf380 => ?_
        refine any_val (i := 11) (v := .pointer (some ⟨b, 6, none⟩)) hf380 rfl rfl rfl rfl rfl rfl (fun _ _ _ h => h) (by kernel_rfl) (by kernel_rfl) (by kernel_rfl) (fun wd3 hS55 => (r_fieldAddr fi_58_2 rfl rfl)) hS55 fun ac369 hf381 => ?_
        refine any_val (i := 12) (v := .int .i64 2) hf381 rfl rfl rfl rfl rfl rfl (fun _ _ _ h => h) (by kernel_rfl) (by kernel_rfl) (by kernel_rfl) (fun wd3 hS55 => (r_load ag_3 rfl (hS55.at 0 rfl) rfl)) hS55 fun ac370 hf382 => ?_
        refine any_val (i := 13) (v := .pointer (some ⟨b, 0, none⟩)) hf382 rfl rfl rfl rfl rfl rfl (fun _ _ _ h => h) (by kernel_rfl) (by kernel_rfl) (by kernel_rfl) (fun wd3 hS55 => (r_nilCheck rfl)) hS55 fun ac371 hf383 => ?_
        refine any_val (i := 14) (v := .pointer (some ⟨b, 3, none⟩)) hf383 rfl rfl rfl rfl rfl rfl (fun _ _ _ h => h) (by kernel_rfl) (by kernel_rfl) (by kernel_rfl) (fun wd3 hS55 => (r_fieldAddr fi_58_1 rfl rfl)) hS55 fun ac372 hf384 => ?_
        refine any_val (i := 15) (v := .pointer (some ⟨b, 5, none⟩)) hf384 rfl rfl rfl rfl rfl rfl (fun _ _ _ h => h) (by kernel_rfl) (by kernel_rfl) (by kernel_rfl) (fun wd3 hS55 => (r_indexAddr (i := 2) ar_22 rfl rfl rfl (by decide) rfl)) hS55 fun ac373 hf385 => ?_
        refine any_val (i := 16) (v := .int .i64 d2) hf385 rfl rfl rfl rfl rfl rfl (fun _ _ _ h => h) (by kernel_rfl) (by kernel_rfl) (by kernel_rfl) (fun wd3 hS55 => (r_load ag_3 rfl (hS55.at 0 rfl) rfl)) hS55 fun ac374 hf386 => ?_
        refine any_val (i := 17) (v := .bool (decide (d2 ≤ 0))) hf386 rfl rfl rfl rfl rfl rfl (fun _ _ _ h => h) (by kernel_rfl) (by kernel_rfl) (by kernel_rfl) (fun wd3 hS55 => (r_leq rfl rfl)) hS55 fun ac375 hf387 => ?_
        refine any_val (i := 18) (v := .bool (decide (d2 ≤ 0))) hf387 rfl rfl rfl rfl rfl rfl (fun _ _ _ h => h) (by kernel_rfl) (by kernel_rfl) (by kernel_rfl) (fun wd3 hS55 => (r_pickF rfl rfl)) hS55 fun ac376 hf388 => ?_
        refine any_end (by kernel_rfl) ?_
        clear hI6 ac14 hf16 ac295 hf305 ac296 hf306 ac297 hf307 ac298 hf308 ac299 hf309 ac300 hf310 ac301 hf311 hf312 ac302 hf377 ac366 hf378 ac367 hf379 ac368 hf380 ac369 hf381 ac370 hf382 ac371 hf383 ac372 hf384 ac373 hf385 ac374 hf386 ac375 hf387 hS55
        refine then_normal ?_
        refine code_if hf388 rfl (fun c32_7 => ?_) (fun c32_7 => ?_)
        · have hf389 := hf388.know 32 (u := .bool true) rfl (congrArg Value.bool c32_7)
          refine wp_skip ?_
          refine then_normal ?_
          refine wp_block ?_
          refine code_seq ?_
          refine seq_start (l := [0, 1, 2, 3, 4, 5, 6, 7, 8, 9]) rfl ?_
          refine seq_one (op_val (v := .pointer (some ⟨b, 0, none⟩)) hf389 rfl rfl rfl rfl rfl rfl (r_move rfl) fun ac377 hf390 => ?_)
          refine seq_one (op_val (v := .pointer (some ⟨b, 0, none⟩)) hf390 rfl rfl rfl rfl rfl rfl (r_move rfl) fun ac378 hf391 => ?_)
          refine seq_one (op_val (v := .pointer (some ⟨b, 0, none⟩)) hf391 rfl rfl rfl rfl rfl rfl (r_nilCheck rfl) fun ac379 hf392 => ?_)
          refine seq_one (op_val (v := .pointer (some ⟨b, 6, none⟩)) hf392 rfl rfl rfl rfl rfl rfl (r_fieldAddr fi_58_2 rfl rfl) fun ac380 hf393 => ?_)
          refine seq_one (op_val (v := .int .i64 2) hf393 rfl rfl rfl rfl rfl rfl (r_load ag_3 rfl (hI51.at 0 rfl) rfl) fun ac381 hf394 => ?_)
          refine seq_one (op_val (v := .int .i64 3) hf394 rfl rfl rfl rfl rfl rfl (r_add (c := 3) rfl rfl (by rfl)) fun ac382 hf395 => ?_)
          refine seq_one (op_val (v := .int .i64 0) hf395 rfl rfl rfl rfl rfl rfl (r_rem (c := 0) rfl rfl (by decide) (by rfl)) fun ac383 hf396 => ?_)
          refine seq_one (op_val (v := .pointer (some ⟨b, 0, none⟩)) hf396 rfl rfl rfl rfl rfl rfl (r_nilCheck rfl) fun ac384 hf397 => ?_)
          refine seq_one (op_val (v := .pointer (some ⟨b, 6, none⟩)) hf397 rfl rfl rfl rfl rfl rfl (r_fieldAddr fi_58_2 rfl rfl) fun ac385 hf398 => ?_)
          refine seq_one (op_store (cs' := #[.int .i64 w0, .int .i64 w1, .int .i64 w2, .int .i64 d0, .int .i64 d1, .int .i64 d2, .int .i64 0]) 0 hf398 rfl rfl rfl rfl rfl sz_3 hI51 rfl (ltb rfl) (by kernel_rfl) fun wd24 hI62 => ?_)
          have hI63 : Inv w [(b, #[.int .i64 w0, .int .i64 w1, .int .i64 w2, .int .i64 d0, .int .i64 d1, .int .i64 d2, .int .i64 0], 58), (b1, #[.bool h0, .bool h1, .bool h2], 33)] wd24 := hI62
          refine seq_end ?_
          clear hf388 ac376 hf389 ac377 hf390 ac378 hf391 ac379 hf392 ac380 hf393 ac381 hf394 ac382 hf395 ac383 hf396 ac384 hf397 wd3 hI51 hI62
          refine then_normal ?_
          refine code_seq ?_
          refine any_start (fun w => Has [(b, #[.int .i64 w0, .int .i64 w1, .int .i64 w2, .int .i64 d0, .int .i64 d1, .int .i64 d2, .int .i64 0], 58)] w) follows (Has.drew (Has.cons (hI63.at 0 rfl) Has.nil)) ?_
          have hS69 : Has [(b, #[.int .i64 w0, .int .i64 w1, .int .i64 w2, .int .i64 d0, .int .i64 d1, .int .i64 d2, .int .i64 0], 58)] _ := Has.drew (Has.cons (hI63.at 0 rfl) Has.nil)
          have hI64 := hI63.drew
          refine any_val (i := 0) (v := .pointer (some ⟨b, 0, none⟩)) hf398 rfl rfl rfl rfl rfl rfl (fun _ _ _ h => h) (by kernel_rfl) (by kernel_rfl) (by kernel_rfl) (fun wd24 hS69 => (r_move rfl)) hS69 fun ac386 hf399 => ?_
          refine any_val (i := 1) (v := .pointer (some ⟨b, 0, none⟩)) hf399 rfl rfl rfl rfl rfl rfl (fun _ _ _ h => h) (by kernel_rfl) (by kernel_rfl) (by kernel_rfl) (fun wd24 hS69 => (r_move rfl)) hS69 fun ac387 hf400 => ?_
          refine any_val (i := 2) (v := .pointer (some ⟨b, 0, none⟩)) hf400 rfl rfl rfl rfl rfl rfl (fun _ _ _ h => h) (by kernel_rfl) (by kernel_rfl) (by kernel_rfl) (fun wd24 hS69 => (r_nilCheck rfl)) hS69 fun ac388 hf401 => ?_
          refine any_val (i := 3) (v := .pointer (some ⟨b, 6, none⟩)) hf401 rfl rfl rfl rfl rfl rfl (fun _ _ _ h => h) (by kernel_rfl) (by kernel_rfl) (by kernel_rfl) (fun wd24 hS69 => (r_fieldAddr fi_58_2 rfl rfl)) hS69 fun ac389 hf402 => ?_
          refine any_val (i := 4) (v := .int .i64 0) hf402 rfl rfl rfl rfl rfl rfl (fun _ _ _ h => h) (by kernel_rfl) (by kernel_rfl) (by kernel_rfl) (fun wd24 hS69 => (r_load ag_3 rfl (hS69.at 0 rfl) rfl)) hS69 fun ac390 hf403 => ?_
          refine any_val (i := 5) (v := .pointer (some ⟨b, 0, none⟩)) hf403 rfl rfl rfl rfl rfl rfl (fun _ _ _ h => h) (by kernel_rfl) (by kernel_rfl) (by kernel_rfl) (fun wd24 hS69 => (r_nilCheck rfl)) hS69 fun ac391 hf404 => ?_
          refine any_val (i := 6) (v := .pointer (some ⟨b, 0, none⟩)) hf404 rfl rfl rfl rfl rfl rfl (fun _ _ _ h => h) (by kernel_rfl) (by kernel_rfl) (by kernel_rfl) (fun wd24 hS69 => (r_fieldAddr fi_58_0 rfl rfl)) hS69 fun ac392 hf405 => ?_
          refine any_val (i := 7) (v := .pointer (some ⟨b, 0, none⟩)) hf405 rfl rfl rfl rfl rfl rfl (fun _ _ _ h => h) (by kernel_rfl) (by kernel_rfl) (by kernel_rfl) (fun wd24 hS69 => (r_indexAddr (i := 0) ar_22 rfl rfl rfl (by decide) rfl)) hS69 fun ac393 hf406 => ?_
          refine any_val (i := 8) (v := .int .i64 w0) hf406 rfl rfl rfl rfl rfl rfl (fun _ _ _ h => h) (by kernel_rfl) (by kernel_rfl) (by kernel_rfl) (fun wd24 hS69 => (r_load ag_3 rfl (hS69.at 0 rfl) rfl)) hS69 fun ac394 hf407 => ?_
          refine any_val (i := 9) (v := .int .i64 w0) hf407 rfl rfl rfl rfl rfl rfl (fun _ _ _ h => h) (by kernel_rfl) (by kernel_rfl) (by kernel_rfl) (fun wd24 hS69 => (r_assign rfl)) hS69 fun ac395 hf408 => ?_
          refine any_end (by kernel_rfl) ?_
          clear hI63 ac385 hf398 ac386 hf399 ac387 hf400 ac388 hf401 ac389 hf402 ac390 hf403 ac391 hf404 ac392 hf405 ac393 hf406 ac394 hf407 hS69
          refine then_normal ?_
          refine any_start (fun w => Has [] w) follows (Has.drew Has.nil) ?_
          have hS70 : ∀ {w : World}, Has [] w := Has.nil
          have hI65 := hI64.drew
          refine any_val (i := 0) (v := .pointer (some ⟨b, 0, none⟩)) hf408 rfl rfl rfl rfl rfl rfl (fun _ _ _ h => h) (by kernel_rfl) (by kernel_rfl) (by kernel_rfl) (fun wd24 hS70 => (r_move rfl)) hS70 fun ac396 hf409 => ?_
          refine any_val (i := 1) (v := .pointer (some ⟨b, 0, none⟩)) hf409 rfl rfl rfl rfl rfl rfl (fun _ _ _ h => h) (by kernel_rfl) (by kernel_rfl) (by kernel_rfl) (fun wd24 hS70 => (r_move rfl)) hS70 fun ac397 hf410 => ?_
          refine any_val (i := 2) (v := .pointer (some ⟨b, 0, none⟩)) hf410 rfl rfl rfl rfl rfl rfl (fun _ _ _ h => h) (by kernel_rfl) (by kernel_rfl) (by kernel_rfl) (fun wd24 hS70 => (r_nilCheck rfl)) hS70 fun ac398 hf411 => ?_
          refine any_val (i := 3) (v := .pointer (some ⟨b, 6, none⟩)) hf411 rfl rfl rfl rfl rfl rfl (fun _ _ _ h => h) (by kernel_rfl) (by kernel_rfl) (by kernel_rfl) (fun wd24 hS70 => (r_fieldAddr fi_58_2 rfl rfl)) hS70 fun ac399 hf412 => ?_
          refine any_val (i := 5) (v := .pointer (some ⟨b, 0, none⟩)) hf412 rfl rfl rfl rfl rfl rfl (fun _ _ _ h => h) (by kernel_rfl) (by kernel_rfl) (by kernel_rfl) (fun wd24 hS70 => (r_move rfl)) hS70 fun ac400 hf413 => ?_
          refine any_val (i := 6) (v := .pointer (some ⟨b, 0, none⟩)) hf413 rfl rfl rfl rfl rfl rfl (fun _ _ _ h => h) (by kernel_rfl) (by kernel_rfl) (by kernel_rfl) (fun wd24 hS70 => (r_move rfl)) hS70 fun ac401 hf414 => ?_
          refine any_val (i := 7) (v := .pointer (some ⟨b, 0, none⟩)) hf414 rfl rfl rfl rfl rfl rfl (fun _ _ _ h => h) (by kernel_rfl) (by kernel_rfl) (by kernel_rfl) (fun wd24 hS70 => (r_nilCheck rfl)) hS70 fun ac402 hf415 => ?_
          refine any_val (i := 8) (v := .pointer (some ⟨b, 6, none⟩)) hf415 rfl rfl rfl rfl rfl rfl (fun _ _ _ h => h) (by kernel_rfl) (by kernel_rfl) (by kernel_rfl) (fun wd24 hS70 => (r_fieldAddr fi_58_2 rfl rfl)) hS70 fun ac403 hf416 => ?_
          refine any_val (i := 10) (v := .pointer (some ⟨b, 0, none⟩)) hf416 rfl rfl rfl rfl rfl rfl (fun _ _ _ h => h) (by kernel_rfl) (by kernel_rfl) (by kernel_rfl) (fun wd24 hS70 => (r_nilCheck rfl)) hS70 fun ac404 hf417 => ?_
          refine any_val (i := 11) (v := .pointer (some ⟨b, 3, none⟩)) hf417 rfl rfl rfl rfl rfl rfl (fun _ _ _ h => h) (by kernel_rfl) (by kernel_rfl) (by kernel_rfl) (fun wd24 hS70 => (r_fieldAddr fi_58_1 rfl rfl)) hS70 fun ac405 hf418 => ?_
          refine any_val (i := 14) (v := .int .i64 w0) hf418 rfl rfl rfl rfl rfl rfl (fun _ _ _ h => h) (by kernel_rfl) (by kernel_rfl) (by kernel_rfl) (fun wd24 hS70 => (r_move rfl)) hS70 fun ac406 hf419 => ?_
          refine any_val (i := 16) (v := .int .i64 w0) hf419 rfl rfl rfl rfl rfl rfl (fun _ _ _ h => h) (by kernel_rfl) (by kernel_rfl) (by kernel_rfl) (fun wd24 hS70 => (r_move rfl)) hS70 fun ac407 hf420 => ?_
          refine any_val (i := 18) (v := .pointer (some ⟨b, 0, none⟩)) hf420 rfl rfl rfl rfl rfl rfl (fun _ _ _ h => h) (by kernel_rfl) (by kernel_rfl) (by kernel_rfl) (fun wd24 hS70 => (r_nilCheck rfl)) hS70 fun ac408 hf421 => ?_
          refine any_val (i := 19) (v := .pointer (some ⟨b, 3, none⟩)) hf421 rfl rfl rfl rfl rfl rfl (fun _ _ _ h => h) (by kernel_rfl) (by kernel_rfl) (by kernel_rfl) (fun wd24 hS70 => (r_fieldAddr fi_58_1 rfl rfl)) hS70 fun ac409 hf422 => ?_
          refine any_two (i := 4) (j := 9) (by kernel_rfl) ?_ ?_
          ·
            refine op_val (v := .int .i64 0) hf422 rfl rfl rfl rfl rfl rfl (r_load ag_3 rfl (hI65.at 0 rfl) rfl) fun ac410 hf423 => ⟨?_, ?_⟩
            · exact Has.nil
            have hS71 : ∀ {w : World}, Has [] w := Has.nil
            refine any_one (i := 9) (by kernel_rfl) ?_
            refine op_val (v := .int .i64 0) hf423 rfl rfl rfl rfl rfl rfl (r_load ag_3 rfl (hI65.at 0 rfl) rfl) fun ac411 hf424 => ⟨?_, ?_⟩
            · exact Has.nil
            have hS72 : ∀ {w : World}, Has [] w := Has.nil
            refine any_val (i := 12) (v := .pointer (some ⟨b, 3, none⟩)) hf424 rfl rfl rfl rfl rfl rfl (fun _ _ _ h => h) (by kernel_rfl) (by kernel_rfl) (by kernel_rfl) (fun wd24 hS72 => (r_indexAddr (i := 0) ar_22 rfl rfl rfl (by decide) rfl)) hS72 fun ac412 hf425 => ?_
            refine any_one (i := 13) (by kernel_rfl) ?_
            refine op_val (v := .int .i64 d0) hf425 rfl rfl rfl rfl rfl rfl (r_load ag_3 rfl (hI65.at 0 rfl) rfl) fun ac413 hf426 => ⟨?_, ?_⟩
            · exact Has.nil
            have hS73 : ∀ {w : World}, Has [] w := Has.nil
            refine any_val (i := 15) (v := .int .i64 (d0 + w0)) hf426 rfl rfl rfl rfl rfl rfl (fun _ _ _ h => h) (by kernel_rfl) (by kernel_rfl) (by kernel_rfl) (fun wd24 hS73 => (r_add (c := (d0 + w0)) rfl rfl (by have h1 := hx1.1.l0; have h2 := hx1.1.r0; have h3 := hv.r0; have h4 := hv.l0; dsimp only at h1 h2; exact wrap_i64 (by omega) (by omega)))) hS73 fun ac414 hf427 => ?_
            refine any_val (i := 17) (v := .int .i64 (if w0 < (d0 + w0) then w0 else (d0 + w0))) hf427 rfl rfl rfl rfl rfl rfl (fun _ _ _ h => h) (by kernel_rfl) (by kernel_rfl) (by kernel_rfl) (fun wd24 hS73 => (r_min rfl rfl)) hS73 fun ac415 hf428 => ?_
            refine any_val (i := 20) (v := .pointer (some ⟨b, 3, none⟩)) hf428 rfl rfl rfl rfl rfl rfl (fun _ _ _ h => h) (by kernel_rfl) (by kernel_rfl) (by kernel_rfl) (fun wd24 hS73 => (r_indexAddr (i := 0) ar_22 rfl rfl rfl (by decide) rfl)) hS73 fun ac416 hf429 => ?_
            refine any_one (i := 21) (by kernel_rfl) ?_
            refine (op_store (cs' := #[.int .i64 w0, .int .i64 w1, .int .i64 w2, .int .i64 (if w0 < (d0 + w0) then w0 else (d0 + w0)), .int .i64 d1, .int .i64 d2, .int .i64 0]) 0 hf429 rfl rfl rfl rfl rfl sz_3 hI65 rfl (ltb rfl) (by kernel_rfl) fun wd25 hI66 => ⟨?_, ?_⟩)
            · exact Has.nil
            have hI67 : Inv w [(b, #[.int .i64 w0, .int .i64 w1, .int .i64 w2, .int .i64 (if w0 < (d0 + w0) then w0 else (d0 + w0)), .int .i64 d1, .int .i64 d2, .int .i64 0], 58), (b1, #[.bool h0, .bool h1, .bool h2], 33)] wd25 := hI66
            have hS74 : ∀ {w : World}, Has [] w := Has.nil
            refine any_end (by kernel_rfl) ?_
            clear hI64 ac395 hf408 ac396 hf409 ac397 hf410 ac398 hf411 ac399 hf412 ac400 hf413 ac401 hf414 ac402 hf415 ac403 hf416 ac404 hf417 ac405 hf418 ac406 hf419 ac407 hf420 ac408 hf421 ac409 hf422 hS70 ac410 hf423 hS71 ac411 hf424 ac412 hf425 hS72 ac413 hf426 ac414 hf427 ac415 hf428 wd24 hI65 hI66 hS73 hS74
            refine block_normal ?_
            refine then_normal ?_
            have hg : good h0 h1 h2 ⟨d0, d1, d2, 2⟩ = false := (good_eq2.trans (gf (.inr (of_decide_eq_true c32_7))))
            exact ⟨(mn2 d0 w0, d1, d2, 0), (hf429.cons 0 rfl (hf429.cons 1 rfl (hf429.cons 3 rfl (hf429.cons 4 rfl (hf429.cons 5 rfl (hf429.cons 7 rfl (hf429.cons 8 rfl (hf429.cons 9 rfl (hf429.cons 10 rfl (hf429.cons 11 rfl (hf429.cons 12 rfl (hf429.cons 13 rfl hf429.nil)))))))))))), ⟨hI67, ⟨nxt_ok (s := ⟨d0, d1, d2, 2⟩) hv hx1.1, (pickS_step (s := ⟨d0, d1, d2, 2⟩) (w0 := w0) (w1 := w1) (w2 := w2) ha hv (.inr (.inr rfl)) hg).symm.trans hx1.2⟩⟩, meas_lt (s := ⟨d0, d1, d2, 2⟩) (w0 := w0) (w1 := w1) (w2 := w2) ha hv (.inr (.inr rfl)) hg⟩
          ·
            refine op_val (v := .int .i64 0) hf422 rfl rfl rfl rfl rfl rfl (r_load ag_3 rfl (hI65.at 0 rfl) rfl) fun ac417 hf430 => ⟨?_, ?_⟩
            · exact Has.nil
            have hS75 : ∀ {w : World}, Has [] w := Has.nil
            refine any_val (i := 12) (v := .pointer (some ⟨b, 3, none⟩)) hf430 rfl rfl rfl rfl rfl rfl (fun _ _ _ h => h) (by kernel_rfl) (by kernel_rfl) (by kernel_rfl) (fun wd24 hS75 => (r_indexAddr (i := 0) ar_22 rfl rfl rfl (by decide) rfl)) hS75 fun ac418 hf431 => ?_
            refine any_two (i := 4) (j := 13) (by kernel_rfl) ?_ ?_
            ·
              refine op_val (v := .int .i64 0) hf431 rfl rfl rfl rfl rfl rfl (r_load ag_3 rfl (hI65.at 0 rfl) rfl) fun ac419 hf432 => ⟨?_, ?_⟩
              · exact Has.nil
              have hS76 : ∀ {w : World}, Has [] w := Has.nil
              refine any_one (i := 13) (by kernel_rfl) ?_
              refine op_val (v := .int .i64 d0) hf432 rfl rfl rfl rfl rfl rfl (r_load ag_3 rfl (hI65.at 0 rfl) rfl) fun ac420 hf433 => ⟨?_, ?_⟩
              · exact Has.nil
              have hS77 : ∀ {w : World}, Has [] w := Has.nil
              refine any_val (i := 15) (v := .int .i64 (d0 + w0)) hf433 rfl rfl rfl rfl rfl rfl (fun _ _ _ h => h) (by kernel_rfl) (by kernel_rfl) (by kernel_rfl) (fun wd24 hS77 => (r_add (c := (d0 + w0)) rfl rfl (by have h1 := hx1.1.l0; have h2 := hx1.1.r0; have h3 := hv.r0; have h4 := hv.l0; dsimp only at h1 h2; exact wrap_i64 (by omega) (by omega)))) hS77 fun ac421 hf434 => ?_
              refine any_val (i := 17) (v := .int .i64 (if w0 < (d0 + w0) then w0 else (d0 + w0))) hf434 rfl rfl rfl rfl rfl rfl (fun _ _ _ h => h) (by kernel_rfl) (by kernel_rfl) (by kernel_rfl) (fun wd24 hS77 => (r_min rfl rfl)) hS77 fun ac422 hf435 => ?_
              refine any_val (i := 20) (v := .pointer (some ⟨b, 3, none⟩)) hf435 rfl rfl rfl rfl rfl rfl (fun _ _ _ h => h) (by kernel_rfl) (by kernel_rfl) (by kernel_rfl) (fun wd24 hS77 => (r_indexAddr (i := 0) ar_22 rfl rfl rfl (by decide) rfl)) hS77 fun ac423 hf436 => ?_
              refine any_one (i := 21) (by kernel_rfl) ?_
              refine (op_store (cs' := #[.int .i64 w0, .int .i64 w1, .int .i64 w2, .int .i64 (if w0 < (d0 + w0) then w0 else (d0 + w0)), .int .i64 d1, .int .i64 d2, .int .i64 0]) 0 hf436 rfl rfl rfl rfl rfl sz_3 hI65 rfl (ltb rfl) (by kernel_rfl) fun wd26 hI68 => ⟨?_, ?_⟩)
              · exact Has.nil
              have hI69 : Inv w [(b, #[.int .i64 w0, .int .i64 w1, .int .i64 w2, .int .i64 (if w0 < (d0 + w0) then w0 else (d0 + w0)), .int .i64 d1, .int .i64 d2, .int .i64 0], 58), (b1, #[.bool h0, .bool h1, .bool h2], 33)] wd26 := hI68
              have hS78 : ∀ {w : World}, Has [] w := Has.nil
              refine any_end (by kernel_rfl) ?_
              clear hI64 ac395 hf408 ac396 hf409 ac397 hf410 ac398 hf411 ac399 hf412 ac400 hf413 ac401 hf414 ac402 hf415 ac403 hf416 ac404 hf417 ac405 hf418 ac406 hf419 ac407 hf420 ac408 hf421 ac409 hf422 hS70 ac417 hf430 ac418 hf431 hS75 ac419 hf432 hS76 ac420 hf433 ac421 hf434 ac422 hf435 wd24 hI65 hI68 hS77 hS78
              refine block_normal ?_
              refine then_normal ?_
              have hg : good h0 h1 h2 ⟨d0, d1, d2, 2⟩ = false := (good_eq2.trans (gf (.inr (of_decide_eq_true c32_7))))
              exact ⟨(mn2 d0 w0, d1, d2, 0), (hf436.cons 0 rfl (hf436.cons 1 rfl (hf436.cons 3 rfl (hf436.cons 4 rfl (hf436.cons 5 rfl (hf436.cons 7 rfl (hf436.cons 8 rfl (hf436.cons 9 rfl (hf436.cons 10 rfl (hf436.cons 11 rfl (hf436.cons 12 rfl (hf436.cons 13 rfl hf436.nil)))))))))))), ⟨hI69, ⟨nxt_ok (s := ⟨d0, d1, d2, 2⟩) hv hx1.1, (pickS_step (s := ⟨d0, d1, d2, 2⟩) (w0 := w0) (w1 := w1) (w2 := w2) ha hv (.inr (.inr rfl)) hg).symm.trans hx1.2⟩⟩, meas_lt (s := ⟨d0, d1, d2, 2⟩) (w0 := w0) (w1 := w1) (w2 := w2) ha hv (.inr (.inr rfl)) hg⟩
            ·
              refine op_val (v := .int .i64 d0) hf431 rfl rfl rfl rfl rfl rfl (r_load ag_3 rfl (hI65.at 0 rfl) rfl) fun ac424 hf437 => ⟨?_, ?_⟩
              · exact Has.nil
              have hS79 : ∀ {w : World}, Has [] w := Has.nil
              refine any_val (i := 15) (v := .int .i64 (d0 + w0)) hf437 rfl rfl rfl rfl rfl rfl (fun _ _ _ h => h) (by kernel_rfl) (by kernel_rfl) (by kernel_rfl) (fun wd24 hS79 => (r_add (c := (d0 + w0)) rfl rfl (by have h1 := hx1.1.l0; have h2 := hx1.1.r0; have h3 := hv.r0; have h4 := hv.l0; dsimp only at h1 h2; exact wrap_i64 (by omega) (by omega)))) hS79 fun ac425 hf438 => ?_
              refine any_val (i := 17) (v := .int .i64 (if w0 < (d0 + w0) then w0 else (d0 + w0))) hf438 rfl rfl rfl rfl rfl rfl (fun _ _ _ h => h) (by kernel_rfl) (by kernel_rfl) (by kernel_rfl) (fun wd24 hS79 => (r_min rfl rfl)) hS79 fun ac426 hf439 => ?_
              refine any_one (i := 4) (by kernel_rfl) ?_
              refine op_val (v := .int .i64 0) hf439 rfl rfl rfl rfl rfl rfl (r_load ag_3 rfl (hI65.at 0 rfl) rfl) fun ac427 hf440 => ⟨?_, ?_⟩
              · exact Has.nil
              have hS80 : ∀ {w : World}, Has [] w := Has.nil
              refine any_val (i := 20) (v := .pointer (some ⟨b, 3, none⟩)) hf440 rfl rfl rfl rfl rfl rfl (fun _ _ _ h => h) (by kernel_rfl) (by kernel_rfl) (by kernel_rfl) (fun wd24 hS80 => (r_indexAddr (i := 0) ar_22 rfl rfl rfl (by decide) rfl)) hS80 fun ac428 hf441 => ?_
              refine any_one (i := 21) (by kernel_rfl) ?_
              refine (op_store (cs' := #[.int .i64 w0, .int .i64 w1, .int .i64 w2, .int .i64 (if w0 < (d0 + w0) then w0 else (d0 + w0)), .int .i64 d1, .int .i64 d2, .int .i64 0]) 0 hf441 rfl rfl rfl rfl rfl sz_3 hI65 rfl (ltb rfl) (by kernel_rfl) fun wd27 hI70 => ⟨?_, ?_⟩)
              · exact Has.nil
              have hI71 : Inv w [(b, #[.int .i64 w0, .int .i64 w1, .int .i64 w2, .int .i64 (if w0 < (d0 + w0) then w0 else (d0 + w0)), .int .i64 d1, .int .i64 d2, .int .i64 0], 58), (b1, #[.bool h0, .bool h1, .bool h2], 33)] wd27 := hI70
              have hS81 : ∀ {w : World}, Has [] w := Has.nil
              refine any_end (by kernel_rfl) ?_
              clear hI64 ac395 hf408 ac396 hf409 ac397 hf410 ac398 hf411 ac399 hf412 ac400 hf413 ac401 hf414 ac402 hf415 ac403 hf416 ac404 hf417 ac405 hf418 ac406 hf419 ac407 hf420 ac408 hf421 ac409 hf422 hS70 ac417 hf430 ac418 hf431 hS75 ac424 hf437 ac425 hf438 ac426 hf439 hS79 ac427 hf440 wd24 hI65 hI70 hS80 hS81
              refine block_normal ?_
              refine then_normal ?_
              have hg : good h0 h1 h2 ⟨d0, d1, d2, 2⟩ = false := (good_eq2.trans (gf (.inr (of_decide_eq_true c32_7))))
              exact ⟨(mn2 d0 w0, d1, d2, 0), (hf441.cons 0 rfl (hf441.cons 1 rfl (hf441.cons 3 rfl (hf441.cons 4 rfl (hf441.cons 5 rfl (hf441.cons 7 rfl (hf441.cons 8 rfl (hf441.cons 9 rfl (hf441.cons 10 rfl (hf441.cons 11 rfl (hf441.cons 12 rfl (hf441.cons 13 rfl hf441.nil)))))))))))), ⟨hI71, ⟨nxt_ok (s := ⟨d0, d1, d2, 2⟩) hv hx1.1, (pickS_step (s := ⟨d0, d1, d2, 2⟩) (w0 := w0) (w1 := w1) (w2 := w2) ha hv (.inr (.inr rfl)) hg).symm.trans hx1.2⟩⟩, meas_lt (s := ⟨d0, d1, d2, 2⟩) (w0 := w0) (w1 := w1) (w2 := w2) ha hv (.inr (.inr rfl)) hg⟩
        · have hf442 := hf388.know 32 (u := .bool false) rfl (congrArg Value.bool c32_7)
          refine wp_exit ?_
          refine then_exit ?_
          refine then_exit ?_
          refine block_here ?_
          refine then_normal ?_
          refine code_seq ?_
          refine seq_start (l := [0, 1, 2, 3, 4, 5]) rfl ?_
          refine seq_one (op_val (v := .pointer (some ⟨b, 0, none⟩)) hf442 rfl rfl rfl rfl rfl rfl (r_move rfl) fun ac429 hf443 => ?_)
          refine seq_one (op_val (v := .pointer (some ⟨b, 0, none⟩)) hf443 rfl rfl rfl rfl rfl rfl (r_nilCheck rfl) fun ac430 hf444 => ?_)
          refine seq_one (op_val (v := .pointer (some ⟨b, 6, none⟩)) hf444 rfl rfl rfl rfl rfl rfl (r_fieldAddr fi_58_2 rfl rfl) fun ac431 hf445 => ?_)
          refine seq_one (op_val (v := .int .i64 2) hf445 rfl rfl rfl rfl rfl rfl (r_load ag_3 rfl (hI51.at 0 rfl) rfl) fun ac432 hf446 => ?_)
          refine seq_one (op_val (v := .int .i64 2) hf446 rfl rfl rfl rfl rfl rfl (r_assign rfl) fun ac433 hf447 => ?_)
          refine seq_one (op_val (v := .bool true) hf447 rfl rfl rfl rfl rfl rfl (r_assign rfl) fun ac434 hf448 => ?_)
          refine seq_end ?_
          clear hf388 ac376 hf442 ac429 hf443 ac430 hf444 ac431 hf445 ac432 hf446 ac433 hf447
          refine then_normal ?_
          refine wp_ret ?_
          refine post2 rfl hf448 rfl rfl ?_
          have hI72 : Inv w [(b, #[.int .i64 w0, .int .i64 w1, .int .i64 w2, .int .i64 d0, .int .i64 d1, .int .i64 d2, .int .i64 2], 58)] _ := (Inv.drop (A := [(b, #[.int .i64 w0, .int .i64 w1, .int .i64 w2, .int .i64 d0, .int .i64 d1, .int .i64 d2, .int .i64 2], 58)]) (B := [(b1, #[.bool h0, .bool h1, .bool h2], 33)]) hI51 (fresh_keys (ks := [b1]) rfl (fk_cons hb1 fk_nil)))
          have hg : good h0 h1 h2 ⟨d0, d1, d2, 2⟩ = true := good_eq2.trans (gt (nb' g21_6) (Int.not_le.1 (of_decide_eq_false c32_7)))
          have e1 := hx1.2.symm.trans (pickS_good (w0 := w0) (w1 := w1) (w2 := w2) ha hg)
          rw [pickN_some ha, ha, e1]
          exact ⟨rfl, hI72⟩
end Go.Proofs.Ytkfilmdnpocinaa
