/-
  Add and Get of count: what each call comes to.
-/
import Derived.Test.YtohkdjaobdgenaaFns3
namespace Go.Proofs.Ytohkdjaobdgenaa
set_option linter.unusedVariables false
set_option linter.unusedSimpArgs false
set_option maxRecDepth 100000
open Go.RowKit
set_option maxHeartbeats 8000000 in
theorem add_in {lb cb : Nat} {xs : List Int} {n k : Nat} (hl : xs.length = n) {j : Nat} {am : Int} (hj : j < n) (hk1 : 1 ≤ k) (hk2 : k ≤ 64) (hne : lb ≠ cb) {w : World} (h0_ : Has [(lb, arr .u64 xs, 24), (cb, #[.slice (some ⟨lb, 0, none⟩) n n, .int .i64 (k : Int)], 58)] w) : Calls Try.prog 16 [.pointer (some ⟨cb, 0, none⟩), .int .i64 (j : Int), .int .u64 am].toArray w fun e w' => e = .returned (.int .i64 0) ∧ Inv w [(lb, arr .u64 (xs.set j ((xs.getD j 0 + am) % pw k)), 24), (cb, #[.slice (some ⟨lb, 0, none⟩) n n, .int .i64 (k : Int)], 58)] w' := by
  have hI1 := Inv.startS h0_ (by simp [hne])
  refine enter (n := 14) Try.func16 rfl rfl rfl ?_
  intro ac1 hf1
  refine code_seq ?_
  refine seq_start (l := [0, 1, 2]) rfl ?_
  refine seq_one (op_box hf1 rfl rfl rfl rfl hI1 fun ac2 b1 wd1 hb1 hI2 hf2 => ?_)
  have hI3 : Inv w [(lb, arr .u64 xs, 24), (cb, #[.slice (some ⟨lb, 0, none⟩) n n, .int .i64 (k : Int)], 58), (b1, #[.pointer (some ⟨cb, 0, none⟩)], 30)] wd1 := hI2
  refine seq_one (op_box hf2 rfl rfl rfl rfl hI3 fun ac3 b2 wd2 hb2 hI4 hf3 => ?_)
  have hI5 : Inv w [(lb, arr .u64 xs, 24), (cb, #[.slice (some ⟨lb, 0, none⟩) n n, .int .i64 (k : Int)], 58), (b1, #[.pointer (some ⟨cb, 0, none⟩)], 30), (b2, #[.int .u64 am], 24)] wd2 := hI4
  refine seq_one (op_val (v := .int .i64 0) hf3 rfl rfl rfl rfl rfl rfl (r_assign rfl) fun ac4 hf4 => ?_)
  refine seq_end ?_
  clear ac1 hI1 hf1 hI2 ac2 wd1 hI3 hf2 hI4 ac3 hf3
  refine then_normal ?_
  refine code_seq ?_
  refine code_seq ?_
  refine seq_start (l := [0, 1]) rfl ?_
  refine seq_one (op_val (v := .pointer (some ⟨cb, 0, none⟩)) hf4 rfl rfl rfl rfl rfl rfl (r_load ag_30 rfl (hI5.at 2 rfl) rfl) fun ac5 hf5 => ?_)
  refine seq_one (op_pureW hf5 rfl rfl rfl rfl ca_25 (none_walk hl (hI5.ne (i := 0) (j := 1) rfl rfl (by decide)) (Has.cons (hI5.at 0 rfl) (Has.cons (hI5.at 1 rfl) Has.nil))) hI5 fun ac6 wd3 hI6 hf6 => ?_)
  refine seq_end ?_
  clear ac4 hf4 ac5 wd2 hI5 hf5
  refine then_normal ?_
  refine code_if_false hf6 rfl ?_
  refine wp_skip ?_
  refine then_normal ?_
  refine code_seq ?_
  refine code_seq ?_
  refine seq_start (l := [0, 1, 2, 3, 4]) rfl ?_
  refine seq_one (op_val (v := .pointer (some ⟨cb, 0, none⟩)) hf6 rfl rfl rfl rfl rfl rfl (r_load ag_30 rfl (hI6.at 2 rfl) rfl) fun ac7 hf7 => ?_)
  refine seq_one (op_val (v := .int .i64 (j : Int)) hf7 rfl rfl rfl rfl rfl rfl (r_move rfl) fun ac8 hf8 => ?_)
  refine seq_one (op_val (v := .func (.func 27) #[] #[.pointer (some ⟨b2, 0, none⟩), .pointer (some ⟨b1, 0, none⟩)]) hf8 rfl rfl rfl rfl rfl rfl (r_makeFunc rfl) fun ac9 hf9 => ?_)
  have hnd1 := hI6.nodup
  refine seq_one (op_call (R := fun v w' => v = .bool true ∧ Inv wd3 [(lb, arr .u64 (xs.set j ((xs.getD j 0 + am) % pw k)), 24), (cb, #[.slice (some ⟨lb, 0, none⟩) n n, .int .i64 (k : Int)], 58), (b1, #[.pointer (some ⟨cb, 0, none⟩)], 30), (b2, #[.int .u64 am], 24)] w') hf9 rfl rfl rfl rfl ca_26 ((at_in (S0 := [(lb, arr .u64 xs, 24), (cb, #[.slice (some ⟨lb, 0, none⟩) n n, .int .i64 (k : Int)], 58), (b1, #[.pointer (some ⟨cb, 0, none⟩)], 30), (b2, #[.int .u64 am], 24)]) (S := [(lb, arr .u64 (xs.set j ((xs.getD j 0 + am) % pw k)), 24), (cb, #[.slice (some ⟨lb, 0, none⟩) n n, .int .i64 (k : Int)], 58), (b1, #[.pointer (some ⟨cb, 0, none⟩)], 30), (b2, #[.int .u64 am], 24)]) (lb := lb) (j := j) (cap := [.pointer (some ⟨b2, 0, none⟩), .pointer (some ⟨b1, 0, none⟩)]) hI6.has hnd1 (List.mem_cons_of_mem _ (List.mem_cons_self ..)) rfl rfl hj ca_27 rfl (fun w1 h => (addc_walk hl hj hk1 hk2 hnd1 h))).mono fun _ _ h => ⟨_, h.1, rfl, h.2⟩) fun ac10 v wd4 hR hf10 => ?_)
  obtain ⟨rfl, hR⟩ := hR
  have hI7 : Inv w [(lb, arr .u64 (xs.set j ((xs.getD j 0 + am) % pw k)), 24), (cb, #[.slice (some ⟨lb, 0, none⟩) n n, .int .i64 (k : Int)], 58), (b1, #[.pointer (some ⟨cb, 0, none⟩)], 30), (b2, #[.int .u64 am], 24)] _ := Inv.callS (A := []) (S := [(lb, arr .u64 xs, 24), (cb, #[.slice (some ⟨lb, 0, none⟩) n n, .int .i64 (k : Int)], 58), (b1, #[.pointer (some ⟨cb, 0, none⟩)], 30), (b2, #[.int .u64 am], 24)]) (S' := [(lb, arr .u64 (xs.set j ((xs.getD j 0 + am) % pw k)), 24), (cb, #[.slice (some ⟨lb, 0, none⟩) n n, .int .i64 (k : Int)], 58), (b1, #[.pointer (some ⟨cb, 0, none⟩)], 30), (b2, #[.int .u64 am], 24)]) (L := []) (N := []) hI6 hR rfl (fun _ h => by cases h)
  refine seq_one (op_val (v := .bool false) hf10 rfl rfl rfl rfl rfl rfl ((r_not (b := true) rfl).trans rfl) fun ac11 hf11 => ?_)
  refine seq_end ?_
  clear ac6 hf6 ac7 hf7 ac8 hf8 ac9 wd3 hf9 hI6 hR hnd1 ac10 hf10
  refine then_normal ?_
  refine code_if_false hf11 rfl ?_
  refine wp_skip ?_
  refine then_normal ?_
  refine code_seq ?_
  refine seq_start (l := [0]) rfl ?_
  refine seq_one (op_val (v := .int .i64 0) hf11 rfl rfl rfl rfl rfl rfl (r_assign rfl) fun ac12 hf12 => ?_)
  refine seq_end ?_
  clear ac11 hf11
  refine then_normal ?_
  refine wp_ret ?_
  exact post1 rfl hf12 rfl ⟨rfl, Inv.drop (A := [(lb, arr .u64 (xs.set j ((xs.getD j 0 + am) % pw k)), 24), (cb, #[.slice (some ⟨lb, 0, none⟩) n n, .int .i64 (k : Int)], 58)]) (B := [(b1, #[.pointer (some ⟨cb, 0, none⟩)], 30), (b2, #[.int .u64 am], 24)]) hI7 (fresh_keys (ks := [b1, b2]) rfl (fk_cons hb1 (fk_cons hb2 fk_nil)))⟩
set_option maxHeartbeats 8000000 in
theorem add_out {lb cb : Nat} {xs : List Int} {n : Nat} {k : Int} (hl : xs.length = n) {i am : Int} (ho : i < 0 ∨ (n : Int) ≤ i) (hne : lb ≠ cb) {w : World} (h0_ : Has [(lb, arr .u64 xs, 24), (cb, #[.slice (some ⟨lb, 0, none⟩) n n, .int .i64 k], 58)] w) : Calls Try.prog 16 [.pointer (some ⟨cb, 0, none⟩), .int .i64 i, .int .u64 am].toArray w fun e w' => e = .returned (.int .i64 2) ∧ Inv w [] w' := by
  have hI1 := Inv.startS h0_ (by simp [hne])
  refine enter (n := 14) Try.func16 rfl rfl rfl ?_
  intro ac1 hf1
  refine code_seq ?_
  refine seq_start (l := [0, 1, 2]) rfl ?_
  refine seq_one (op_box hf1 rfl rfl rfl rfl hI1 fun ac2 b1 wd1 hb1 hI2 hf2 => ?_)
  have hI3 : Inv w [(lb, arr .u64 xs, 24), (cb, #[.slice (some ⟨lb, 0, none⟩) n n, .int .i64 k], 58), (b1, #[.pointer (some ⟨cb, 0, none⟩)], 30)] wd1 := hI2
  refine seq_one (op_box hf2 rfl rfl rfl rfl hI3 fun ac3 b2 wd2 hb2 hI4 hf3 => ?_)
  have hI5 : Inv w [(lb, arr .u64 xs, 24), (cb, #[.slice (some ⟨lb, 0, none⟩) n n, .int .i64 k], 58), (b1, #[.pointer (some ⟨cb, 0, none⟩)], 30), (b2, #[.int .u64 am], 24)] wd2 := hI4
  refine seq_one (op_val (v := .int .i64 0) hf3 rfl rfl rfl rfl rfl rfl (r_assign rfl) fun ac4 hf4 => ?_)
  refine seq_end ?_
  clear ac1 hI1 hf1 hI2 ac2 wd1 hI3 hf2 hI4 ac3 hf3
  refine then_normal ?_
  refine code_seq ?_
  refine code_seq ?_
  refine seq_start (l := [0, 1]) rfl ?_
  refine seq_one (op_val (v := .pointer (some ⟨cb, 0, none⟩)) hf4 rfl rfl rfl rfl rfl rfl (r_load ag_30 rfl (hI5.at 2 rfl) rfl) fun ac5 hf5 => ?_)
  refine seq_one (op_pureW hf5 rfl rfl rfl rfl ca_25 (none_walk hl (hI5.ne (i := 0) (j := 1) rfl rfl (by decide)) (Has.cons (hI5.at 0 rfl) (Has.cons (hI5.at 1 rfl) Has.nil))) hI5 fun ac6 wd3 hI6 hf6 => ?_)
  refine seq_end ?_
  clear ac4 hf4 ac5 wd2 hI5 hf5
  refine then_normal ?_
  refine code_if_false hf6 rfl ?_
  refine wp_skip ?_
  refine then_normal ?_
  refine code_seq ?_
  refine code_seq ?_
  refine seq_start (l := [0, 1, 2, 3, 4]) rfl ?_
  refine seq_one (op_val (v := .pointer (some ⟨cb, 0, none⟩)) hf6 rfl rfl rfl rfl rfl rfl (r_load ag_30 rfl (hI6.at 2 rfl) rfl) fun ac7 hf7 => ?_)
  refine seq_one (op_val (v := .int .i64 i) hf7 rfl rfl rfl rfl rfl rfl (r_move rfl) fun ac8 hf8 => ?_)
  refine seq_one (op_val (v := .func (.func 27) #[] #[.pointer (some ⟨b2, 0, none⟩), .pointer (some ⟨b1, 0, none⟩)]) hf8 rfl rfl rfl rfl rfl rfl (r_makeFunc rfl) fun ac9 hf9 => ?_)
  refine seq_one (op_pureW hf9 rfl rfl rfl rfl ca_26 (at_out (S0 := [(lb, arr .u64 xs, 24), (cb, #[.slice (some ⟨lb, 0, none⟩) n n, .int .i64 k], 58), (b1, #[.pointer (some ⟨cb, 0, none⟩)], 30), (b2, #[.int .u64 am], 24)]) _ hI6.has hI6.nodup (List.mem_cons_of_mem _ (List.mem_cons_self ..)) (fun h => by cases h) ho) hI6 fun ac10 wd4 hI7 hf10 => ?_)
  refine seq_one (op_val (v := .bool true) hf10 rfl rfl rfl rfl rfl rfl ((r_not (b := false) rfl).trans rfl) fun ac11 hf11 => ?_)
  refine seq_end ?_
  clear ac6 hf6 ac7 hf7 ac8 hf8 ac9 wd3 hI6 hf9 ac10 hf10
  refine then_normal ?_
  refine code_if_true hf11 rfl ?_
  refine code_seq ?_
  refine seq_start (l := [0]) rfl ?_
  refine seq_one (op_val (v := .int .i64 2) hf11 rfl rfl rfl rfl rfl rfl (r_assign rfl) fun ac12 hf12 => ?_)
  refine seq_end ?_
  clear ac11 hf11
  refine then_normal ?_
  refine wp_ret ?_
  refine then_ret ?_
  exact post1 rfl hf12 rfl ⟨rfl, (Inv.drop (A := [(lb, arr .u64 xs, 24), (cb, #[.slice (some ⟨lb, 0, none⟩) n n, .int .i64 k], 58)]) (B := [(b1, #[.pointer (some ⟨cb, 0, none⟩)], 30), (b2, #[.int .u64 am], 24)]) hI7 (fresh_keys (ks := [b1, b2]) rfl (fk_cons hb1 (fk_cons hb2 fk_nil)))).unread h0_⟩
set_option maxHeartbeats 8000000 in
theorem get_in {lb cb : Nat} {xs : List Int} {n : Nat} {k : Int} (hl : xs.length = n) {j : Nat} (hj : j < n) (hne : lb ≠ cb) {w : World} (h0_ : Has [(lb, arr .u64 xs, 24), (cb, #[.slice (some ⟨lb, 0, none⟩) n n, .int .i64 k], 58)] w) : Calls Try.prog 21 [.pointer (some ⟨cb, 0, none⟩), .int .i64 (j : Int)].toArray w fun e w' => e = .returned (.tuple #[.int .u64 (xs.getD j 0), .bool true]) ∧ Inv w [] w' := by
  have hI1 := Inv.startS h0_ (by simp [hne])
  refine enter (n := 14) Try.func21 rfl rfl rfl ?_
  intro ac1 hf1
  refine code_seq ?_
  refine seq_start (l := [0, 1]) rfl ?_
  refine seq_one (op_val (v := .int .u64 0) hf1 rfl rfl rfl rfl rfl rfl (r_assign rfl) fun ac2 hf2 => ?_)
  refine seq_one (op_val (v := .bool false) hf2 rfl rfl rfl rfl rfl rfl (r_assign rfl) fun ac3 hf3 => ?_)
  refine seq_end ?_
  clear ac1 hf1 ac2 hf2
  refine then_normal ?_
  refine code_seq ?_
  refine seq_start (l := [0, 1]) rfl ?_
  refine seq_one (op_alloc hf3 rfl rfl rfl ze_24 hI1 fun ac4 b1 wd1 hb1 hI2 hf4 => ?_)
  have hI3 : Inv w [(lb, arr .u64 xs, 24), (cb, #[.slice (some ⟨lb, 0, none⟩) n n, .int .i64 k], 58), (b1, #[.int .u64 0], 24)] wd1 := hI2
  refine seq_one (op_store (cs' := #[.int .u64 0]) 2 hf4 rfl rfl rfl rfl rfl sz_24 hI3 rfl (ltb rfl) (by kernel_rfl) fun wd2 hI4 => ?_)
  refine seq_end ?_
  clear ac3 hI1 hf3 hI2 wd1 hI3
  refine then_normal ?_
  refine code_seq ?_
  refine seq_start (l := [0, 1, 2, 3, 4]) rfl ?_
  refine seq_one (op_val (v := .pointer (some ⟨cb, 0, none⟩)) hf4 rfl rfl rfl rfl rfl rfl (r_move rfl) fun ac5 hf5 => ?_)
  refine seq_one (op_val (v := .int .i64 (j : Int)) hf5 rfl rfl rfl rfl rfl rfl (r_move rfl) fun ac6 hf6 => ?_)
  refine seq_one (op_val (v := .func (.func 30) #[] #[.pointer (some ⟨b1, 0, none⟩)]) hf6 rfl rfl rfl rfl rfl rfl (r_makeFunc rfl) fun ac7 hf7 => ?_)
  have hnd1 := hI4.nodup
  refine seq_one (op_call (R := fun v w' => v = .bool true ∧ Inv wd2 [(lb, arr .u64 xs, 24), (cb, #[.slice (some ⟨lb, 0, none⟩) n n, .int .i64 k], 58), (b1, #[.int .u64 (xs.getD j 0)], 24)] w') hf7 rfl rfl rfl rfl ca_26 ((at_in (S0 := [(lb, arr .u64 xs, 24), (cb, #[.slice (some ⟨lb, 0, none⟩) n n, .int .i64 k], 58), (b1, #[.int .u64 0], 24)]) (S := [(lb, arr .u64 xs, 24), (cb, #[.slice (some ⟨lb, 0, none⟩) n n, .int .i64 k], 58), (b1, #[.int .u64 (xs.getD j 0)], 24)]) (lb := lb) (j := j) (cap := [.pointer (some ⟨b1, 0, none⟩)]) hI4.has hnd1 (List.mem_cons_of_mem _ (List.mem_cons_self ..)) rfl rfl hj ca_30 rfl (fun w1 h => (getc_walk hl hj hnd1 h))).mono fun _ _ h => ⟨_, h.1, rfl, h.2⟩) fun ac8 v wd3 hR hf8 => ?_)
  obtain ⟨rfl, hR⟩ := hR
  have hI5 : Inv w [(lb, arr .u64 xs, 24), (cb, #[.slice (some ⟨lb, 0, none⟩) n n, .int .i64 k], 58), (b1, #[.int .u64 (xs.getD j 0)], 24)] _ := Inv.callS (A := []) (S := [(lb, arr .u64 xs, 24), (cb, #[.slice (some ⟨lb, 0, none⟩) n n, .int .i64 k], 58), (b1, #[.int .u64 0], 24)]) (S' := [(lb, arr .u64 xs, 24), (cb, #[.slice (some ⟨lb, 0, none⟩) n n, .int .i64 k], 58), (b1, #[.int .u64 (xs.getD j 0)], 24)]) (L := []) (N := []) hI4 hR rfl (fun _ h => by cases h)
  refine seq_one (op_val (v := .bool true) hf8 rfl rfl rfl rfl rfl rfl (r_assign rfl) fun ac9 hf9 => ?_)
  refine seq_end ?_
  clear ac4 hf4 ac5 hf5 ac6 hf6 ac7 wd2 hf7 hI4 hR hnd1 ac8 hf8
  refine then_normal ?_
  refine code_seq ?_
  refine seq_start (l := [0, 1, 2, 3]) rfl ?_
  refine seq_one (op_val (v := .int .u64 (xs.getD j 0)) hf9 rfl rfl rfl rfl rfl rfl (r_load ag_24 rfl (hI5.at 2 rfl) rfl) fun ac10 hf10 => ?_)
  refine seq_one (op_val (v := .bool true) hf10 rfl rfl rfl rfl rfl rfl (r_move rfl) fun ac11 hf11 => ?_)
  refine seq_one (op_val (v := .int .u64 (xs.getD j 0)) hf11 rfl rfl rfl rfl rfl rfl (r_assign rfl) fun ac12 hf12 => ?_)
  refine seq_one (op_val (v := .bool true) hf12 rfl rfl rfl rfl rfl rfl (r_assign rfl) fun ac13 hf13 => ?_)
  refine seq_end ?_
  clear ac9 hf9 ac10 hf10 ac11 hf11 ac12 hf12
  refine then_normal ?_
  refine wp_ret ?_
  exact post2 rfl hf13 rfl rfl ⟨rfl, (Inv.drop (A := [(lb, arr .u64 xs, 24), (cb, #[.slice (some ⟨lb, 0, none⟩) n n, .int .i64 k], 58)]) (B := [(b1, #[.int .u64 (xs.getD j 0)], 24)]) hI5 (fresh_keys (ks := [b1]) rfl (fk_cons hb1 fk_nil))).unread h0_⟩
set_option maxHeartbeats 8000000 in
theorem get_out {lb cb : Nat} {xs : List Int} {n : Nat} {k : Int} (hl : xs.length = n) {i : Int} (ho : i < 0 ∨ (n : Int) ≤ i) (hne : lb ≠ cb) {w : World} (h0_ : Has [(lb, arr .u64 xs, 24), (cb, #[.slice (some ⟨lb, 0, none⟩) n n, .int .i64 k], 58)] w) : Calls Try.prog 21 [.pointer (some ⟨cb, 0, none⟩), .int .i64 i].toArray w fun e w' => e = .returned (.tuple #[.int .u64 0, .bool false]) ∧ Inv w [] w' := by
  have hI1 := Inv.startS h0_ (by simp [hne])
  refine enter (n := 14) Try.func21 rfl rfl rfl ?_
  intro ac1 hf1
  refine code_seq ?_
  refine seq_start (l := [0, 1]) rfl ?_
  refine seq_one (op_val (v := .int .u64 0) hf1 rfl rfl rfl rfl rfl rfl (r_assign rfl) fun ac2 hf2 => ?_)
  refine seq_one (op_val (v := .bool false) hf2 rfl rfl rfl rfl rfl rfl (r_assign rfl) fun ac3 hf3 => ?_)
  refine seq_end ?_
  clear ac1 hf1 ac2 hf2
  refine then_normal ?_
  refine code_seq ?_
  refine seq_start (l := [0, 1]) rfl ?_
  refine seq_one (op_alloc hf3 rfl rfl rfl ze_24 hI1 fun ac4 b1 wd1 hb1 hI2 hf4 => ?_)
  have hI3 : Inv w [(lb, arr .u64 xs, 24), (cb, #[.slice (some ⟨lb, 0, none⟩) n n, .int .i64 k], 58), (b1, #[.int .u64 0], 24)] wd1 := hI2
  refine seq_one (op_store (cs' := #[.int .u64 0]) 2 hf4 rfl rfl rfl rfl rfl sz_24 hI3 rfl (ltb rfl) (by kernel_rfl) fun wd2 hI4 => ?_)
  refine seq_end ?_
  clear ac3 hI1 hf3 hI2 wd1 hI3
  refine then_normal ?_
  refine code_seq ?_
  refine seq_start (l := [0, 1, 2, 3, 4]) rfl ?_
  refine seq_one (op_val (v := .pointer (some ⟨cb, 0, none⟩)) hf4 rfl rfl rfl rfl rfl rfl (r_move rfl) fun ac5 hf5 => ?_)
  refine seq_one (op_val (v := .int .i64 i) hf5 rfl rfl rfl rfl rfl rfl (r_move rfl) fun ac6 hf6 => ?_)
  refine seq_one (op_val (v := .func (.func 30) #[] #[.pointer (some ⟨b1, 0, none⟩)]) hf6 rfl rfl rfl rfl rfl rfl (r_makeFunc rfl) fun ac7 hf7 => ?_)
  refine seq_one (op_pureW hf7 rfl rfl rfl rfl ca_26 (at_out (S0 := [(lb, arr .u64 xs, 24), (cb, #[.slice (some ⟨lb, 0, none⟩) n n, .int .i64 k], 58), (b1, #[.int .u64 0], 24)]) _ hI4.has hI4.nodup (List.mem_cons_of_mem _ (List.mem_cons_self ..)) (fun h => by cases h) ho) hI4 fun ac8 wd3 hI5 hf8 => ?_)
  refine seq_one (op_val (v := .bool false) hf8 rfl rfl rfl rfl rfl rfl (r_assign rfl) fun ac9 hf9 => ?_)
  refine seq_end ?_
  clear ac4 hf4 ac5 hf5 ac6 hf6 ac7 wd2 hI4 hf7 ac8 hf8
  refine then_normal ?_
  refine code_seq ?_
  refine seq_start (l := [0, 1, 2, 3]) rfl ?_
  refine seq_one (op_val (v := .int .u64 0) hf9 rfl rfl rfl rfl rfl rfl (r_load ag_24 rfl (hI5.at 2 rfl) rfl) fun ac10 hf10 => ?_)
  refine seq_one (op_val (v := .bool false) hf10 rfl rfl rfl rfl rfl rfl (r_move rfl) fun ac11 hf11 => ?_)
  refine seq_one (op_val (v := .int .u64 0) hf11 rfl rfl rfl rfl rfl rfl (r_assign rfl) fun ac12 hf12 => ?_)
  refine seq_one (op_val (v := .bool false) hf12 rfl rfl rfl rfl rfl rfl (r_assign rfl) fun ac13 hf13 => ?_)
  refine seq_end ?_
  clear ac9 hf9 ac10 hf10 ac11 hf11 ac12 hf12
  refine then_normal ?_
  refine wp_ret ?_
  exact post2 rfl hf13 rfl rfl ⟨rfl, (Inv.drop (A := [(lb, arr .u64 xs, 24), (cb, #[.slice (some ⟨lb, 0, none⟩) n n, .int .i64 k], 58)]) (B := [(b1, #[.int .u64 0], 24)]) hI5 (fresh_keys (ks := [b1]) rfl (fk_cons hb1 fk_nil))).unread h0_⟩
end Go.Proofs.Ytohkdjaobdgenaa
