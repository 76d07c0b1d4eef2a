/-
  A configuration, opened.
-/
import Derived.Test.YtakkookpjhaekaaDoorCAwake
namespace Go.Proofs.YtakkookpjhaekaaDoor
set_option linter.unusedVariables false
set_option linter.unusedSimpArgs false
set_option maxRecDepth 100000
open Go.RowKit
theorem conf_of {cs : List Value} (o : Oks [.i .i64, .i .i64, .i .i64, .i .i64, .i .i64, .i .i64, .i .i64, .i .u64, .i .u64, .i .u64, .i .i64, .i .i64, .i .i64, .i .u8, .i .u8, .i .u8, .i .u8, .i .u8, .i .u8, .i .u8, .i .u8, .i .u8, .i .u8, .i .u8, .i .u8, .i .u8, .i .u8, .i .u8, .i .u8, .i .u64, .b, .i .u64, .i .i64, .i .u64, .i .i64, .i .i64, .i .i64] cs) : ∃ (x0 : Int) (x1 : Int) (x2 : Int) (x3 : Int) (x4 : Int) (x5 : Int) (x6 : Int) (x7 : Int) (x8 : Int) (x9 : Int) (x10 : Int) (x11 : Int) (x12 : Int) (x13 : Int) (x14 : Int) (x15 : Int) (x16 : Int) (x17 : Int) (x18 : Int) (x19 : Int) (x20 : Int) (x21 : Int) (x22 : Int) (x23 : Int) (x24 : Int) (x25 : Int) (x26 : Int) (x27 : Int) (x28 : Int) (x29 : Int) (x30 : Bool) (x31 : Int) (x32 : Int) (x33 : Int) (x34 : Int) (x35 : Int) (x36 : Int), cs = [Value.int .i64 x0, Value.int .i64 x1, Value.int .i64 x2, Value.int .i64 x3, Value.int .i64 x4, Value.int .i64 x5, Value.int .i64 x6, Value.int .u64 x7, Value.int .u64 x8, Value.int .u64 x9, Value.int .i64 x10, Value.int .i64 x11, Value.int .i64 x12, Value.int .u8 x13, Value.int .u8 x14, Value.int .u8 x15, Value.int .u8 x16, Value.int .u8 x17, Value.int .u8 x18, Value.int .u8 x19, Value.int .u8 x20, Value.int .u8 x21, Value.int .u8 x22, Value.int .u8 x23, Value.int .u8 x24, Value.int .u8 x25, Value.int .u8 x26, Value.int .u8 x27, Value.int .u8 x28, Value.int .u64 x29, Value.bool x30, Value.int .u64 x31, Value.int .i64 x32, Value.int .u64 x33, Value.int .i64 x34, Value.int .i64 x35, Value.int .i64 x36] ∧ Oks [.i .i64, .i .i64, .i .i64, .i .i64, .i .i64, .i .i64, .i .i64, .i .u64, .i .u64, .i .u64, .i .i64, .i .i64, .i .i64, .i .u8, .i .u8, .i .u8, .i .u8, .i .u8, .i .u8, .i .u8, .i .u8, .i .u8, .i .u8, .i .u8, .i .u8, .i .u8, .i .u8, .i .u8, .i .u8, .i .u64, .b, .i .u64, .i .i64, .i .u64, .i .i64, .i .i64, .i .i64] [Value.int .i64 x0, Value.int .i64 x1, Value.int .i64 x2, Value.int .i64 x3, Value.int .i64 x4, Value.int .i64 x5, Value.int .i64 x6, Value.int .u64 x7, Value.int .u64 x8, Value.int .u64 x9, Value.int .i64 x10, Value.int .i64 x11, Value.int .i64 x12, Value.int .u8 x13, Value.int .u8 x14, Value.int .u8 x15, Value.int .u8 x16, Value.int .u8 x17, Value.int .u8 x18, Value.int .u8 x19, Value.int .u8 x20, Value.int .u8 x21, Value.int .u8 x22, Value.int .u8 x23, Value.int .u8 x24, Value.int .u8 x25, Value.int .u8 x26, Value.int .u8 x27, Value.int .u8 x28, Value.int .u64 x29, Value.bool x30, Value.int .u64 x31, Value.int .i64 x32, Value.int .u64 x33, Value.int .i64 x34, Value.int .i64 x35, Value.int .i64 x36] ∧ InK .u8 [x13, x14, x15, x16, x17, x18, x19, x20, x21, x22, x23, x24, x25, x26, x27, x28] := by
  have oo := o
  obtain ⟨v0, l0, rfl, ⟨x0, rfl, w0⟩, q0⟩ := Oks_cons o
  obtain ⟨v1, l1, rfl, ⟨x1, rfl, w1⟩, q1⟩ := Oks_cons q0
  obtain ⟨v2, l2, rfl, ⟨x2, rfl, w2⟩, q2⟩ := Oks_cons q1
  obtain ⟨v3, l3, rfl, ⟨x3, rfl, w3⟩, q3⟩ := Oks_cons q2
  obtain ⟨v4, l4, rfl, ⟨x4, rfl, w4⟩, q4⟩ := Oks_cons q3
  obtain ⟨v5, l5, rfl, ⟨x5, rfl, w5⟩, q5⟩ := Oks_cons q4
  obtain ⟨v6, l6, rfl, ⟨x6, rfl, w6⟩, q6⟩ := Oks_cons q5
  obtain ⟨v7, l7, rfl, ⟨x7, rfl, w7⟩, q7⟩ := Oks_cons q6
  obtain ⟨v8, l8, rfl, ⟨x8, rfl, w8⟩, q8⟩ := Oks_cons q7
  obtain ⟨v9, l9, rfl, ⟨x9, rfl, w9⟩, q9⟩ := Oks_cons q8
  obtain ⟨v10, l10, rfl, ⟨x10, rfl, w10⟩, q10⟩ := Oks_cons q9
  obtain ⟨v11, l11, rfl, ⟨x11, rfl, w11⟩, q11⟩ := Oks_cons q10
  obtain ⟨v12, l12, rfl, ⟨x12, rfl, w12⟩, q12⟩ := Oks_cons q11
  obtain ⟨v13, l13, rfl, ⟨x13, rfl, w13⟩, q13⟩ := Oks_cons q12
  obtain ⟨v14, l14, rfl, ⟨x14, rfl, w14⟩, q14⟩ := Oks_cons q13
  obtain ⟨v15, l15, rfl, ⟨x15, rfl, w15⟩, q15⟩ := Oks_cons q14
  obtain ⟨v16, l16, rfl, ⟨x16, rfl, w16⟩, q16⟩ := Oks_cons q15
  obtain ⟨v17, l17, rfl, ⟨x17, rfl, w17⟩, q17⟩ := Oks_cons q16
  obtain ⟨v18, l18, rfl, ⟨x18, rfl, w18⟩, q18⟩ := Oks_cons q17
  obtain ⟨v19, l19, rfl, ⟨x19, rfl, w19⟩, q19⟩ := Oks_cons q18
  obtain ⟨v20, l20, rfl, ⟨x20, rfl, w20⟩, q20⟩ := Oks_cons q19
  obtain ⟨v21, l21, rfl, ⟨x21, rfl, w21⟩, q21⟩ := Oks_cons q20
  obtain ⟨v22, l22, rfl, ⟨x22, rfl, w22⟩, q22⟩ := Oks_cons q21
  obtain ⟨v23, l23, rfl, ⟨x23, rfl, w23⟩, q23⟩ := Oks_cons q22
  obtain ⟨v24, l24, rfl, ⟨x24, rfl, w24⟩, q24⟩ := Oks_cons q23
  obtain ⟨v25, l25, rfl, ⟨x25, rfl, w25⟩, q25⟩ := Oks_cons q24
  obtain ⟨v26, l26, rfl, ⟨x26, rfl, w26⟩, q26⟩ := Oks_cons q25
  obtain ⟨v27, l27, rfl, ⟨x27, rfl, w27⟩, q27⟩ := Oks_cons q26
  obtain ⟨v28, l28, rfl, ⟨x28, rfl, w28⟩, q28⟩ := Oks_cons q27
  obtain ⟨v29, l29, rfl, ⟨x29, rfl, w29⟩, q29⟩ := Oks_cons q28
  obtain ⟨v30, l30, rfl, ⟨x30, rfl⟩, q30⟩ := Oks_cons q29
  obtain ⟨v31, l31, rfl, ⟨x31, rfl, w31⟩, q31⟩ := Oks_cons q30
  obtain ⟨v32, l32, rfl, ⟨x32, rfl, w32⟩, q32⟩ := Oks_cons q31
  obtain ⟨v33, l33, rfl, ⟨x33, rfl, w33⟩, q33⟩ := Oks_cons q32
  obtain ⟨v34, l34, rfl, ⟨x34, rfl, w34⟩, q34⟩ := Oks_cons q33
  obtain ⟨v35, l35, rfl, ⟨x35, rfl, w35⟩, q35⟩ := Oks_cons q34
  obtain ⟨v36, l36, rfl, ⟨x36, rfl, w36⟩, q36⟩ := Oks_cons q35
  obtain rfl := Oks_nil q36
  exact ⟨x0, x1, x2, x3, x4, x5, x6, x7, x8, x9, x10, x11, x12, x13, x14, x15, x16, x17, x18, x19, x20, x21, x22, x23, x24, x25, x26, x27, x28, x29, x30, x31, x32, x33, x34, x35, x36, rfl, oo, fun y hy => by simp only [List.mem_cons, List.not_mem_nil, or_false] at hy; rcases hy with rfl | rfl | rfl | rfl | rfl | rfl | rfl | rfl | rfl | rfl | rfl | rfl | rfl | rfl | rfl | rfl <;> assumption⟩
end Go.Proofs.YtakkookpjhaekaaDoor
