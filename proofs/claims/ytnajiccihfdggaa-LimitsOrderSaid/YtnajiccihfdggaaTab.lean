/-
  Closed facts on the program's types and functions, printed by table() of walk.py.
-/
import Derived.Test.YtnajiccihfdggaaFwEq
import Derived.Test.YtnajiccihfdggaaChecked
namespace Go.Proofs.Ytnajiccihfdggaa
set_option linter.unusedVariables false
theorem follows : Try.prog.follows .mixedOrders = true := by kernel_rfl
theorem ui_2 : Try.prog.underlying 2 = some (.int .i64) := by kernel_rfl
theorem ag_2 : aggB Try.prog 2 = some false := by kernel_rfl
theorem sz_2 : sizeB Try.prog 2 = some 1 := by kernel_rfl
theorem ze_2 : zeroB Try.prog 2 = some (.int .i64 0) := by kernel_rfl
theorem ui_3 : Try.prog.underlying 3 = some (.int .i64) := by kernel_rfl
theorem ag_3 : aggB Try.prog 3 = some false := by kernel_rfl
theorem sz_3 : sizeB Try.prog 3 = some 1 := by kernel_rfl
theorem ze_3 : zeroB Try.prog 3 = some (.int .i64 0) := by kernel_rfl
theorem ub_4 : Try.prog.underlying 4 = some .bool := by kernel_rfl
theorem ag_4 : aggB Try.prog 4 = some false := by kernel_rfl
theorem sz_4 : sizeB Try.prog 4 = some 1 := by kernel_rfl
theorem ze_4 : zeroB Try.prog 4 = some (.bool false) := by kernel_rfl
theorem ui_5 : Try.prog.underlying 5 = some (.int .u8) := by kernel_rfl
theorem ag_5 : aggB Try.prog 5 = some false := by kernel_rfl
theorem sz_5 : sizeB Try.prog 5 = some 1 := by kernel_rfl
theorem ze_5 : zeroB Try.prog 5 = some (.int .u8 0) := by kernel_rfl
theorem ui_6 : Try.prog.underlying 6 = some (.int .u8) := by kernel_rfl
theorem ag_6 : aggB Try.prog 6 = some false := by kernel_rfl
theorem sz_6 : sizeB Try.prog 6 = some 1 := by kernel_rfl
theorem ze_6 : zeroB Try.prog 6 = some (.int .u8 0) := by kernel_rfl
theorem ag_7 : aggB Try.prog 7 = some true := by kernel_rfl
theorem sz_7 : sizeB Try.prog 7 = some 4 := by kernel_rfl
theorem ze_7 : zeroB Try.prog 7 = some (.agg #[.int .i64 0, .int .i64 0, .bool false, .int .u8 0]) := by kernel_rfl
theorem sh_7 : shapes Try.prog 12 7 = some [.i .i64, .i .i64, .b, .i .u8] := by kernel_rfl
theorem fi_7_0 : fieldB Try.prog 7 0 = some (0, 2) := by kernel_rfl
theorem fi_7_1 : fieldB Try.prog 7 1 = some (1, 3) := by kernel_rfl
theorem fi_7_2 : fieldB Try.prog 7 2 = some (2, 4) := by kernel_rfl
theorem fi_7_3 : fieldB Try.prog 7 3 = some (3, 6) := by kernel_rfl
theorem ag_8 : aggB Try.prog 8 = some true := by kernel_rfl
theorem sz_8 : sizeB Try.prog 8 = some 4 := by kernel_rfl
theorem ze_8 : zeroB Try.prog 8 = some (.agg #[.int .i64 0, .int .i64 0, .bool false, .int .u8 0]) := by kernel_rfl
theorem sh_8 : shapes Try.prog 12 8 = some [.i .i64, .i .i64, .b, .i .u8] := by kernel_rfl
theorem fi_8_0 : fieldB Try.prog 8 0 = some (0, 2) := by kernel_rfl
theorem fi_8_1 : fieldB Try.prog 8 1 = some (1, 3) := by kernel_rfl
theorem fi_8_2 : fieldB Try.prog 8 2 = some (2, 4) := by kernel_rfl
theorem fi_8_3 : fieldB Try.prog 8 3 = some (3, 6) := by kernel_rfl
theorem ui_12 : Try.prog.underlying 12 = some (.int .u64) := by kernel_rfl
theorem ag_12 : aggB Try.prog 12 = some false := by kernel_rfl
theorem sz_12 : sizeB Try.prog 12 = some 1 := by kernel_rfl
theorem ze_12 : zeroB Try.prog 12 = some (.int .u64 0) := by kernel_rfl
theorem ag_13 : aggB Try.prog 13 = some true := by kernel_rfl
theorem sz_13 : sizeB Try.prog 13 = some 2 := by kernel_rfl
theorem ze_13 : zeroB Try.prog 13 = some (.agg #[.string ByteArray.empty, .int .u64 0]) := by kernel_rfl
theorem fi_13_0 : fieldB Try.prog 13 0 = some (0, 9) := by kernel_rfl
theorem fi_13_1 : fieldB Try.prog 13 1 = some (1, 12) := by kernel_rfl
theorem ag_14 : aggB Try.prog 14 = some true := by kernel_rfl
theorem sz_14 : sizeB Try.prog 14 = some 2 := by kernel_rfl
theorem ze_14 : zeroB Try.prog 14 = some (.agg #[.string ByteArray.empty, .int .u64 0]) := by kernel_rfl
theorem fi_14_0 : fieldB Try.prog 14 0 = some (0, 9) := by kernel_rfl
theorem fi_14_1 : fieldB Try.prog 14 1 = some (1, 12) := by kernel_rfl
theorem ag_15 : aggB Try.prog 15 = some false := by kernel_rfl
theorem sz_15 : sizeB Try.prog 15 = some 1 := by kernel_rfl
theorem ze_15 : zeroB Try.prog 15 = some (.pointer none) := by kernel_rfl
theorem ag_16 : aggB Try.prog 16 = some false := by kernel_rfl
theorem sz_16 : sizeB Try.prog 16 = some 1 := by kernel_rfl
theorem ze_16 : zeroB Try.prog 16 = some (.pointer none) := by kernel_rfl
theorem ag_17 : aggB Try.prog 17 = some false := by kernel_rfl
theorem sz_17 : sizeB Try.prog 17 = some 1 := by kernel_rfl
theorem ze_17 : zeroB Try.prog 17 = some (.pointer none) := by kernel_rfl
theorem ag_18 : aggB Try.prog 18 = some true := by kernel_rfl
theorem sz_18 : sizeB Try.prog 18 = some 1 := by kernel_rfl
theorem ze_18 : zeroB Try.prog 18 = some (.agg #[.pointer none]) := by kernel_rfl
theorem fi_18_0 : fieldB Try.prog 18 0 = some (0, 17) := by kernel_rfl
theorem ag_19 : aggB Try.prog 19 = some true := by kernel_rfl
theorem sz_19 : sizeB Try.prog 19 = some 1 := by kernel_rfl
theorem ze_19 : zeroB Try.prog 19 = some (.agg #[.pointer none]) := by kernel_rfl
theorem fi_19_0 : fieldB Try.prog 19 0 = some (0, 17) := by kernel_rfl
theorem ui_21 : Try.prog.underlying 21 = some (.int .i32) := by kernel_rfl
theorem ag_21 : aggB Try.prog 21 = some false := by kernel_rfl
theorem sz_21 : sizeB Try.prog 21 = some 1 := by kernel_rfl
theorem ze_21 : zeroB Try.prog 21 = some (.int .i32 0) := by kernel_rfl
theorem ui_22 : Try.prog.underlying 22 = some (.int .u64) := by kernel_rfl
theorem ag_22 : aggB Try.prog 22 = some false := by kernel_rfl
theorem sz_22 : sizeB Try.prog 22 = some 1 := by kernel_rfl
theorem ze_22 : zeroB Try.prog 22 = some (.int .u64 0) := by kernel_rfl
theorem ag_23 : aggB Try.prog 23 = some true := by kernel_rfl
theorem sz_23 : sizeB Try.prog 23 = some 5 := by kernel_rfl
theorem ze_23 : zeroB Try.prog 23 = some (.agg #[.int .i64 0, .int .i64 0, .int .u64 0, .int .u64 0, .int .u64 0]) := by kernel_rfl
theorem sh_23 : shapes Try.prog 12 23 = some [.i .i64, .i .i64, .i .u64, .i .u64, .i .u64] := by kernel_rfl
theorem fi_23_0 : fieldB Try.prog 23 0 = some (0, 3) := by kernel_rfl
theorem fi_23_1 : fieldB Try.prog 23 1 = some (1, 3) := by kernel_rfl
theorem fi_23_2 : fieldB Try.prog 23 2 = some (2, 22) := by kernel_rfl
theorem fi_23_3 : fieldB Try.prog 23 3 = some (3, 22) := by kernel_rfl
theorem fi_23_4 : fieldB Try.prog 23 4 = some (4, 22) := by kernel_rfl
theorem ag_24 : aggB Try.prog 24 = some true := by kernel_rfl
theorem sz_24 : sizeB Try.prog 24 = some 5 := by kernel_rfl
theorem ze_24 : zeroB Try.prog 24 = some (.agg #[.int .i64 0, .int .i64 0, .int .u64 0, .int .u64 0, .int .u64 0]) := by kernel_rfl
theorem sh_24 : shapes Try.prog 12 24 = some [.i .i64, .i .i64, .i .u64, .i .u64, .i .u64] := by kernel_rfl
theorem fi_24_0 : fieldB Try.prog 24 0 = some (0, 3) := by kernel_rfl
theorem fi_24_1 : fieldB Try.prog 24 1 = some (1, 3) := by kernel_rfl
theorem fi_24_2 : fieldB Try.prog 24 2 = some (2, 22) := by kernel_rfl
theorem fi_24_3 : fieldB Try.prog 24 3 = some (3, 22) := by kernel_rfl
theorem fi_24_4 : fieldB Try.prog 24 4 = some (4, 22) := by kernel_rfl
theorem ag_25 : aggB Try.prog 25 = some true := by kernel_rfl
theorem sz_25 : sizeB Try.prog 25 = some 3 := by kernel_rfl
theorem ze_25 : zeroB Try.prog 25 = some (.agg #[.int .i64 0, .int .i64 0, .int .i64 0]) := by kernel_rfl
theorem sh_25 : shapes Try.prog 12 25 = some [.i .i64, .i .i64, .i .i64] := by kernel_rfl
theorem ar_25 : arrB Try.prog 25 = some (3, 3, 1) := by kernel_rfl
theorem ag_26 : aggB Try.prog 26 = some true := by kernel_rfl
theorem sz_26 : sizeB Try.prog 26 = some 16 := by kernel_rfl
theorem ze_26 : zeroB Try.prog 26 = some (.agg #[.int .u8 0, .int .u8 0, .int .u8 0, .int .u8 0, .int .u8 0, .int .u8 0, .int .u8 0, .int .u8 0, .int .u8 0, .int .u8 0, .int .u8 0, .int .u8 0, .int .u8 0, .int .u8 0, .int .u8 0, .int .u8 0]) := by kernel_rfl
theorem sh_26 : shapes Try.prog 12 26 = some [.i .u8, .i .u8, .i .u8, .i .u8, .i .u8, .i .u8, .i .u8, .i .u8, .i .u8, .i .u8, .i .u8, .i .u8, .i .u8, .i .u8, .i .u8, .i .u8] := by kernel_rfl
theorem ar_26 : arrB Try.prog 26 = some (16, 5, 1) := by kernel_rfl
theorem ag_27 : aggB Try.prog 27 = some true := by kernel_rfl
theorem sz_27 : sizeB Try.prog 27 = some 37 := by kernel_rfl
theorem ze_27 : zeroB Try.prog 27 = some (.agg #[.int .i64 0, .int .i64 0, .int .i64 0, .int .i64 0, .int .i64 0, .int .i64 0, .int .i64 0, .int .u64 0, .int .u64 0, .int .u64 0, .int .i64 0, .int .i64 0, .int .i64 0, .int .u8 0, .int .u8 0, .int .u8 0, .int .u8 0, .int .u8 0, .int .u8 0, .int .u8 0, .int .u8 0, .int .u8 0, .int .u8 0, .int .u8 0, .int .u8 0, .int .u8 0, .int .u8 0, .int .u8 0, .int .u8 0, .int .u64 0, .bool false, .int .u64 0, .int .i64 0, .int .u64 0, .int .i64 0, .int .i64 0, .int .i64 0]) := by kernel_rfl
theorem sh_27 : shapes Try.prog 12 27 = some [.i .i64, .i .i64, .i .i64, .i .i64, .i .i64, .i .i64, .i .i64, .i .u64, .i .u64, .i .u64, .i .i64, .i .i64, .i .i64, .i .u8, .i .u8, .i .u8, .i .u8, .i .u8, .i .u8, .i .u8, .i .u8, .i .u8, .i .u8, .i .u8, .i .u8, .i .u8, .i .u8, .i .u8, .i .u8, .i .u64, .b, .i .u64, .i .i64, .i .u64, .i .i64, .i .i64, .i .i64] := by kernel_rfl
theorem fi_27_0 : fieldB Try.prog 27 0 = some (0, 3) := by kernel_rfl
theorem fi_27_1 : fieldB Try.prog 27 1 = some (1, 3) := by kernel_rfl
theorem fi_27_2 : fieldB Try.prog 27 2 = some (2, 3) := by kernel_rfl
theorem fi_27_3 : fieldB Try.prog 27 3 = some (3, 3) := by kernel_rfl
theorem fi_27_4 : fieldB Try.prog 27 4 = some (4, 3) := by kernel_rfl
theorem fi_27_5 : fieldB Try.prog 27 5 = some (5, 24) := by kernel_rfl
theorem fi_27_6 : fieldB Try.prog 27 6 = some (10, 25) := by kernel_rfl
theorem fi_27_7 : fieldB Try.prog 27 7 = some (13, 26) := by kernel_rfl
theorem fi_27_8 : fieldB Try.prog 27 8 = some (29, 22) := by kernel_rfl
theorem fi_27_9 : fieldB Try.prog 27 9 = some (30, 4) := by kernel_rfl
theorem fi_27_10 : fieldB Try.prog 27 10 = some (31, 22) := by kernel_rfl
theorem fi_27_11 : fieldB Try.prog 27 11 = some (32, 3) := by kernel_rfl
theorem fi_27_12 : fieldB Try.prog 27 12 = some (33, 22) := by kernel_rfl
theorem fi_27_13 : fieldB Try.prog 27 13 = some (34, 3) := by kernel_rfl
theorem fi_27_14 : fieldB Try.prog 27 14 = some (35, 3) := by kernel_rfl
theorem fi_27_15 : fieldB Try.prog 27 15 = some (36, 3) := by kernel_rfl
theorem ag_28 : aggB Try.prog 28 = some true := by kernel_rfl
theorem sz_28 : sizeB Try.prog 28 = some 37 := by kernel_rfl
theorem ze_28 : zeroB Try.prog 28 = some (.agg #[.int .i64 0, .int .i64 0, .int .i64 0, .int .i64 0, .int .i64 0, .int .i64 0, .int .i64 0, .int .u64 0, .int .u64 0, .int .u64 0, .int .i64 0, .int .i64 0, .int .i64 0, .int .u8 0, .int .u8 0, .int .u8 0, .int .u8 0, .int .u8 0, .int .u8 0, .int .u8 0, .int .u8 0, .int .u8 0, .int .u8 0, .int .u8 0, .int .u8 0, .int .u8 0, .int .u8 0, .int .u8 0, .int .u8 0, .int .u64 0, .bool false, .int .u64 0, .int .i64 0, .int .u64 0, .int .i64 0, .int .i64 0, .int .i64 0]) := by kernel_rfl
theorem sh_28 : shapes Try.prog 12 28 = some [.i .i64, .i .i64, .i .i64, .i .i64, .i .i64, .i .i64, .i .i64, .i .u64, .i .u64, .i .u64, .i .i64, .i .i64, .i .i64, .i .u8, .i .u8, .i .u8, .i .u8, .i .u8, .i .u8, .i .u8, .i .u8, .i .u8, .i .u8, .i .u8, .i .u8, .i .u8, .i .u8, .i .u8, .i .u8, .i .u64, .b, .i .u64, .i .i64, .i .u64, .i .i64, .i .i64, .i .i64] := by kernel_rfl
theorem fi_28_0 : fieldB Try.prog 28 0 = some (0, 3) := by kernel_rfl
theorem fi_28_1 : fieldB Try.prog 28 1 = some (1, 3) := by kernel_rfl
theorem fi_28_2 : fieldB Try.prog 28 2 = some (2, 3) := by kernel_rfl
theorem fi_28_3 : fieldB Try.prog 28 3 = some (3, 3) := by kernel_rfl
theorem fi_28_4 : fieldB Try.prog 28 4 = some (4, 3) := by kernel_rfl
theorem fi_28_5 : fieldB Try.prog 28 5 = some (5, 24) := by kernel_rfl
theorem fi_28_6 : fieldB Try.prog 28 6 = some (10, 25) := by kernel_rfl
theorem fi_28_7 : fieldB Try.prog 28 7 = some (13, 26) := by kernel_rfl
theorem fi_28_8 : fieldB Try.prog 28 8 = some (29, 22) := by kernel_rfl
theorem fi_28_9 : fieldB Try.prog 28 9 = some (30, 4) := by kernel_rfl
theorem fi_28_10 : fieldB Try.prog 28 10 = some (31, 22) := by kernel_rfl
theorem fi_28_11 : fieldB Try.prog 28 11 = some (32, 3) := by kernel_rfl
theorem fi_28_12 : fieldB Try.prog 28 12 = some (33, 22) := by kernel_rfl
theorem fi_28_13 : fieldB Try.prog 28 13 = some (34, 3) := by kernel_rfl
theorem fi_28_14 : fieldB Try.prog 28 14 = some (35, 3) := by kernel_rfl
theorem fi_28_15 : fieldB Try.prog 28 15 = some (36, 3) := by kernel_rfl
theorem ag_29 : aggB Try.prog 29 = some true := by kernel_rfl
theorem sz_29 : sizeB Try.prog 29 = some 3 := by kernel_rfl
theorem ze_29 : zeroB Try.prog 29 = some (.agg #[.int .i64 0, .int .i64 0, .int .i64 0]) := by kernel_rfl
theorem sh_29 : shapes Try.prog 12 29 = some [.i .i64, .i .i64, .i .i64] := by kernel_rfl
theorem fi_29_0 : fieldB Try.prog 29 0 = some (0, 3) := by kernel_rfl
theorem fi_29_1 : fieldB Try.prog 29 1 = some (1, 3) := by kernel_rfl
theorem fi_29_2 : fieldB Try.prog 29 2 = some (2, 3) := by kernel_rfl
theorem ag_30 : aggB Try.prog 30 = some true := by kernel_rfl
theorem sz_30 : sizeB Try.prog 30 = some 3 := by kernel_rfl
theorem ze_30 : zeroB Try.prog 30 = some (.agg #[.int .i64 0, .int .i64 0, .int .i64 0]) := by kernel_rfl
theorem sh_30 : shapes Try.prog 12 30 = some [.i .i64, .i .i64, .i .i64] := by kernel_rfl
theorem kt_30 : Try.prog.keyTypeAt 12 30 = true := by kernel_rfl
theorem rw_30 : isRowB Try.prog 30 = true := by kernel_rfl
theorem zk_30 : ([.i .i64, .i .i64, .i .i64] : List CK).length = Try.prog.cellsOf 30 := by kernel_rfl
theorem eg_30 : Try.prog.eqGuardType Try.prog.depth 30 = false := by kernel_rfl
theorem fi_30_0 : fieldB Try.prog 30 0 = some (0, 3) := by kernel_rfl
theorem fi_30_1 : fieldB Try.prog 30 1 = some (1, 3) := by kernel_rfl
theorem fi_30_2 : fieldB Try.prog 30 2 = some (2, 3) := by kernel_rfl
theorem ui_38 : Try.prog.underlying 38 = some (.int .u32) := by kernel_rfl
theorem ag_38 : aggB Try.prog 38 = some false := by kernel_rfl
theorem sz_38 : sizeB Try.prog 38 = some 1 := by kernel_rfl
theorem ze_38 : zeroB Try.prog 38 = some (.int .u32 0) := by kernel_rfl
theorem ui_40 : Try.prog.underlying 40 = some (.int .u16) := by kernel_rfl
theorem ag_40 : aggB Try.prog 40 = some false := by kernel_rfl
theorem sz_40 : sizeB Try.prog 40 = some 1 := by kernel_rfl
theorem ze_40 : zeroB Try.prog 40 = some (.int .u16 0) := by kernel_rfl
theorem ag_43 : aggB Try.prog 43 = some false := by kernel_rfl
theorem sz_43 : sizeB Try.prog 43 = some 1 := by kernel_rfl
theorem ze_43 : zeroB Try.prog 43 = some (.slice none 0 0) := by kernel_rfl
theorem sl_43 : slcB Try.prog 43 = some (3, 1) := by kernel_rfl
theorem ag_46 : aggB Try.prog 46 = some true := by kernel_rfl
theorem sz_46 : sizeB Try.prog 46 = some 3 := by kernel_rfl
theorem ze_46 : zeroB Try.prog 46 = some (.agg #[.int .i64 0, .int .i64 0, .int .u8 0]) := by kernel_rfl
theorem sh_46 : shapes Try.prog 12 46 = some [.i .i64, .i .i64, .i .u8] := by kernel_rfl
theorem fi_46_0 : fieldB Try.prog 46 0 = some (0, 3) := by kernel_rfl
theorem fi_46_1 : fieldB Try.prog 46 1 = some (1, 3) := by kernel_rfl
theorem fi_46_2 : fieldB Try.prog 46 2 = some (2, 5) := by kernel_rfl
theorem ag_47 : aggB Try.prog 47 = some true := by kernel_rfl
theorem sz_47 : sizeB Try.prog 47 = some 3 := by kernel_rfl
theorem ze_47 : zeroB Try.prog 47 = some (.agg #[.int .i64 0, .int .i64 0, .int .u8 0]) := by kernel_rfl
theorem sh_47 : shapes Try.prog 12 47 = some [.i .i64, .i .i64, .i .u8] := by kernel_rfl
theorem fi_47_0 : fieldB Try.prog 47 0 = some (0, 3) := by kernel_rfl
theorem fi_47_1 : fieldB Try.prog 47 1 = some (1, 3) := by kernel_rfl
theorem fi_47_2 : fieldB Try.prog 47 2 = some (2, 5) := by kernel_rfl
theorem ag_48 : aggB Try.prog 48 = some true := by kernel_rfl
theorem sz_48 : sizeB Try.prog 48 = some 9 := by kernel_rfl
theorem ze_48 : zeroB Try.prog 48 = some (.agg #[.int .i64 0, .int .i64 0, .int .u8 0, .int .i64 0, .int .i64 0, .int .u8 0, .int .i64 0, .int .i64 0, .int .u8 0]) := by kernel_rfl
theorem sh_48 : shapes Try.prog 12 48 = some [.i .i64, .i .i64, .i .u8, .i .i64, .i .i64, .i .u8, .i .i64, .i .i64, .i .u8] := by kernel_rfl
theorem ar_48 : arrB Try.prog 48 = some (3, 47, 3) := by kernel_rfl
theorem ag_53 : aggB Try.prog 53 = some true := by kernel_rfl
theorem sz_53 : sizeB Try.prog 53 = some 4 := by kernel_rfl
theorem ze_53 : zeroB Try.prog 53 = some (.agg #[.pointer none, .pointer none, .pointer none, .string ByteArray.empty]) := by kernel_rfl
theorem fi_53_0 : fieldB Try.prog 53 0 = some (0, 17) := by kernel_rfl
theorem fi_53_1 : fieldB Try.prog 53 1 = some (1, 17) := by kernel_rfl
theorem fi_53_2 : fieldB Try.prog 53 2 = some (2, 17) := by kernel_rfl
theorem fi_53_3 : fieldB Try.prog 53 3 = some (3, 9) := by kernel_rfl
theorem ag_54 : aggB Try.prog 54 = some true := by kernel_rfl
theorem sz_54 : sizeB Try.prog 54 = some 4 := by kernel_rfl
theorem ze_54 : zeroB Try.prog 54 = some (.agg #[.pointer none, .pointer none, .pointer none, .string ByteArray.empty]) := by kernel_rfl
theorem fi_54_0 : fieldB Try.prog 54 0 = some (0, 17) := by kernel_rfl
theorem fi_54_1 : fieldB Try.prog 54 1 = some (1, 17) := by kernel_rfl
theorem fi_54_2 : fieldB Try.prog 54 2 = some (2, 17) := by kernel_rfl
theorem fi_54_3 : fieldB Try.prog 54 3 = some (3, 9) := by kernel_rfl
theorem ui_59 : Try.prog.underlying 59 = some (.int .u8) := by kernel_rfl
theorem ag_59 : aggB Try.prog 59 = some false := by kernel_rfl
theorem sz_59 : sizeB Try.prog 59 = some 1 := by kernel_rfl
theorem ze_59 : zeroB Try.prog 59 = some (.int .u8 0) := by kernel_rfl
theorem ui_60 : Try.prog.underlying 60 = some (.int .u8) := by kernel_rfl
theorem ag_60 : aggB Try.prog 60 = some false := by kernel_rfl
theorem sz_60 : sizeB Try.prog 60 = some 1 := by kernel_rfl
theorem ze_60 : zeroB Try.prog 60 = some (.int .u8 0) := by kernel_rfl
theorem ag_62 : aggB Try.prog 62 = some false := by kernel_rfl
theorem sz_62 : sizeB Try.prog 62 = some 1 := by kernel_rfl
theorem ze_62 : zeroB Try.prog 62 = some (.pointer none) := by kernel_rfl
theorem ui_63 : Try.prog.underlying 63 = some (.int .i32) := by kernel_rfl
theorem ag_63 : aggB Try.prog 63 = some false := by kernel_rfl
theorem sz_63 : sizeB Try.prog 63 = some 1 := by kernel_rfl
theorem ze_63 : zeroB Try.prog 63 = some (.int .i32 0) := by kernel_rfl
theorem ui_64 : Try.prog.underlying 64 = some (.int .i32) := by kernel_rfl
theorem ag_64 : aggB Try.prog 64 = some false := by kernel_rfl
theorem sz_64 : sizeB Try.prog 64 = some 1 := by kernel_rfl
theorem ze_64 : zeroB Try.prog 64 = some (.int .i32 0) := by kernel_rfl
theorem ag_65 : aggB Try.prog 65 = some true := by kernel_rfl
theorem sz_65 : sizeB Try.prog 65 = some 11 := by kernel_rfl
theorem ze_65 : zeroB Try.prog 65 = some (.agg #[.int .u64 0, .int .u64 0, .int .u32 0, .int .u8 0, .int .u8 0, .int .u8 0, .int .u8 0, .nilFunc, .pointer none, .int .i32 0, .int .i32 0]) := by kernel_rfl
theorem fi_65_0 : fieldB Try.prog 65 0 = some (0, 12) := by kernel_rfl
theorem fi_65_1 : fieldB Try.prog 65 1 = some (1, 12) := by kernel_rfl
theorem fi_65_2 : fieldB Try.prog 65 2 = some (2, 38) := by kernel_rfl
theorem fi_65_3 : fieldB Try.prog 65 3 = some (3, 59) := by kernel_rfl
theorem fi_65_4 : fieldB Try.prog 65 4 = some (4, 5) := by kernel_rfl
theorem fi_65_5 : fieldB Try.prog 65 5 = some (5, 5) := by kernel_rfl
theorem fi_65_6 : fieldB Try.prog 65 6 = some (6, 60) := by kernel_rfl
theorem fi_65_7 : fieldB Try.prog 65 7 = some (7, 61) := by kernel_rfl
theorem fi_65_8 : fieldB Try.prog 65 8 = some (8, 62) := by kernel_rfl
theorem fi_65_9 : fieldB Try.prog 65 9 = some (9, 63) := by kernel_rfl
theorem fi_65_10 : fieldB Try.prog 65 10 = some (10, 64) := by kernel_rfl
theorem ag_66 : aggB Try.prog 66 = some true := by kernel_rfl
theorem sz_66 : sizeB Try.prog 66 = some 11 := by kernel_rfl
theorem ze_66 : zeroB Try.prog 66 = some (.agg #[.int .u64 0, .int .u64 0, .int .u32 0, .int .u8 0, .int .u8 0, .int .u8 0, .int .u8 0, .nilFunc, .pointer none, .int .i32 0, .int .i32 0]) := by kernel_rfl
theorem fi_66_0 : fieldB Try.prog 66 0 = some (0, 12) := by kernel_rfl
theorem fi_66_1 : fieldB Try.prog 66 1 = some (1, 12) := by kernel_rfl
theorem fi_66_2 : fieldB Try.prog 66 2 = some (2, 38) := by kernel_rfl
theorem fi_66_3 : fieldB Try.prog 66 3 = some (3, 59) := by kernel_rfl
theorem fi_66_4 : fieldB Try.prog 66 4 = some (4, 5) := by kernel_rfl
theorem fi_66_5 : fieldB Try.prog 66 5 = some (5, 5) := by kernel_rfl
theorem fi_66_6 : fieldB Try.prog 66 6 = some (6, 60) := by kernel_rfl
theorem fi_66_7 : fieldB Try.prog 66 7 = some (7, 61) := by kernel_rfl
theorem fi_66_8 : fieldB Try.prog 66 8 = some (8, 62) := by kernel_rfl
theorem fi_66_9 : fieldB Try.prog 66 9 = some (9, 63) := by kernel_rfl
theorem fi_66_10 : fieldB Try.prog 66 10 = some (10, 64) := by kernel_rfl
theorem ca_3 : callable Try.prog 3 = true := by kernel_rfl
theorem ca_4 : callable Try.prog 4 = true := by kernel_rfl
theorem ca_5 : callable Try.prog 5 = true := by kernel_rfl
theorem ca_6 : callable Try.prog 6 = true := by kernel_rfl
theorem ca_7 : callable Try.prog 7 = true := by kernel_rfl
theorem ca_8 : callable Try.prog 8 = true := by kernel_rfl
theorem ca_9 : callable Try.prog 9 = true := by kernel_rfl
theorem ca_10 : callable Try.prog 10 = true := by kernel_rfl
theorem ca_11 : callable Try.prog 11 = true := by kernel_rfl
theorem ca_12 : callable Try.prog 12 = true := by kernel_rfl
theorem ca_13 : callable Try.prog 13 = true := by kernel_rfl
theorem ca_14 : callable Try.prog 14 = true := by kernel_rfl
theorem ca_15 : callable Try.prog 15 = true := by kernel_rfl
theorem ca_16 : callable Try.prog 16 = true := by kernel_rfl
theorem ca_17 : callable Try.prog 17 = true := by kernel_rfl
theorem ca_18 : callable Try.prog 18 = true := by kernel_rfl
theorem ca_19 : callable Try.prog 19 = true := by kernel_rfl
theorem ca_20 : callable Try.prog 20 = true := by kernel_rfl
theorem ca_21 : callable Try.prog 21 = true := by kernel_rfl
theorem ca_22 : callable Try.prog 22 = true := by kernel_rfl
theorem ca_23 : callable Try.prog 23 = true := by kernel_rfl
theorem ca_24 : callable Try.prog 24 = true := by kernel_rfl
end Go.Proofs.Ytnajiccihfdggaa
