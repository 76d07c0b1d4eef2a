/-
  Closed facts on the program's types and functions, printed by table() of walk.py.
-/
import Derived.Test.YtakkookpjhaekaaDoorFwList
import Derived.Test.YtakkookpjhaekaaDoorChecked
namespace Go.Proofs.YtakkookpjhaekaaDoor
set_option linter.unusedVariables false
theorem follows : Tryd.prog.follows .mixedOrders = true := by kernel_rfl
theorem ui_2 : Tryd.prog.underlying 2 = some (.int .i64) := by kernel_rfl
theorem ag_2 : aggB Tryd.prog 2 = some false := by kernel_rfl
theorem sz_2 : sizeB Tryd.prog 2 = some 1 := by kernel_rfl
theorem ze_2 : zeroB Tryd.prog 2 = some (.int .i64 0) := by kernel_rfl
theorem ui_3 : Tryd.prog.underlying 3 = some (.int .i64) := by kernel_rfl
theorem ag_3 : aggB Tryd.prog 3 = some false := by kernel_rfl
theorem sz_3 : sizeB Tryd.prog 3 = some 1 := by kernel_rfl
theorem ze_3 : zeroB Tryd.prog 3 = some (.int .i64 0) := by kernel_rfl
theorem ub_4 : Tryd.prog.underlying 4 = some .bool := by kernel_rfl
theorem ag_4 : aggB Tryd.prog 4 = some false := by kernel_rfl
theorem sz_4 : sizeB Tryd.prog 4 = some 1 := by kernel_rfl
theorem ze_4 : zeroB Tryd.prog 4 = some (.bool false) := by kernel_rfl
theorem ui_5 : Tryd.prog.underlying 5 = some (.int .u8) := by kernel_rfl
theorem ag_5 : aggB Tryd.prog 5 = some false := by kernel_rfl
theorem sz_5 : sizeB Tryd.prog 5 = some 1 := by kernel_rfl
theorem ze_5 : zeroB Tryd.prog 5 = some (.int .u8 0) := by kernel_rfl
theorem ui_6 : Tryd.prog.underlying 6 = some (.int .u8) := by kernel_rfl
theorem ag_6 : aggB Tryd.prog 6 = some false := by kernel_rfl
theorem sz_6 : sizeB Tryd.prog 6 = some 1 := by kernel_rfl
theorem ze_6 : zeroB Tryd.prog 6 = some (.int .u8 0) := by kernel_rfl
theorem ag_7 : aggB Tryd.prog 7 = some true := by kernel_rfl
theorem sz_7 : sizeB Tryd.prog 7 = some 4 := by kernel_rfl
theorem ze_7 : zeroB Tryd.prog 7 = some (.agg #[.int .i64 0, .int .i64 0, .bool false, .int .u8 0]) := by kernel_rfl
theorem sh_7 : shapes Tryd.prog 12 7 = some [.i .i64, .i .i64, .b, .i .u8] := by kernel_rfl
theorem fi_7_0 : fieldB Tryd.prog 7 0 = some (0, 2) := by kernel_rfl
theorem fi_7_1 : fieldB Tryd.prog 7 1 = some (1, 3) := by kernel_rfl
theorem fi_7_2 : fieldB Tryd.prog 7 2 = some (2, 4) := by kernel_rfl
theorem fi_7_3 : fieldB Tryd.prog 7 3 = some (3, 6) := by kernel_rfl
theorem ag_8 : aggB Tryd.prog 8 = some true := by kernel_rfl
theorem sz_8 : sizeB Tryd.prog 8 = some 4 := by kernel_rfl
theorem ze_8 : zeroB Tryd.prog 8 = some (.agg #[.int .i64 0, .int .i64 0, .bool false, .int .u8 0]) := by kernel_rfl
theorem sh_8 : shapes Tryd.prog 12 8 = some [.i .i64, .i .i64, .b, .i .u8] := by kernel_rfl
theorem fi_8_0 : fieldB Tryd.prog 8 0 = some (0, 2) := by kernel_rfl
theorem fi_8_1 : fieldB Tryd.prog 8 1 = some (1, 3) := by kernel_rfl
theorem fi_8_2 : fieldB Tryd.prog 8 2 = some (2, 4) := by kernel_rfl
theorem fi_8_3 : fieldB Tryd.prog 8 3 = some (3, 6) := by kernel_rfl
theorem ut_9 : Tryd.prog.underlying 9 = some .string := by kernel_rfl
theorem ut_10 : Tryd.prog.underlying 10 = some .string := by kernel_rfl
theorem ut_11 : Tryd.prog.underlying 11 = some .string := by kernel_rfl
theorem ui_12 : Tryd.prog.underlying 12 = some (.int .u64) := by kernel_rfl
theorem ag_12 : aggB Tryd.prog 12 = some false := by kernel_rfl
theorem sz_12 : sizeB Tryd.prog 12 = some 1 := by kernel_rfl
theorem ze_12 : zeroB Tryd.prog 12 = some (.int .u64 0) := by kernel_rfl
theorem ag_13 : aggB Tryd.prog 13 = some true := by kernel_rfl
theorem sz_13 : sizeB Tryd.prog 13 = some 2 := by kernel_rfl
theorem ze_13 : zeroB Tryd.prog 13 = some (.agg #[.string ByteArray.empty, .int .u64 0]) := by kernel_rfl
theorem fi_13_0 : fieldB Tryd.prog 13 0 = some (0, 9) := by kernel_rfl
theorem fi_13_1 : fieldB Tryd.prog 13 1 = some (1, 12) := by kernel_rfl
theorem ag_14 : aggB Tryd.prog 14 = some true := by kernel_rfl
theorem sz_14 : sizeB Tryd.prog 14 = some 2 := by kernel_rfl
theorem ze_14 : zeroB Tryd.prog 14 = some (.agg #[.string ByteArray.empty, .int .u64 0]) := by kernel_rfl
theorem fi_14_0 : fieldB Tryd.prog 14 0 = some (0, 9) := by kernel_rfl
theorem fi_14_1 : fieldB Tryd.prog 14 1 = some (1, 12) := by kernel_rfl
theorem ag_15 : aggB Tryd.prog 15 = some false := by kernel_rfl
theorem sz_15 : sizeB Tryd.prog 15 = some 1 := by kernel_rfl
theorem ze_15 : zeroB Tryd.prog 15 = some (.pointer none) := by kernel_rfl
theorem ag_16 : aggB Tryd.prog 16 = some false := by kernel_rfl
theorem sz_16 : sizeB Tryd.prog 16 = some 1 := by kernel_rfl
theorem ze_16 : zeroB Tryd.prog 16 = some (.pointer none) := by kernel_rfl
theorem ag_17 : aggB Tryd.prog 17 = some false := by kernel_rfl
theorem sz_17 : sizeB Tryd.prog 17 = some 1 := by kernel_rfl
theorem ze_17 : zeroB Tryd.prog 17 = some (.pointer none) := by kernel_rfl
theorem ag_18 : aggB Tryd.prog 18 = some true := by kernel_rfl
theorem sz_18 : sizeB Tryd.prog 18 = some 1 := by kernel_rfl
theorem ze_18 : zeroB Tryd.prog 18 = some (.agg #[.pointer none]) := by kernel_rfl
theorem fi_18_0 : fieldB Tryd.prog 18 0 = some (0, 17) := by kernel_rfl
theorem ag_19 : aggB Tryd.prog 19 = some true := by kernel_rfl
theorem sz_19 : sizeB Tryd.prog 19 = some 1 := by kernel_rfl
theorem ze_19 : zeroB Tryd.prog 19 = some (.agg #[.pointer none]) := by kernel_rfl
theorem fi_19_0 : fieldB Tryd.prog 19 0 = some (0, 17) := by kernel_rfl
theorem ui_21 : Tryd.prog.underlying 21 = some (.int .i32) := by kernel_rfl
theorem ag_21 : aggB Tryd.prog 21 = some false := by kernel_rfl
theorem sz_21 : sizeB Tryd.prog 21 = some 1 := by kernel_rfl
theorem ze_21 : zeroB Tryd.prog 21 = some (.int .i32 0) := by kernel_rfl
theorem ag_22 : aggB Tryd.prog 22 = some true := by kernel_rfl
theorem sz_22 : sizeB Tryd.prog 22 = some 16 := by kernel_rfl
theorem ze_22 : zeroB Tryd.prog 22 = some (.agg #[.int .u8 0, .int .u8 0, .int .u8 0, .int .u8 0, .int .u8 0, .int .u8 0, .int .u8 0, .int .u8 0, .int .u8 0, .int .u8 0, .int .u8 0, .int .u8 0, .int .u8 0, .int .u8 0, .int .u8 0, .int .u8 0]) := by kernel_rfl
theorem sh_22 : shapes Tryd.prog 12 22 = some [.i .u8, .i .u8, .i .u8, .i .u8, .i .u8, .i .u8, .i .u8, .i .u8, .i .u8, .i .u8, .i .u8, .i .u8, .i .u8, .i .u8, .i .u8, .i .u8] := by kernel_rfl
theorem kt_22 : Tryd.prog.keyTypeAt 12 22 = true := by kernel_rfl
theorem rw_22 : isRowB Tryd.prog 22 = true := by kernel_rfl
theorem zk_22 : ([.i .u8, .i .u8, .i .u8, .i .u8, .i .u8, .i .u8, .i .u8, .i .u8, .i .u8, .i .u8, .i .u8, .i .u8, .i .u8, .i .u8, .i .u8, .i .u8] : List CK).length = Tryd.prog.cellsOf 22 := by kernel_rfl
theorem eg_22 : Tryd.prog.eqGuardType Tryd.prog.depth 22 = false := by kernel_rfl
theorem ar_22 : arrB Tryd.prog 22 = some (16, 5, 1) := by kernel_rfl
theorem ag_27 : aggB Tryd.prog 27 = some false := by kernel_rfl
theorem sz_27 : sizeB Tryd.prog 27 = some 1 := by kernel_rfl
theorem ze_27 : zeroB Tryd.prog 27 = some (.slice none 0 0) := by kernel_rfl
theorem us_27 : Tryd.prog.underlying 27 = some (.slice 5) := by kernel_rfl
theorem if_5 : (Tryd.prog.info? 5).map (fun i => (i.zero, i.size, i.bytes)) = some (some (.int .u8 0), 1, 1) := by kernel_rfl
theorem sl_27 : slcB Tryd.prog 27 = some (5, 1) := by kernel_rfl
theorem ag_33 : aggB Tryd.prog 33 = some true := by kernel_rfl
theorem sz_33 : sizeB Tryd.prog 33 = some 16 := by kernel_rfl
theorem ze_33 : zeroB Tryd.prog 33 = some (.agg #[.int .i64 0, .int .i64 0, .int .i64 0, .int .i64 0, .int .i64 0, .int .i64 0, .int .i64 0, .int .i64 0, .int .i64 0, .int .i64 0, .int .i64 0, .int .i64 0, .int .i64 0, .int .i64 0, .int .i64 0, .int .i64 0]) := by kernel_rfl
theorem sh_33 : shapes Tryd.prog 12 33 = some [.i .i64, .i .i64, .i .i64, .i .i64, .i .i64, .i .i64, .i .i64, .i .i64, .i .i64, .i .i64, .i .i64, .i .i64, .i .i64, .i .i64, .i .i64, .i .i64] := by kernel_rfl
theorem ar_33 : arrB Tryd.prog 33 = some (16, 3, 1) := by kernel_rfl
theorem ui_36 : Tryd.prog.underlying 36 = some (.int .u64) := by kernel_rfl
theorem ag_36 : aggB Tryd.prog 36 = some false := by kernel_rfl
theorem sz_36 : sizeB Tryd.prog 36 = some 1 := by kernel_rfl
theorem ze_36 : zeroB Tryd.prog 36 = some (.int .u64 0) := by kernel_rfl
theorem ag_37 : aggB Tryd.prog 37 = some true := by kernel_rfl
theorem sz_37 : sizeB Tryd.prog 37 = some 5 := by kernel_rfl
theorem ze_37 : zeroB Tryd.prog 37 = some (.agg #[.int .i64 0, .int .i64 0, .int .u64 0, .int .u64 0, .int .u64 0]) := by kernel_rfl
theorem sh_37 : shapes Tryd.prog 12 37 = some [.i .i64, .i .i64, .i .u64, .i .u64, .i .u64] := by kernel_rfl
theorem fi_37_0 : fieldB Tryd.prog 37 0 = some (0, 3) := by kernel_rfl
theorem fi_37_1 : fieldB Tryd.prog 37 1 = some (1, 3) := by kernel_rfl
theorem fi_37_2 : fieldB Tryd.prog 37 2 = some (2, 36) := by kernel_rfl
theorem fi_37_3 : fieldB Tryd.prog 37 3 = some (3, 36) := by kernel_rfl
theorem fi_37_4 : fieldB Tryd.prog 37 4 = some (4, 36) := by kernel_rfl
theorem ag_38 : aggB Tryd.prog 38 = some true := by kernel_rfl
theorem sz_38 : sizeB Tryd.prog 38 = some 5 := by kernel_rfl
theorem ze_38 : zeroB Tryd.prog 38 = some (.agg #[.int .i64 0, .int .i64 0, .int .u64 0, .int .u64 0, .int .u64 0]) := by kernel_rfl
theorem sh_38 : shapes Tryd.prog 12 38 = some [.i .i64, .i .i64, .i .u64, .i .u64, .i .u64] := by kernel_rfl
theorem fi_38_0 : fieldB Tryd.prog 38 0 = some (0, 3) := by kernel_rfl
theorem fi_38_1 : fieldB Tryd.prog 38 1 = some (1, 3) := by kernel_rfl
theorem fi_38_2 : fieldB Tryd.prog 38 2 = some (2, 36) := by kernel_rfl
theorem fi_38_3 : fieldB Tryd.prog 38 3 = some (3, 36) := by kernel_rfl
theorem fi_38_4 : fieldB Tryd.prog 38 4 = some (4, 36) := by kernel_rfl
theorem ag_39 : aggB Tryd.prog 39 = some true := by kernel_rfl
theorem sz_39 : sizeB Tryd.prog 39 = some 3 := by kernel_rfl
theorem ze_39 : zeroB Tryd.prog 39 = some (.agg #[.int .i64 0, .int .i64 0, .int .i64 0]) := by kernel_rfl
theorem sh_39 : shapes Tryd.prog 12 39 = some [.i .i64, .i .i64, .i .i64] := by kernel_rfl
theorem ar_39 : arrB Tryd.prog 39 = some (3, 3, 1) := by kernel_rfl
theorem ag_40 : aggB Tryd.prog 40 = some true := by kernel_rfl
theorem sz_40 : sizeB Tryd.prog 40 = some 37 := by kernel_rfl
theorem ze_40 : zeroB Tryd.prog 40 = some (.agg #[.int .i64 0, .int .i64 0, .int .i64 0, .int .i64 0, .int .i64 0, .int .i64 0, .int .i64 0, .int .u64 0, .int .u64 0, .int .u64 0, .int .i64 0, .int .i64 0, .int .i64 0, .int .u8 0, .int .u8 0, .int .u8 0, .int .u8 0, .int .u8 0, .int .u8 0, .int .u8 0, .int .u8 0, .int .u8 0, .int .u8 0, .int .u8 0, .int .u8 0, .int .u8 0, .int .u8 0, .int .u8 0, .int .u8 0, .int .u64 0, .bool false, .int .u64 0, .int .i64 0, .int .u64 0, .int .i64 0, .int .i64 0, .int .i64 0]) := by kernel_rfl
theorem sh_40 : shapes Tryd.prog 12 40 = some [.i .i64, .i .i64, .i .i64, .i .i64, .i .i64, .i .i64, .i .i64, .i .u64, .i .u64, .i .u64, .i .i64, .i .i64, .i .i64, .i .u8, .i .u8, .i .u8, .i .u8, .i .u8, .i .u8, .i .u8, .i .u8, .i .u8, .i .u8, .i .u8, .i .u8, .i .u8, .i .u8, .i .u8, .i .u8, .i .u64, .b, .i .u64, .i .i64, .i .u64, .i .i64, .i .i64, .i .i64] := by kernel_rfl
theorem fi_40_0 : fieldB Tryd.prog 40 0 = some (0, 3) := by kernel_rfl
theorem fi_40_1 : fieldB Tryd.prog 40 1 = some (1, 3) := by kernel_rfl
theorem fi_40_2 : fieldB Tryd.prog 40 2 = some (2, 3) := by kernel_rfl
theorem fi_40_3 : fieldB Tryd.prog 40 3 = some (3, 3) := by kernel_rfl
theorem fi_40_4 : fieldB Tryd.prog 40 4 = some (4, 3) := by kernel_rfl
theorem fi_40_5 : fieldB Tryd.prog 40 5 = some (5, 38) := by kernel_rfl
theorem fi_40_6 : fieldB Tryd.prog 40 6 = some (10, 39) := by kernel_rfl
theorem fi_40_7 : fieldB Tryd.prog 40 7 = some (13, 22) := by kernel_rfl
theorem fi_40_8 : fieldB Tryd.prog 40 8 = some (29, 36) := by kernel_rfl
theorem fi_40_9 : fieldB Tryd.prog 40 9 = some (30, 4) := by kernel_rfl
theorem fi_40_10 : fieldB Tryd.prog 40 10 = some (31, 36) := by kernel_rfl
theorem fi_40_11 : fieldB Tryd.prog 40 11 = some (32, 3) := by kernel_rfl
theorem fi_40_12 : fieldB Tryd.prog 40 12 = some (33, 36) := by kernel_rfl
theorem fi_40_13 : fieldB Tryd.prog 40 13 = some (34, 3) := by kernel_rfl
theorem fi_40_14 : fieldB Tryd.prog 40 14 = some (35, 3) := by kernel_rfl
theorem fi_40_15 : fieldB Tryd.prog 40 15 = some (36, 3) := by kernel_rfl
theorem ag_41 : aggB Tryd.prog 41 = some true := by kernel_rfl
theorem sz_41 : sizeB Tryd.prog 41 = some 37 := by kernel_rfl
theorem ze_41 : zeroB Tryd.prog 41 = some (.agg #[.int .i64 0, .int .i64 0, .int .i64 0, .int .i64 0, .int .i64 0, .int .i64 0, .int .i64 0, .int .u64 0, .int .u64 0, .int .u64 0, .int .i64 0, .int .i64 0, .int .i64 0, .int .u8 0, .int .u8 0, .int .u8 0, .int .u8 0, .int .u8 0, .int .u8 0, .int .u8 0, .int .u8 0, .int .u8 0, .int .u8 0, .int .u8 0, .int .u8 0, .int .u8 0, .int .u8 0, .int .u8 0, .int .u8 0, .int .u64 0, .bool false, .int .u64 0, .int .i64 0, .int .u64 0, .int .i64 0, .int .i64 0, .int .i64 0]) := by kernel_rfl
theorem sh_41 : shapes Tryd.prog 12 41 = some [.i .i64, .i .i64, .i .i64, .i .i64, .i .i64, .i .i64, .i .i64, .i .u64, .i .u64, .i .u64, .i .i64, .i .i64, .i .i64, .i .u8, .i .u8, .i .u8, .i .u8, .i .u8, .i .u8, .i .u8, .i .u8, .i .u8, .i .u8, .i .u8, .i .u8, .i .u8, .i .u8, .i .u8, .i .u8, .i .u64, .b, .i .u64, .i .i64, .i .u64, .i .i64, .i .i64, .i .i64] := by kernel_rfl
theorem kt_41 : Tryd.prog.keyTypeAt 12 41 = true := by kernel_rfl
theorem rw_41 : isRowB Tryd.prog 41 = true := by kernel_rfl
theorem zk_41 : ([.i .i64, .i .i64, .i .i64, .i .i64, .i .i64, .i .i64, .i .i64, .i .u64, .i .u64, .i .u64, .i .i64, .i .i64, .i .i64, .i .u8, .i .u8, .i .u8, .i .u8, .i .u8, .i .u8, .i .u8, .i .u8, .i .u8, .i .u8, .i .u8, .i .u8, .i .u8, .i .u8, .i .u8, .i .u8, .i .u64, .b, .i .u64, .i .i64, .i .u64, .i .i64, .i .i64, .i .i64] : List CK).length = Tryd.prog.cellsOf 41 := by kernel_rfl
theorem eg_41 : Tryd.prog.eqGuardType Tryd.prog.depth 41 = false := by kernel_rfl
theorem fi_41_0 : fieldB Tryd.prog 41 0 = some (0, 3) := by kernel_rfl
theorem fi_41_1 : fieldB Tryd.prog 41 1 = some (1, 3) := by kernel_rfl
theorem fi_41_2 : fieldB Tryd.prog 41 2 = some (2, 3) := by kernel_rfl
theorem fi_41_3 : fieldB Tryd.prog 41 3 = some (3, 3) := by kernel_rfl
theorem fi_41_4 : fieldB Tryd.prog 41 4 = some (4, 3) := by kernel_rfl
theorem fi_41_5 : fieldB Tryd.prog 41 5 = some (5, 38) := by kernel_rfl
theorem fi_41_6 : fieldB Tryd.prog 41 6 = some (10, 39) := by kernel_rfl
theorem fi_41_7 : fieldB Tryd.prog 41 7 = some (13, 22) := by kernel_rfl
theorem fi_41_8 : fieldB Tryd.prog 41 8 = some (29, 36) := by kernel_rfl
theorem fi_41_9 : fieldB Tryd.prog 41 9 = some (30, 4) := by kernel_rfl
theorem fi_41_10 : fieldB Tryd.prog 41 10 = some (31, 36) := by kernel_rfl
theorem fi_41_11 : fieldB Tryd.prog 41 11 = some (32, 3) := by kernel_rfl
theorem fi_41_12 : fieldB Tryd.prog 41 12 = some (33, 36) := by kernel_rfl
theorem fi_41_13 : fieldB Tryd.prog 41 13 = some (34, 3) := by kernel_rfl
theorem fi_41_14 : fieldB Tryd.prog 41 14 = some (35, 3) := by kernel_rfl
theorem fi_41_15 : fieldB Tryd.prog 41 15 = some (36, 3) := by kernel_rfl
theorem ui_45 : Tryd.prog.underlying 45 = some (.int .i64) := by kernel_rfl
theorem ag_45 : aggB Tryd.prog 45 = some false := by kernel_rfl
theorem sz_45 : sizeB Tryd.prog 45 = some 1 := by kernel_rfl
theorem ze_45 : zeroB Tryd.prog 45 = some (.int .i64 0) := by kernel_rfl
theorem ag_50 : aggB Tryd.prog 50 = some false := by kernel_rfl
theorem sz_50 : sizeB Tryd.prog 50 = some 1 := by kernel_rfl
theorem ze_50 : zeroB Tryd.prog 50 = some (.pointer none) := by kernel_rfl
theorem ag_54 : aggB Tryd.prog 54 = some true := by kernel_rfl
theorem sz_54 : sizeB Tryd.prog 54 = some 3 := by kernel_rfl
theorem ze_54 : zeroB Tryd.prog 54 = some (.agg #[.nilFunc, .int .i64 0, .int .i64 0]) := by kernel_rfl
theorem fi_54_0 : fieldB Tryd.prog 54 0 = some (0, 53) := by kernel_rfl
theorem fi_54_1 : fieldB Tryd.prog 54 1 = some (1, 3) := by kernel_rfl
theorem fi_54_2 : fieldB Tryd.prog 54 2 = some (2, 3) := by kernel_rfl
theorem ag_55 : aggB Tryd.prog 55 = some true := by kernel_rfl
theorem sz_55 : sizeB Tryd.prog 55 = some 3 := by kernel_rfl
theorem ze_55 : zeroB Tryd.prog 55 = some (.agg #[.nilFunc, .int .i64 0, .int .i64 0]) := by kernel_rfl
theorem fi_55_0 : fieldB Tryd.prog 55 0 = some (0, 53) := by kernel_rfl
theorem fi_55_1 : fieldB Tryd.prog 55 1 = some (1, 3) := by kernel_rfl
theorem fi_55_2 : fieldB Tryd.prog 55 2 = some (2, 3) := by kernel_rfl
theorem ag_56 : aggB Tryd.prog 56 = some false := by kernel_rfl
theorem sz_56 : sizeB Tryd.prog 56 = some 1 := by kernel_rfl
theorem ze_56 : zeroB Tryd.prog 56 = some (.slice none 0 0) := by kernel_rfl
theorem us_56 : Tryd.prog.underlying 56 = some (.slice 55) := by kernel_rfl
theorem sl_56 : slcB Tryd.prog 56 = some (55, 3) := by kernel_rfl
theorem ag_57 : aggB Tryd.prog 57 = some true := by kernel_rfl
theorem sz_57 : sizeB Tryd.prog 57 = some 2 := by kernel_rfl
theorem ze_57 : zeroB Tryd.prog 57 = some (.agg #[.int .i64 0, .bool false]) := by kernel_rfl
theorem sh_57 : shapes Tryd.prog 12 57 = some [.i .i64, .b] := by kernel_rfl
theorem fi_57_0 : fieldB Tryd.prog 57 0 = some (0, 3) := by kernel_rfl
theorem fi_57_1 : fieldB Tryd.prog 57 1 = some (1, 4) := by kernel_rfl
theorem ag_58 : aggB Tryd.prog 58 = some false := by kernel_rfl
theorem sz_58 : sizeB Tryd.prog 58 = some 1 := by kernel_rfl
theorem ze_58 : zeroB Tryd.prog 58 = some (.slice none 0 0) := by kernel_rfl
theorem us_58 : Tryd.prog.underlying 58 = some (.slice 57) := by kernel_rfl
theorem sl_58 : slcB Tryd.prog 58 = some (57, 2) := by kernel_rfl
theorem ag_60 : aggB Tryd.prog 60 = some false := by kernel_rfl
theorem sz_60 : sizeB Tryd.prog 60 = some 1 := by kernel_rfl
theorem ze_60 : zeroB Tryd.prog 60 = some (.slice none 0 0) := by kernel_rfl
theorem us_60 : Tryd.prog.underlying 60 = some (.slice 31) := by kernel_rfl
theorem sl_60 : slcB Tryd.prog 60 = some (31, 1) := by kernel_rfl
theorem ag_65 : aggB Tryd.prog 65 = some true := by kernel_rfl
theorem sz_65 : sizeB Tryd.prog 65 = some 4 := by kernel_rfl
theorem ze_65 : zeroB Tryd.prog 65 = some (.agg #[.pointer none, .pointer none, .pointer none, .string ByteArray.empty]) := by kernel_rfl
theorem fi_65_0 : fieldB Tryd.prog 65 0 = some (0, 17) := by kernel_rfl
theorem fi_65_1 : fieldB Tryd.prog 65 1 = some (1, 17) := by kernel_rfl
theorem fi_65_2 : fieldB Tryd.prog 65 2 = some (2, 17) := by kernel_rfl
theorem fi_65_3 : fieldB Tryd.prog 65 3 = some (3, 9) := by kernel_rfl
theorem ag_66 : aggB Tryd.prog 66 = some true := by kernel_rfl
theorem sz_66 : sizeB Tryd.prog 66 = some 4 := by kernel_rfl
theorem ze_66 : zeroB Tryd.prog 66 = some (.agg #[.pointer none, .pointer none, .pointer none, .string ByteArray.empty]) := by kernel_rfl
theorem fi_66_0 : fieldB Tryd.prog 66 0 = some (0, 17) := by kernel_rfl
theorem fi_66_1 : fieldB Tryd.prog 66 1 = some (1, 17) := by kernel_rfl
theorem fi_66_2 : fieldB Tryd.prog 66 2 = some (2, 17) := by kernel_rfl
theorem fi_66_3 : fieldB Tryd.prog 66 3 = some (3, 9) := by kernel_rfl
theorem ui_71 : Tryd.prog.underlying 71 = some (.int .u32) := by kernel_rfl
theorem ag_71 : aggB Tryd.prog 71 = some false := by kernel_rfl
theorem sz_71 : sizeB Tryd.prog 71 = some 1 := by kernel_rfl
theorem ze_71 : zeroB Tryd.prog 71 = some (.int .u32 0) := by kernel_rfl
theorem ui_72 : Tryd.prog.underlying 72 = some (.int .u8) := by kernel_rfl
theorem ag_72 : aggB Tryd.prog 72 = some false := by kernel_rfl
theorem sz_72 : sizeB Tryd.prog 72 = some 1 := by kernel_rfl
theorem ze_72 : zeroB Tryd.prog 72 = some (.int .u8 0) := by kernel_rfl
theorem ui_73 : Tryd.prog.underlying 73 = some (.int .u8) := by kernel_rfl
theorem ag_73 : aggB Tryd.prog 73 = some false := by kernel_rfl
theorem sz_73 : sizeB Tryd.prog 73 = some 1 := by kernel_rfl
theorem ze_73 : zeroB Tryd.prog 73 = some (.int .u8 0) := by kernel_rfl
theorem ag_75 : aggB Tryd.prog 75 = some false := by kernel_rfl
theorem sz_75 : sizeB Tryd.prog 75 = some 1 := by kernel_rfl
theorem ze_75 : zeroB Tryd.prog 75 = some (.pointer none) := by kernel_rfl
theorem ui_76 : Tryd.prog.underlying 76 = some (.int .i32) := by kernel_rfl
theorem ag_76 : aggB Tryd.prog 76 = some false := by kernel_rfl
theorem sz_76 : sizeB Tryd.prog 76 = some 1 := by kernel_rfl
theorem ze_76 : zeroB Tryd.prog 76 = some (.int .i32 0) := by kernel_rfl
theorem ui_77 : Tryd.prog.underlying 77 = some (.int .i32) := by kernel_rfl
theorem ag_77 : aggB Tryd.prog 77 = some false := by kernel_rfl
theorem sz_77 : sizeB Tryd.prog 77 = some 1 := by kernel_rfl
theorem ze_77 : zeroB Tryd.prog 77 = some (.int .i32 0) := by kernel_rfl
theorem ag_78 : aggB Tryd.prog 78 = some true := by kernel_rfl
theorem sz_78 : sizeB Tryd.prog 78 = some 11 := by kernel_rfl
theorem ze_78 : zeroB Tryd.prog 78 = some (.agg #[.int .u64 0, .int .u64 0, .int .u32 0, .int .u8 0, .int .u8 0, .int .u8 0, .int .u8 0, .nilFunc, .pointer none, .int .i32 0, .int .i32 0]) := by kernel_rfl
theorem fi_78_0 : fieldB Tryd.prog 78 0 = some (0, 12) := by kernel_rfl
theorem fi_78_1 : fieldB Tryd.prog 78 1 = some (1, 12) := by kernel_rfl
theorem fi_78_2 : fieldB Tryd.prog 78 2 = some (2, 71) := by kernel_rfl
theorem fi_78_3 : fieldB Tryd.prog 78 3 = some (3, 72) := by kernel_rfl
theorem fi_78_4 : fieldB Tryd.prog 78 4 = some (4, 5) := by kernel_rfl
theorem fi_78_5 : fieldB Tryd.prog 78 5 = some (5, 5) := by kernel_rfl
theorem fi_78_6 : fieldB Tryd.prog 78 6 = some (6, 73) := by kernel_rfl
theorem fi_78_7 : fieldB Tryd.prog 78 7 = some (7, 74) := by kernel_rfl
theorem fi_78_8 : fieldB Tryd.prog 78 8 = some (8, 75) := by kernel_rfl
theorem fi_78_9 : fieldB Tryd.prog 78 9 = some (9, 76) := by kernel_rfl
theorem fi_78_10 : fieldB Tryd.prog 78 10 = some (10, 77) := by kernel_rfl
theorem ag_79 : aggB Tryd.prog 79 = some true := by kernel_rfl
theorem sz_79 : sizeB Tryd.prog 79 = some 11 := by kernel_rfl
theorem ze_79 : zeroB Tryd.prog 79 = some (.agg #[.int .u64 0, .int .u64 0, .int .u32 0, .int .u8 0, .int .u8 0, .int .u8 0, .int .u8 0, .nilFunc, .pointer none, .int .i32 0, .int .i32 0]) := by kernel_rfl
theorem fi_79_0 : fieldB Tryd.prog 79 0 = some (0, 12) := by kernel_rfl
theorem fi_79_1 : fieldB Tryd.prog 79 1 = some (1, 12) := by kernel_rfl
theorem fi_79_2 : fieldB Tryd.prog 79 2 = some (2, 71) := by kernel_rfl
theorem fi_79_3 : fieldB Tryd.prog 79 3 = some (3, 72) := by kernel_rfl
theorem fi_79_4 : fieldB Tryd.prog 79 4 = some (4, 5) := by kernel_rfl
theorem fi_79_5 : fieldB Tryd.prog 79 5 = some (5, 5) := by kernel_rfl
theorem fi_79_6 : fieldB Tryd.prog 79 6 = some (6, 73) := by kernel_rfl
theorem fi_79_7 : fieldB Tryd.prog 79 7 = some (7, 74) := by kernel_rfl
theorem fi_79_8 : fieldB Tryd.prog 79 8 = some (8, 75) := by kernel_rfl
theorem fi_79_9 : fieldB Tryd.prog 79 9 = some (9, 76) := by kernel_rfl
theorem fi_79_10 : fieldB Tryd.prog 79 10 = some (10, 77) := by kernel_rfl
theorem ca_3 : callable Tryd.prog 3 = true := by kernel_rfl
theorem ca_4 : callable Tryd.prog 4 = true := by kernel_rfl
theorem ca_5 : callable Tryd.prog 5 = true := by kernel_rfl
theorem ca_6 : callable Tryd.prog 6 = true := by kernel_rfl
theorem ca_7 : callable Tryd.prog 7 = true := by kernel_rfl
theorem ca_8 : callable Tryd.prog 8 = true := by kernel_rfl
theorem ca_9 : callable Tryd.prog 9 = true := by kernel_rfl
theorem ca_10 : callable Tryd.prog 10 = true := by kernel_rfl
theorem ca_11 : callable Tryd.prog 11 = true := by kernel_rfl
theorem ca_12 : callable Tryd.prog 12 = true := by kernel_rfl
theorem ca_13 : callable Tryd.prog 13 = true := by kernel_rfl
theorem ca_14 : callable Tryd.prog 14 = true := by kernel_rfl
theorem ca_15 : callable Tryd.prog 15 = true := by kernel_rfl
theorem ca_16 : callable Tryd.prog 16 = true := by kernel_rfl
theorem ca_17 : callable Tryd.prog 17 = true := by kernel_rfl
theorem ca_18 : callable Tryd.prog 18 = true := by kernel_rfl
theorem ca_19 : callable Tryd.prog 19 = true := by kernel_rfl
theorem ca_20 : callable Tryd.prog 20 = true := by kernel_rfl
theorem ca_21 : callable Tryd.prog 21 = true := by kernel_rfl
theorem ca_22 : callable Tryd.prog 22 = true := by kernel_rfl
theorem ca_23 : callable Tryd.prog 23 = true := by kernel_rfl
theorem ca_24 : callable Tryd.prog 24 = true := by kernel_rfl
theorem ca_25 : callable Tryd.prog 25 = true := by kernel_rfl
theorem ca_26 : callable Tryd.prog 26 = true := by kernel_rfl
theorem ca_27 : callable Tryd.prog 27 = true := by kernel_rfl
theorem ca_28 : callable Tryd.prog 28 = true := by kernel_rfl
theorem ca_29 : callable Tryd.prog 29 = true := by kernel_rfl
theorem ca_30 : callable Tryd.prog 30 = true := by kernel_rfl
theorem ca_31 : callable Tryd.prog 31 = true := by kernel_rfl
theorem ca_32 : callable Tryd.prog 32 = true := by kernel_rfl
theorem ca_33 : callable Tryd.prog 33 = true := by kernel_rfl
theorem ca_34 : callable Tryd.prog 34 = true := by kernel_rfl
theorem ca_35 : callable Tryd.prog 35 = true := by kernel_rfl
theorem ca_36 : callable Tryd.prog 36 = true := by kernel_rfl
theorem ca_37 : callable Tryd.prog 37 = true := by kernel_rfl
theorem ca_38 : callable Tryd.prog 38 = true := by kernel_rfl
theorem ca_39 : callable Tryd.prog 39 = true := by kernel_rfl
theorem ca_40 : callable Tryd.prog 40 = true := by kernel_rfl
theorem ca_41 : callable Tryd.prog 41 = true := by kernel_rfl
theorem ca_42 : callable Tryd.prog 42 = true := by kernel_rfl
theorem ca_43 : callable Tryd.prog 43 = true := by kernel_rfl
theorem ca_44 : callable Tryd.prog 44 = true := by kernel_rfl
theorem ca_45 : callable Tryd.prog 45 = true := by kernel_rfl
theorem ca_46 : callable Tryd.prog 46 = true := by kernel_rfl
theorem ca_47 : callable Tryd.prog 47 = true := by kernel_rfl
theorem ca_48 : callable Tryd.prog 48 = true := by kernel_rfl
theorem ca_49 : callable Tryd.prog 49 = true := by kernel_rfl
theorem ca_50 : callable Tryd.prog 50 = true := by kernel_rfl
theorem ca_51 : callable Tryd.prog 51 = true := by kernel_rfl
theorem ca_52 : callable Tryd.prog 52 = true := by kernel_rfl
theorem ca_53 : callable Tryd.prog 53 = true := by kernel_rfl
theorem ca_54 : callable Tryd.prog 54 = true := by kernel_rfl
theorem ca_55 : callable Tryd.prog 55 = true := by kernel_rfl
theorem ca_56 : callable Tryd.prog 56 = true := by kernel_rfl
theorem ca_57 : callable Tryd.prog 57 = true := by kernel_rfl
theorem ca_58 : callable Tryd.prog 58 = true := by kernel_rfl
theorem ca_59 : callable Tryd.prog 59 = true := by kernel_rfl
theorem ca_60 : callable Tryd.prog 60 = true := by kernel_rfl
end Go.Proofs.YtakkookpjhaekaaDoor
