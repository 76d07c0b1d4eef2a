/-
  Closed facts on the program's types and functions, printed by table() of walk.py.
-/
import Derived.Test.YtkfilmdnpocinaaFwRow
import Derived.Test.YtkfilmdnpocinaaChecked
namespace Go.Proofs.Ytkfilmdnpocinaa
set_option linter.unusedVariables false
theorem follows : Try.prog.follows .mixedOrders = true := by kernel_rfl
theorem ui_2 : Try.prog.underlying 2 = some (.int .i64) := by kernel_rfl
theorem ag_2 : aggB Try.prog 2 = some false := by kernel_rfl
theorem sz_2 : sizeB Try.prog 2 = some 1 := by kernel_rfl
theorem ze_2 : zeroB Try.prog 2 = some (.int .i64 0) := by kernel_rfl
theorem sh_2 : shapes Try.prog 12 2 = some [.i .i64] := by kernel_rfl
theorem ui_3 : Try.prog.underlying 3 = some (.int .i64) := by kernel_rfl
theorem ag_3 : aggB Try.prog 3 = some false := by kernel_rfl
theorem sz_3 : sizeB Try.prog 3 = some 1 := by kernel_rfl
theorem ze_3 : zeroB Try.prog 3 = some (.int .i64 0) := by kernel_rfl
theorem sh_3 : shapes Try.prog 12 3 = some [.i .i64] := by kernel_rfl
theorem ub_4 : Try.prog.underlying 4 = some .bool := by kernel_rfl
theorem ag_4 : aggB Try.prog 4 = some false := by kernel_rfl
theorem sz_4 : sizeB Try.prog 4 = some 1 := by kernel_rfl
theorem ze_4 : zeroB Try.prog 4 = some (.bool false) := by kernel_rfl
theorem ui_5 : Try.prog.underlying 5 = some (.int .u8) := by kernel_rfl
theorem ag_5 : aggB Try.prog 5 = some false := by kernel_rfl
theorem sz_5 : sizeB Try.prog 5 = some 1 := by kernel_rfl
theorem ze_5 : zeroB Try.prog 5 = some (.int .u8 0) := by kernel_rfl
theorem sh_5 : shapes Try.prog 12 5 = some [.i .u8] := by kernel_rfl
theorem ui_6 : Try.prog.underlying 6 = some (.int .u8) := by kernel_rfl
theorem ag_6 : aggB Try.prog 6 = some false := by kernel_rfl
theorem sz_6 : sizeB Try.prog 6 = some 1 := by kernel_rfl
theorem ze_6 : zeroB Try.prog 6 = some (.int .u8 0) := by kernel_rfl
theorem sh_6 : shapes Try.prog 12 6 = some [.i .u8] := by kernel_rfl
theorem ag_7 : aggB Try.prog 7 = some true := by kernel_rfl
theorem sz_7 : sizeB Try.prog 7 = some 4 := by kernel_rfl
theorem ze_7 : zeroB Try.prog 7 = some (.agg #[.int .i64 0, .int .i64 0, .bool false, .int .u8 0]) := by kernel_rfl
theorem sh_7 : shapes Try.prog 12 7 = some [.i .i64, .i .i64, .b, .i .u8] := by kernel_rfl
theorem fi_7_0 : fieldB Try.prog 7 0 = some (0, 2) := by kernel_rfl
theorem fi_7_1 : fieldB Try.prog 7 1 = some (1, 3) := by kernel_rfl
theorem fi_7_2 : fieldB Try.prog 7 2 = some (2, 4) := by kernel_rfl
theorem fi_7_3 : fieldB Try.prog 7 3 = some (3, 6) := by kernel_rfl
theorem ag_8 : aggB Try.prog 8 = some true := by kernel_rfl
theorem sz_8 : sizeB Try.prog 8 = some 4 := by kernel_rfl
theorem ze_8 : zeroB Try.prog 8 = some (.agg #[.int .i64 0, .int .i64 0, .bool false, .int .u8 0]) := by kernel_rfl
theorem sh_8 : shapes Try.prog 12 8 = some [.i .i64, .i .i64, .b, .i .u8] := by kernel_rfl
theorem fi_8_0 : fieldB Try.prog 8 0 = some (0, 2) := by kernel_rfl
theorem fi_8_1 : fieldB Try.prog 8 1 = some (1, 3) := by kernel_rfl
theorem fi_8_2 : fieldB Try.prog 8 2 = some (2, 4) := by kernel_rfl
theorem fi_8_3 : fieldB Try.prog 8 3 = some (3, 6) := by kernel_rfl
theorem ut_9 : Try.prog.underlying 9 = some .string := by kernel_rfl
theorem ut_10 : Try.prog.underlying 10 = some .string := by kernel_rfl
theorem ut_11 : Try.prog.underlying 11 = some .string := by kernel_rfl
theorem ui_12 : Try.prog.underlying 12 = some (.int .u64) := by kernel_rfl
theorem ag_12 : aggB Try.prog 12 = some false := by kernel_rfl
theorem sz_12 : sizeB Try.prog 12 = some 1 := by kernel_rfl
theorem ze_12 : zeroB Try.prog 12 = some (.int .u64 0) := by kernel_rfl
theorem sh_12 : shapes Try.prog 12 12 = some [.i .u64] := by kernel_rfl
theorem ag_13 : aggB Try.prog 13 = some true := by kernel_rfl
theorem sz_13 : sizeB Try.prog 13 = some 2 := by kernel_rfl
theorem ze_13 : zeroB Try.prog 13 = some (.agg #[.string ByteArray.empty, .int .u64 0]) := by kernel_rfl
theorem fi_13_0 : fieldB Try.prog 13 0 = some (0, 9) := by kernel_rfl
theorem fi_13_1 : fieldB Try.prog 13 1 = some (1, 12) := by kernel_rfl
theorem ag_14 : aggB Try.prog 14 = some true := by kernel_rfl
theorem sz_14 : sizeB Try.prog 14 = some 2 := by kernel_rfl
theorem ze_14 : zeroB Try.prog 14 = some (.agg #[.string ByteArray.empty, .int .u64 0]) := by kernel_rfl
theorem fi_14_0 : fieldB Try.prog 14 0 = some (0, 9) := by kernel_rfl
theorem fi_14_1 : fieldB Try.prog 14 1 = some (1, 12) := by kernel_rfl
theorem ag_15 : aggB Try.prog 15 = some false := by kernel_rfl
theorem sz_15 : sizeB Try.prog 15 = some 1 := by kernel_rfl
theorem ze_15 : zeroB Try.prog 15 = some (.pointer none) := by kernel_rfl
theorem up_15 : Try.prog.underlying 15 = some (.pointer (Try.prog.pointee 15)) := by kernel_rfl
theorem ag_16 : aggB Try.prog 16 = some false := by kernel_rfl
theorem sz_16 : sizeB Try.prog 16 = some 1 := by kernel_rfl
theorem ze_16 : zeroB Try.prog 16 = some (.pointer none) := by kernel_rfl
theorem up_16 : Try.prog.underlying 16 = some (.pointer (Try.prog.pointee 16)) := by kernel_rfl
theorem ag_17 : aggB Try.prog 17 = some false := by kernel_rfl
theorem sz_17 : sizeB Try.prog 17 = some 1 := by kernel_rfl
theorem ze_17 : zeroB Try.prog 17 = some (.pointer none) := by kernel_rfl
theorem up_17 : Try.prog.underlying 17 = some (.pointer (Try.prog.pointee 17)) := by kernel_rfl
theorem ag_18 : aggB Try.prog 18 = some true := by kernel_rfl
theorem sz_18 : sizeB Try.prog 18 = some 1 := by kernel_rfl
theorem ze_18 : zeroB Try.prog 18 = some (.agg #[.pointer none]) := by kernel_rfl
theorem fi_18_0 : fieldB Try.prog 18 0 = some (0, 17) := by kernel_rfl
theorem ag_19 : aggB Try.prog 19 = some true := by kernel_rfl
theorem sz_19 : sizeB Try.prog 19 = some 1 := by kernel_rfl
theorem ze_19 : zeroB Try.prog 19 = some (.agg #[.pointer none]) := by kernel_rfl
theorem fi_19_0 : fieldB Try.prog 19 0 = some (0, 17) := by kernel_rfl
theorem ui_21 : Try.prog.underlying 21 = some (.int .i32) := by kernel_rfl
theorem ag_21 : aggB Try.prog 21 = some false := by kernel_rfl
theorem sz_21 : sizeB Try.prog 21 = some 1 := by kernel_rfl
theorem ze_21 : zeroB Try.prog 21 = some (.int .i32 0) := by kernel_rfl
theorem sh_21 : shapes Try.prog 12 21 = some [.i .i32] := by kernel_rfl
theorem ag_22 : aggB Try.prog 22 = some true := by kernel_rfl
theorem sz_22 : sizeB Try.prog 22 = some 3 := by kernel_rfl
theorem ze_22 : zeroB Try.prog 22 = some (.agg #[.int .i64 0, .int .i64 0, .int .i64 0]) := by kernel_rfl
theorem sh_22 : shapes Try.prog 12 22 = some [.i .i64, .i .i64, .i .i64] := by kernel_rfl
theorem kt_22 : Try.prog.keyTypeAt 12 22 = true := by kernel_rfl
theorem rw_22 : isRowB Try.prog 22 = true := by kernel_rfl
theorem zk_22 : ([.i .i64, .i .i64, .i .i64] : List CK).length = Try.prog.cellsOf 22 := by kernel_rfl
theorem eg_22 : Try.prog.eqGuardType Try.prog.depth 22 = false := by kernel_rfl
theorem ar_22 : arrB Try.prog 22 = some (3, 3, 1) := by kernel_rfl
theorem ag_23 : aggB Try.prog 23 = some false := by kernel_rfl
theorem sz_23 : sizeB Try.prog 23 = some 1 := by kernel_rfl
theorem ze_23 : zeroB Try.prog 23 = some (.slice none 0 0) := by kernel_rfl
theorem us_23 : Try.prog.underlying 23 = some (.slice 35) := by kernel_rfl
theorem sl_23 : slcB Try.prog 23 = some (35, 5) := by kernel_rfl
theorem ag_24 : aggB Try.prog 24 = some false := by kernel_rfl
theorem sz_24 : sizeB Try.prog 24 = some 1 := by kernel_rfl
theorem ze_24 : zeroB Try.prog 24 = some (.pointer none) := by kernel_rfl
theorem up_24 : Try.prog.underlying 24 = some (.pointer (Try.prog.pointee 24)) := by kernel_rfl
theorem ui_25 : Try.prog.underlying 25 = some (.int .i64) := by kernel_rfl
theorem ag_25 : aggB Try.prog 25 = some false := by kernel_rfl
theorem sz_25 : sizeB Try.prog 25 = some 1 := by kernel_rfl
theorem ze_25 : zeroB Try.prog 25 = some (.int .i64 0) := by kernel_rfl
theorem sh_25 : shapes Try.prog 12 25 = some [.i .i64] := by kernel_rfl
theorem ag_28 : aggB Try.prog 28 = some true := by kernel_rfl
theorem sz_28 : sizeB Try.prog 28 = some 7 := by kernel_rfl
theorem ze_28 : zeroB Try.prog 28 = some (.agg #[.int .i64 0, .int .i64 0, .int .i64 0, .int .i64 0, .int .i64 0, .int .i64 0, .int .i64 0]) := by kernel_rfl
theorem sh_28 : shapes Try.prog 12 28 = some [.i .i64, .i .i64, .i .i64, .i .i64, .i .i64, .i .i64, .i .i64] := by kernel_rfl
theorem fi_28_0 : fieldB Try.prog 28 0 = some (0, 22) := by kernel_rfl
theorem fi_28_1 : fieldB Try.prog 28 1 = some (3, 22) := by kernel_rfl
theorem fi_28_2 : fieldB Try.prog 28 2 = some (6, 3) := by kernel_rfl
theorem ag_29 : aggB Try.prog 29 = some true := by kernel_rfl
theorem sz_29 : sizeB Try.prog 29 = some 7 := by kernel_rfl
theorem ze_29 : zeroB Try.prog 29 = some (.agg #[.int .i64 0, .int .i64 0, .int .i64 0, .int .i64 0, .int .i64 0, .int .i64 0, .int .i64 0]) := by kernel_rfl
theorem sh_29 : shapes Try.prog 12 29 = some [.i .i64, .i .i64, .i .i64, .i .i64, .i .i64, .i .i64, .i .i64] := by kernel_rfl
theorem fi_29_0 : fieldB Try.prog 29 0 = some (0, 22) := by kernel_rfl
theorem fi_29_1 : fieldB Try.prog 29 1 = some (3, 22) := by kernel_rfl
theorem fi_29_2 : fieldB Try.prog 29 2 = some (6, 3) := by kernel_rfl
theorem ag_33 : aggB Try.prog 33 = some true := by kernel_rfl
theorem sz_33 : sizeB Try.prog 33 = some 3 := by kernel_rfl
theorem ze_33 : zeroB Try.prog 33 = some (.agg #[.bool false, .bool false, .bool false]) := by kernel_rfl
theorem sh_33 : shapes Try.prog 12 33 = some [.b, .b, .b] := by kernel_rfl
theorem kt_33 : Try.prog.keyTypeAt 12 33 = true := by kernel_rfl
theorem rw_33 : isRowB Try.prog 33 = true := by kernel_rfl
theorem zk_33 : ([.b, .b, .b] : List CK).length = Try.prog.cellsOf 33 := by kernel_rfl
theorem eg_33 : Try.prog.eqGuardType Try.prog.depth 33 = false := by kernel_rfl
theorem ar_33 : arrB Try.prog 33 = some (3, 4, 1) := by kernel_rfl
theorem ag_34 : aggB Try.prog 34 = some true := by kernel_rfl
theorem sz_34 : sizeB Try.prog 34 = some 5 := by kernel_rfl
theorem ze_34 : zeroB Try.prog 34 = some (.agg #[.int .u8 0, .bool false, .bool false, .bool false, .int .i64 0]) := by kernel_rfl
theorem sh_34 : shapes Try.prog 12 34 = some [.i .u8, .b, .b, .b, .i .i64] := by kernel_rfl
theorem fi_34_0 : fieldB Try.prog 34 0 = some (0, 5) := by kernel_rfl
theorem fi_34_1 : fieldB Try.prog 34 1 = some (1, 33) := by kernel_rfl
theorem fi_34_2 : fieldB Try.prog 34 2 = some (4, 3) := by kernel_rfl
theorem ag_35 : aggB Try.prog 35 = some true := by kernel_rfl
theorem sz_35 : sizeB Try.prog 35 = some 5 := by kernel_rfl
theorem ze_35 : zeroB Try.prog 35 = some (.agg #[.int .u8 0, .bool false, .bool false, .bool false, .int .i64 0]) := by kernel_rfl
theorem sh_35 : shapes Try.prog 12 35 = some [.i .u8, .b, .b, .b, .i .i64] := by kernel_rfl
theorem fi_35_0 : fieldB Try.prog 35 0 = some (0, 5) := by kernel_rfl
theorem fi_35_1 : fieldB Try.prog 35 1 = some (1, 33) := by kernel_rfl
theorem fi_35_2 : fieldB Try.prog 35 2 = some (4, 3) := by kernel_rfl
theorem ui_46 : Try.prog.underlying 46 = some (.int .u32) := by kernel_rfl
theorem ag_46 : aggB Try.prog 46 = some false := by kernel_rfl
theorem sz_46 : sizeB Try.prog 46 = some 1 := by kernel_rfl
theorem ze_46 : zeroB Try.prog 46 = some (.int .u32 0) := by kernel_rfl
theorem sh_46 : shapes Try.prog 12 46 = some [.i .u32] := by kernel_rfl
theorem ag_47 : aggB Try.prog 47 = some true := by kernel_rfl
theorem sz_47 : sizeB Try.prog 47 = some 3 := by kernel_rfl
theorem ze_47 : zeroB Try.prog 47 = some (.agg #[.int .u32 0, .int .u32 0, .int .u32 0]) := by kernel_rfl
theorem sh_47 : shapes Try.prog 12 47 = some [.i .u32, .i .u32, .i .u32] := by kernel_rfl
theorem ar_47 : arrB Try.prog 47 = some (3, 46, 1) := by kernel_rfl
theorem ag_48 : aggB Try.prog 48 = some false := by kernel_rfl
theorem sz_48 : sizeB Try.prog 48 = some 1 := by kernel_rfl
theorem ze_48 : zeroB Try.prog 48 = some (.slice none 0 0) := by kernel_rfl
theorem us_48 : Try.prog.underlying 48 = some (.slice 52) := by kernel_rfl
theorem if_52 : (Try.prog.info? 52).map (fun i => (i.zero, i.size, i.bytes)) = some (some (.int .u16 0), 1, 2) := by kernel_rfl
theorem sl_48 : slcB Try.prog 48 = some (52, 1) := by kernel_rfl
theorem ui_52 : Try.prog.underlying 52 = some (.int .u16) := by kernel_rfl
theorem ag_52 : aggB Try.prog 52 = some false := by kernel_rfl
theorem sz_52 : sizeB Try.prog 52 = some 1 := by kernel_rfl
theorem ze_52 : zeroB Try.prog 52 = some (.int .u16 0) := by kernel_rfl
theorem sh_52 : shapes Try.prog 12 52 = some [.i .u16] := by kernel_rfl
theorem ag_57 : aggB Try.prog 57 = some true := by kernel_rfl
theorem sz_57 : sizeB Try.prog 57 = some 7 := by kernel_rfl
theorem ze_57 : zeroB Try.prog 57 = some (.agg #[.int .i64 0, .int .i64 0, .int .i64 0, .int .i64 0, .int .i64 0, .int .i64 0, .int .i64 0]) := by kernel_rfl
theorem sh_57 : shapes Try.prog 12 57 = some [.i .i64, .i .i64, .i .i64, .i .i64, .i .i64, .i .i64, .i .i64] := by kernel_rfl
theorem fi_57_0 : fieldB Try.prog 57 0 = some (0, 22) := by kernel_rfl
theorem fi_57_1 : fieldB Try.prog 57 1 = some (3, 22) := by kernel_rfl
theorem fi_57_2 : fieldB Try.prog 57 2 = some (6, 3) := by kernel_rfl
theorem ag_58 : aggB Try.prog 58 = some true := by kernel_rfl
theorem sz_58 : sizeB Try.prog 58 = some 7 := by kernel_rfl
theorem ze_58 : zeroB Try.prog 58 = some (.agg #[.int .i64 0, .int .i64 0, .int .i64 0, .int .i64 0, .int .i64 0, .int .i64 0, .int .i64 0]) := by kernel_rfl
theorem sh_58 : shapes Try.prog 12 58 = some [.i .i64, .i .i64, .i .i64, .i .i64, .i .i64, .i .i64, .i .i64] := by kernel_rfl
theorem fi_58_0 : fieldB Try.prog 58 0 = some (0, 22) := by kernel_rfl
theorem fi_58_1 : fieldB Try.prog 58 1 = some (3, 22) := by kernel_rfl
theorem fi_58_2 : fieldB Try.prog 58 2 = some (6, 3) := by kernel_rfl
theorem ag_59 : aggB Try.prog 59 = some false := by kernel_rfl
theorem sz_59 : sizeB Try.prog 59 = some 1 := by kernel_rfl
theorem ze_59 : zeroB Try.prog 59 = some (.slice none 0 0) := by kernel_rfl
theorem us_59 : Try.prog.underlying 59 = some (.slice 24) := by kernel_rfl
theorem sl_59 : slcB Try.prog 59 = some (24, 1) := by kernel_rfl
theorem ag_63 : aggB Try.prog 63 = some true := by kernel_rfl
theorem sz_63 : sizeB Try.prog 63 = some 4 := by kernel_rfl
theorem ze_63 : zeroB Try.prog 63 = some (.agg #[.pointer none, .pointer none, .pointer none, .string ByteArray.empty]) := by kernel_rfl
theorem fi_63_0 : fieldB Try.prog 63 0 = some (0, 17) := by kernel_rfl
theorem fi_63_1 : fieldB Try.prog 63 1 = some (1, 17) := by kernel_rfl
theorem fi_63_2 : fieldB Try.prog 63 2 = some (2, 17) := by kernel_rfl
theorem fi_63_3 : fieldB Try.prog 63 3 = some (3, 9) := by kernel_rfl
theorem ag_64 : aggB Try.prog 64 = some true := by kernel_rfl
theorem sz_64 : sizeB Try.prog 64 = some 4 := by kernel_rfl
theorem ze_64 : zeroB Try.prog 64 = some (.agg #[.pointer none, .pointer none, .pointer none, .string ByteArray.empty]) := by kernel_rfl
theorem fi_64_0 : fieldB Try.prog 64 0 = some (0, 17) := by kernel_rfl
theorem fi_64_1 : fieldB Try.prog 64 1 = some (1, 17) := by kernel_rfl
theorem fi_64_2 : fieldB Try.prog 64 2 = some (2, 17) := by kernel_rfl
theorem fi_64_3 : fieldB Try.prog 64 3 = some (3, 9) := by kernel_rfl
theorem ui_68 : Try.prog.underlying 68 = some (.int .u8) := by kernel_rfl
theorem ag_68 : aggB Try.prog 68 = some false := by kernel_rfl
theorem sz_68 : sizeB Try.prog 68 = some 1 := by kernel_rfl
theorem ze_68 : zeroB Try.prog 68 = some (.int .u8 0) := by kernel_rfl
theorem sh_68 : shapes Try.prog 12 68 = some [.i .u8] := by kernel_rfl
theorem ui_69 : Try.prog.underlying 69 = some (.int .u8) := by kernel_rfl
theorem ag_69 : aggB Try.prog 69 = some false := by kernel_rfl
theorem sz_69 : sizeB Try.prog 69 = some 1 := by kernel_rfl
theorem ze_69 : zeroB Try.prog 69 = some (.int .u8 0) := by kernel_rfl
theorem sh_69 : shapes Try.prog 12 69 = some [.i .u8] := by kernel_rfl
theorem ag_71 : aggB Try.prog 71 = some false := by kernel_rfl
theorem sz_71 : sizeB Try.prog 71 = some 1 := by kernel_rfl
theorem ze_71 : zeroB Try.prog 71 = some (.pointer none) := by kernel_rfl
theorem up_71 : Try.prog.underlying 71 = some (.pointer (Try.prog.pointee 71)) := by kernel_rfl
theorem ui_72 : Try.prog.underlying 72 = some (.int .i32) := by kernel_rfl
theorem ag_72 : aggB Try.prog 72 = some false := by kernel_rfl
theorem sz_72 : sizeB Try.prog 72 = some 1 := by kernel_rfl
theorem ze_72 : zeroB Try.prog 72 = some (.int .i32 0) := by kernel_rfl
theorem sh_72 : shapes Try.prog 12 72 = some [.i .i32] := by kernel_rfl
theorem ui_73 : Try.prog.underlying 73 = some (.int .i32) := by kernel_rfl
theorem ag_73 : aggB Try.prog 73 = some false := by kernel_rfl
theorem sz_73 : sizeB Try.prog 73 = some 1 := by kernel_rfl
theorem ze_73 : zeroB Try.prog 73 = some (.int .i32 0) := by kernel_rfl
theorem sh_73 : shapes Try.prog 12 73 = some [.i .i32] := by kernel_rfl
theorem ag_74 : aggB Try.prog 74 = some true := by kernel_rfl
theorem sz_74 : sizeB Try.prog 74 = some 11 := by kernel_rfl
theorem ze_74 : zeroB Try.prog 74 = some (.agg #[.int .u64 0, .int .u64 0, .int .u32 0, .int .u8 0, .int .u8 0, .int .u8 0, .int .u8 0, .nilFunc, .pointer none, .int .i32 0, .int .i32 0]) := by kernel_rfl
theorem fi_74_0 : fieldB Try.prog 74 0 = some (0, 12) := by kernel_rfl
theorem fi_74_1 : fieldB Try.prog 74 1 = some (1, 12) := by kernel_rfl
theorem fi_74_2 : fieldB Try.prog 74 2 = some (2, 46) := by kernel_rfl
theorem fi_74_3 : fieldB Try.prog 74 3 = some (3, 68) := by kernel_rfl
theorem fi_74_4 : fieldB Try.prog 74 4 = some (4, 5) := by kernel_rfl
theorem fi_74_5 : fieldB Try.prog 74 5 = some (5, 5) := by kernel_rfl
theorem fi_74_6 : fieldB Try.prog 74 6 = some (6, 69) := by kernel_rfl
theorem fi_74_7 : fieldB Try.prog 74 7 = some (7, 70) := by kernel_rfl
theorem fi_74_8 : fieldB Try.prog 74 8 = some (8, 71) := by kernel_rfl
theorem fi_74_9 : fieldB Try.prog 74 9 = some (9, 72) := by kernel_rfl
theorem fi_74_10 : fieldB Try.prog 74 10 = some (10, 73) := by kernel_rfl
theorem ag_75 : aggB Try.prog 75 = some true := by kernel_rfl
theorem sz_75 : sizeB Try.prog 75 = some 11 := by kernel_rfl
theorem ze_75 : zeroB Try.prog 75 = some (.agg #[.int .u64 0, .int .u64 0, .int .u32 0, .int .u8 0, .int .u8 0, .int .u8 0, .int .u8 0, .nilFunc, .pointer none, .int .i32 0, .int .i32 0]) := by kernel_rfl
theorem fi_75_0 : fieldB Try.prog 75 0 = some (0, 12) := by kernel_rfl
theorem fi_75_1 : fieldB Try.prog 75 1 = some (1, 12) := by kernel_rfl
theorem fi_75_2 : fieldB Try.prog 75 2 = some (2, 46) := by kernel_rfl
theorem fi_75_3 : fieldB Try.prog 75 3 = some (3, 68) := by kernel_rfl
theorem fi_75_4 : fieldB Try.prog 75 4 = some (4, 5) := by kernel_rfl
theorem fi_75_5 : fieldB Try.prog 75 5 = some (5, 5) := by kernel_rfl
theorem fi_75_6 : fieldB Try.prog 75 6 = some (6, 69) := by kernel_rfl
theorem fi_75_7 : fieldB Try.prog 75 7 = some (7, 70) := by kernel_rfl
theorem fi_75_8 : fieldB Try.prog 75 8 = some (8, 71) := by kernel_rfl
theorem fi_75_9 : fieldB Try.prog 75 9 = some (9, 72) := by kernel_rfl
theorem fi_75_10 : fieldB Try.prog 75 10 = some (10, 73) := by kernel_rfl
theorem ca_3 : callable Try.prog 3 = true := by kernel_rfl
theorem ca_4 : callable Try.prog 4 = true := by kernel_rfl
theorem ca_5 : callable Try.prog 5 = true := by kernel_rfl
theorem ca_6 : callable Try.prog 6 = true := by kernel_rfl
theorem ca_7 : callable Try.prog 7 = true := by kernel_rfl
theorem ca_8 : callable Try.prog 8 = true := by kernel_rfl
theorem ca_9 : callable Try.prog 9 = true := by kernel_rfl
theorem ca_10 : callable Try.prog 10 = true := by kernel_rfl
theorem ca_11 : callable Try.prog 11 = true := by kernel_rfl
theorem ca_12 : callable Try.prog 12 = true := by kernel_rfl
theorem ca_13 : callable Try.prog 13 = true := by kernel_rfl
theorem ca_14 : callable Try.prog 14 = true := by kernel_rfl
theorem ca_15 : callable Try.prog 15 = true := by kernel_rfl
theorem ca_16 : callable Try.prog 16 = true := by kernel_rfl
theorem ca_17 : callable Try.prog 17 = true := by kernel_rfl
theorem ca_18 : callable Try.prog 18 = true := by kernel_rfl
theorem ca_19 : callable Try.prog 19 = true := by kernel_rfl
theorem ca_20 : callable Try.prog 20 = true := by kernel_rfl
theorem ca_21 : callable Try.prog 21 = true := by kernel_rfl
end Go.Proofs.Ytkfilmdnpocinaa
