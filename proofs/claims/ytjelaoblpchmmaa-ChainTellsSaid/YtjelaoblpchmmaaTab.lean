/-
  Closed facts on the program's types and functions, printed by table() of walk.py.
-/
import Derived.Test.YtjelaoblpchmmaaFwArr
import Derived.Test.YtjelaoblpchmmaaChecked
namespace Go.Proofs.Ytjelaoblpchmmaa
set_option linter.unusedVariables false
theorem follows : Try.prog.follows .mixedOrders = true := by kernel_rfl
theorem ui_2 : Try.prog.underlying 2 = some (.int .i64) := by kernel_rfl
theorem ag_2 : aggB Try.prog 2 = some false := by kernel_rfl
theorem sz_2 : sizeB Try.prog 2 = some 1 := by kernel_rfl
theorem ze_2 : zeroB Try.prog 2 = some (.int .i64 0) := by kernel_rfl
theorem sh_2 : shapes Try.prog 12 2 = some [.i .i64] := by kernel_rfl
theorem ui_3 : Try.prog.underlying 3 = some (.int .i64) := by kernel_rfl
theorem ag_3 : aggB Try.prog 3 = some false := by kernel_rfl
theorem sz_3 : sizeB Try.prog 3 = some 1 := by kernel_rfl
theorem ze_3 : zeroB Try.prog 3 = some (.int .i64 0) := by kernel_rfl
theorem sh_3 : shapes Try.prog 12 3 = some [.i .i64] := by kernel_rfl
theorem ub_4 : Try.prog.underlying 4 = some .bool := by kernel_rfl
theorem ag_4 : aggB Try.prog 4 = some false := by kernel_rfl
theorem sz_4 : sizeB Try.prog 4 = some 1 := by kernel_rfl
theorem ze_4 : zeroB Try.prog 4 = some (.bool false) := by kernel_rfl
theorem ui_5 : Try.prog.underlying 5 = some (.int .u8) := by kernel_rfl
theorem ag_5 : aggB Try.prog 5 = some false := by kernel_rfl
theorem sz_5 : sizeB Try.prog 5 = some 1 := by kernel_rfl
theorem ze_5 : zeroB Try.prog 5 = some (.int .u8 0) := by kernel_rfl
theorem sh_5 : shapes Try.prog 12 5 = some [.i .u8] := by kernel_rfl
theorem ui_6 : Try.prog.underlying 6 = some (.int .u8) := by kernel_rfl
theorem ag_6 : aggB Try.prog 6 = some false := by kernel_rfl
theorem sz_6 : sizeB Try.prog 6 = some 1 := by kernel_rfl
theorem ze_6 : zeroB Try.prog 6 = some (.int .u8 0) := by kernel_rfl
theorem sh_6 : shapes Try.prog 12 6 = some [.i .u8] := by kernel_rfl
theorem ag_7 : aggB Try.prog 7 = some true := by kernel_rfl
theorem sz_7 : sizeB Try.prog 7 = some 4 := by kernel_rfl
theorem ze_7 : zeroB Try.prog 7 = some (.agg #[.int .i64 0, .int .i64 0, .bool false, .int .u8 0]) := by kernel_rfl
theorem sh_7 : shapes Try.prog 12 7 = some [.i .i64, .i .i64, .b, .i .u8] := by kernel_rfl
theorem fi_7_0 : fieldB Try.prog 7 0 = some (0, 2) := by kernel_rfl
theorem fi_7_1 : fieldB Try.prog 7 1 = some (1, 3) := by kernel_rfl
theorem fi_7_2 : fieldB Try.prog 7 2 = some (2, 4) := by kernel_rfl
theorem fi_7_3 : fieldB Try.prog 7 3 = some (3, 6) := by kernel_rfl
theorem ag_8 : aggB Try.prog 8 = some true := by kernel_rfl
theorem sz_8 : sizeB Try.prog 8 = some 4 := by kernel_rfl
theorem ze_8 : zeroB Try.prog 8 = some (.agg #[.int .i64 0, .int .i64 0, .bool false, .int .u8 0]) := by kernel_rfl
theorem sh_8 : shapes Try.prog 12 8 = some [.i .i64, .i .i64, .b, .i .u8] := by kernel_rfl
theorem fi_8_0 : fieldB Try.prog 8 0 = some (0, 2) := by kernel_rfl
theorem fi_8_1 : fieldB Try.prog 8 1 = some (1, 3) := by kernel_rfl
theorem fi_8_2 : fieldB Try.prog 8 2 = some (2, 4) := by kernel_rfl
theorem fi_8_3 : fieldB Try.prog 8 3 = some (3, 6) := by kernel_rfl
theorem ut_9 : Try.prog.underlying 9 = some .string := by kernel_rfl
theorem ut_10 : Try.prog.underlying 10 = some .string := by kernel_rfl
theorem ut_11 : Try.prog.underlying 11 = some .string := by kernel_rfl
theorem ui_12 : Try.prog.underlying 12 = some (.int .u64) := by kernel_rfl
theorem ag_12 : aggB Try.prog 12 = some false := by kernel_rfl
theorem sz_12 : sizeB Try.prog 12 = some 1 := by kernel_rfl
theorem ze_12 : zeroB Try.prog 12 = some (.int .u64 0) := by kernel_rfl
theorem sh_12 : shapes Try.prog 12 12 = some [.i .u64] := by kernel_rfl
theorem ag_13 : aggB Try.prog 13 = some true := by kernel_rfl
theorem sz_13 : sizeB Try.prog 13 = some 2 := by kernel_rfl
theorem ze_13 : zeroB Try.prog 13 = some (.agg #[.string ByteArray.empty, .int .u64 0]) := by kernel_rfl
theorem fi_13_0 : fieldB Try.prog 13 0 = some (0, 9) := by kernel_rfl
theorem fi_13_1 : fieldB Try.prog 13 1 = some (1, 12) := by kernel_rfl
theorem ag_14 : aggB Try.prog 14 = some true := by kernel_rfl
theorem sz_14 : sizeB Try.prog 14 = some 2 := by kernel_rfl
theorem ze_14 : zeroB Try.prog 14 = some (.agg #[.string ByteArray.empty, .int .u64 0]) := by kernel_rfl
theorem fi_14_0 : fieldB Try.prog 14 0 = some (0, 9) := by kernel_rfl
theorem fi_14_1 : fieldB Try.prog 14 1 = some (1, 12) := by kernel_rfl
theorem ag_15 : aggB Try.prog 15 = some false := by kernel_rfl
theorem sz_15 : sizeB Try.prog 15 = some 1 := by kernel_rfl
theorem ze_15 : zeroB Try.prog 15 = some (.pointer none) := by kernel_rfl
theorem up_15 : Try.prog.underlying 15 = some (.pointer (Try.prog.pointee 15)) := by kernel_rfl
theorem ag_16 : aggB Try.prog 16 = some false := by kernel_rfl
theorem sz_16 : sizeB Try.prog 16 = some 1 := by kernel_rfl
theorem ze_16 : zeroB Try.prog 16 = some (.pointer none) := by kernel_rfl
theorem up_16 : Try.prog.underlying 16 = some (.pointer (Try.prog.pointee 16)) := by kernel_rfl
theorem ag_17 : aggB Try.prog 17 = some false := by kernel_rfl
theorem sz_17 : sizeB Try.prog 17 = some 1 := by kernel_rfl
theorem ze_17 : zeroB Try.prog 17 = some (.pointer none) := by kernel_rfl
theorem up_17 : Try.prog.underlying 17 = some (.pointer (Try.prog.pointee 17)) := by kernel_rfl
theorem ag_18 : aggB Try.prog 18 = some true := by kernel_rfl
theorem sz_18 : sizeB Try.prog 18 = some 1 := by kernel_rfl
theorem ze_18 : zeroB Try.prog 18 = some (.agg #[.pointer none]) := by kernel_rfl
theorem fi_18_0 : fieldB Try.prog 18 0 = some (0, 17) := by kernel_rfl
theorem ag_19 : aggB Try.prog 19 = some true := by kernel_rfl
theorem sz_19 : sizeB Try.prog 19 = some 1 := by kernel_rfl
theorem ze_19 : zeroB Try.prog 19 = some (.agg #[.pointer none]) := by kernel_rfl
theorem fi_19_0 : fieldB Try.prog 19 0 = some (0, 17) := by kernel_rfl
theorem ui_21 : Try.prog.underlying 21 = some (.int .i32) := by kernel_rfl
theorem ag_21 : aggB Try.prog 21 = some false := by kernel_rfl
theorem sz_21 : sizeB Try.prog 21 = some 1 := by kernel_rfl
theorem ze_21 : zeroB Try.prog 21 = some (.int .i32 0) := by kernel_rfl
theorem sh_21 : shapes Try.prog 12 21 = some [.i .i32] := by kernel_rfl
theorem ui_22 : Try.prog.underlying 22 = some (.int .u16) := by kernel_rfl
theorem ag_22 : aggB Try.prog 22 = some false := by kernel_rfl
theorem sz_22 : sizeB Try.prog 22 = some 1 := by kernel_rfl
theorem ze_22 : zeroB Try.prog 22 = some (.int .u16 0) := by kernel_rfl
theorem sh_22 : shapes Try.prog 12 22 = some [.i .u16] := by kernel_rfl
theorem ag_23 : aggB Try.prog 23 = some false := by kernel_rfl
theorem sz_23 : sizeB Try.prog 23 = some 1 := by kernel_rfl
theorem ze_23 : zeroB Try.prog 23 = some (.slice none 0 0) := by kernel_rfl
theorem us_23 : Try.prog.underlying 23 = some (.slice 89) := by kernel_rfl
theorem sl_23 : slcB Try.prog 23 = some (89, 3) := by kernel_rfl
theorem ag_24 : aggB Try.prog 24 = some false := by kernel_rfl
theorem sz_24 : sizeB Try.prog 24 = some 1 := by kernel_rfl
theorem ze_24 : zeroB Try.prog 24 = some (.pointer none) := by kernel_rfl
theorem up_24 : Try.prog.underlying 24 = some (.pointer (Try.prog.pointee 24)) := by kernel_rfl
theorem ag_27 : aggB Try.prog 27 = some false := by kernel_rfl
theorem sz_27 : sizeB Try.prog 27 = some 1 := by kernel_rfl
theorem ze_27 : zeroB Try.prog 27 = some (.slice none 0 0) := by kernel_rfl
theorem us_27 : Try.prog.underlying 27 = some (.slice 3) := by kernel_rfl
theorem if_3 : (Try.prog.info? 3).map (fun i => (i.zero, i.size, i.bytes)) = some (some (.int .i64 0), 1, 8) := by kernel_rfl
theorem sl_27 : slcB Try.prog 27 = some (3, 1) := by kernel_rfl
theorem ui_37 : Try.prog.underlying 37 = some (.int .i64) := by kernel_rfl
theorem ag_37 : aggB Try.prog 37 = some false := by kernel_rfl
theorem sz_37 : sizeB Try.prog 37 = some 1 := by kernel_rfl
theorem ze_37 : zeroB Try.prog 37 = some (.int .i64 0) := by kernel_rfl
theorem sh_37 : shapes Try.prog 12 37 = some [.i .i64] := by kernel_rfl
theorem ag_41 : aggB Try.prog 41 = some false := by kernel_rfl
theorem sz_41 : sizeB Try.prog 41 = some 1 := by kernel_rfl
theorem ze_41 : zeroB Try.prog 41 = some (.pointer none) := by kernel_rfl
theorem up_41 : Try.prog.underlying 41 = some (.pointer (Try.prog.pointee 41)) := by kernel_rfl
theorem ag_42 : aggB Try.prog 42 = some true := by kernel_rfl
theorem sz_42 : sizeB Try.prog 42 = some 1 := by kernel_rfl
theorem ze_42 : zeroB Try.prog 42 = some (.agg #[.pointer none]) := by kernel_rfl
theorem fi_42_0 : fieldB Try.prog 42 0 = some (0, 41) := by kernel_rfl
theorem ag_43 : aggB Try.prog 43 = some true := by kernel_rfl
theorem sz_43 : sizeB Try.prog 43 = some 1 := by kernel_rfl
theorem ze_43 : zeroB Try.prog 43 = some (.agg #[.pointer none]) := by kernel_rfl
theorem fi_43_0 : fieldB Try.prog 43 0 = some (0, 41) := by kernel_rfl
theorem ag_44 : aggB Try.prog 44 = some true := by kernel_rfl
theorem sz_44 : sizeB Try.prog 44 = some 3 := by kernel_rfl
theorem ze_44 : zeroB Try.prog 44 = some (.agg #[.pointer none, .slice none 0 0, .int .i64 0]) := by kernel_rfl
theorem fi_44_0 : fieldB Try.prog 44 0 = some (0, 43) := by kernel_rfl
theorem fi_44_1 : fieldB Try.prog 44 1 = some (1, 27) := by kernel_rfl
theorem fi_44_2 : fieldB Try.prog 44 2 = some (2, 3) := by kernel_rfl
theorem ag_45 : aggB Try.prog 45 = some true := by kernel_rfl
theorem sz_45 : sizeB Try.prog 45 = some 3 := by kernel_rfl
theorem ze_45 : zeroB Try.prog 45 = some (.agg #[.pointer none, .slice none 0 0, .int .i64 0]) := by kernel_rfl
theorem fi_45_0 : fieldB Try.prog 45 0 = some (0, 43) := by kernel_rfl
theorem fi_45_1 : fieldB Try.prog 45 1 = some (1, 27) := by kernel_rfl
theorem fi_45_2 : fieldB Try.prog 45 2 = some (2, 3) := by kernel_rfl
theorem ag_46 : aggB Try.prog 46 = some false := by kernel_rfl
theorem sz_46 : sizeB Try.prog 46 = some 1 := by kernel_rfl
theorem ze_46 : zeroB Try.prog 46 = some (.slice none 0 0) := by kernel_rfl
theorem us_46 : Try.prog.underlying 46 = some (.slice 24) := by kernel_rfl
theorem sl_46 : slcB Try.prog 46 = some (24, 1) := by kernel_rfl
theorem ag_51 : aggB Try.prog 51 = some false := by kernel_rfl
theorem sz_51 : sizeB Try.prog 51 = some 1 := by kernel_rfl
theorem ze_51 : zeroB Try.prog 51 = some (.slice none 0 0) := by kernel_rfl
theorem us_51 : Try.prog.underlying 51 = some (.slice 56) := by kernel_rfl
theorem sl_51 : slcB Try.prog 51 = some (56, 3) := by kernel_rfl
theorem ag_53 : aggB Try.prog 53 = some true := by kernel_rfl
theorem sz_53 : sizeB Try.prog 53 = some 4 := by kernel_rfl
theorem ze_53 : zeroB Try.prog 53 = some (.agg #[.slice none 0 0, .slice none 0 0, .slice none 0 0, .slice none 0 0]) := by kernel_rfl
theorem ar_53 : arrB Try.prog 53 = some (4, 27, 1) := by kernel_rfl
theorem ag_55 : aggB Try.prog 55 = some true := by kernel_rfl
theorem sz_55 : sizeB Try.prog 55 = some 3 := by kernel_rfl
theorem ze_55 : zeroB Try.prog 55 = some (.agg #[.int .u8 0, .int .i64 0, .int .i64 0]) := by kernel_rfl
theorem sh_55 : shapes Try.prog 12 55 = some [.i .u8, .i .i64, .i .i64] := by kernel_rfl
theorem fi_55_0 : fieldB Try.prog 55 0 = some (0, 5) := by kernel_rfl
theorem fi_55_1 : fieldB Try.prog 55 1 = some (1, 3) := by kernel_rfl
theorem fi_55_2 : fieldB Try.prog 55 2 = some (2, 3) := by kernel_rfl
theorem ag_56 : aggB Try.prog 56 = some true := by kernel_rfl
theorem sz_56 : sizeB Try.prog 56 = some 3 := by kernel_rfl
theorem ze_56 : zeroB Try.prog 56 = some (.agg #[.int .u8 0, .int .i64 0, .int .i64 0]) := by kernel_rfl
theorem sh_56 : shapes Try.prog 12 56 = some [.i .u8, .i .i64, .i .i64] := by kernel_rfl
theorem fi_56_0 : fieldB Try.prog 56 0 = some (0, 5) := by kernel_rfl
theorem fi_56_1 : fieldB Try.prog 56 1 = some (1, 3) := by kernel_rfl
theorem fi_56_2 : fieldB Try.prog 56 2 = some (2, 3) := by kernel_rfl
theorem ag_61 : aggB Try.prog 61 = some false := by kernel_rfl
theorem sz_61 : sizeB Try.prog 61 = some 1 := by kernel_rfl
theorem ze_61 : zeroB Try.prog 61 = some (.slice none 0 0) := by kernel_rfl
theorem us_61 : Try.prog.underlying 61 = some (.slice 27) := by kernel_rfl
theorem sl_61 : slcB Try.prog 61 = some (27, 1) := by kernel_rfl
theorem ag_62 : aggB Try.prog 62 = some true := by kernel_rfl
theorem sz_62 : sizeB Try.prog 62 = some 2 := by kernel_rfl
theorem ze_62 : zeroB Try.prog 62 = some (.agg #[.int .i64 0, .slice none 0 0]) := by kernel_rfl
theorem fi_62_0 : fieldB Try.prog 62 0 = some (0, 3) := by kernel_rfl
theorem fi_62_1 : fieldB Try.prog 62 1 = some (1, 61) := by kernel_rfl
theorem ag_63 : aggB Try.prog 63 = some true := by kernel_rfl
theorem sz_63 : sizeB Try.prog 63 = some 2 := by kernel_rfl
theorem ze_63 : zeroB Try.prog 63 = some (.agg #[.int .i64 0, .slice none 0 0]) := by kernel_rfl
theorem fi_63_0 : fieldB Try.prog 63 0 = some (0, 3) := by kernel_rfl
theorem fi_63_1 : fieldB Try.prog 63 1 = some (1, 61) := by kernel_rfl
theorem ag_72 : aggB Try.prog 72 = some false := by kernel_rfl
theorem sz_72 : sizeB Try.prog 72 = some 1 := by kernel_rfl
theorem ze_72 : zeroB Try.prog 72 = some (.slice none 0 0) := by kernel_rfl
theorem us_72 : Try.prog.underlying 72 = some (.slice 5) := by kernel_rfl
theorem if_5 : (Try.prog.info? 5).map (fun i => (i.zero, i.size, i.bytes)) = some (some (.int .u8 0), 1, 1) := by kernel_rfl
theorem sl_72 : slcB Try.prog 72 = some (5, 1) := by kernel_rfl
theorem ag_74 : aggB Try.prog 74 = some true := by kernel_rfl
theorem sz_74 : sizeB Try.prog 74 = some 20 := by kernel_rfl
theorem ze_74 : zeroB Try.prog 74 = some (.agg #[.int .i64 0, .int .i64 0, .int .i64 0, .int .i64 0, .int .i64 0, .int .i64 0, .int .i64 0, .int .i64 0, .int .i64 0, .int .i64 0, .int .i64 0, .int .i64 0, .int .i64 0, .int .i64 0, .int .i64 0, .int .i64 0, .int .i64 0, .int .i64 0, .int .i64 0, .int .i64 0]) := by kernel_rfl
theorem sh_74 : shapes Try.prog 12 74 = some [.i .i64, .i .i64, .i .i64, .i .i64, .i .i64, .i .i64, .i .i64, .i .i64, .i .i64, .i .i64, .i .i64, .i .i64, .i .i64, .i .i64, .i .i64, .i .i64, .i .i64, .i .i64, .i .i64, .i .i64] := by kernel_rfl
theorem ar_74 : arrB Try.prog 74 = some (20, 3, 1) := by kernel_rfl
theorem ag_77 : aggB Try.prog 77 = some false := by kernel_rfl
theorem sz_77 : sizeB Try.prog 77 = some 1 := by kernel_rfl
theorem ze_77 : zeroB Try.prog 77 = some (.slice none 0 0) := by kernel_rfl
theorem us_77 : Try.prog.underlying 77 = some (.slice 103) := by kernel_rfl
theorem sl_77 : slcB Try.prog 77 = some (103, 2) := by kernel_rfl
theorem ag_78 : aggB Try.prog 78 = some true := by kernel_rfl
theorem sz_78 : sizeB Try.prog 78 = some 3 := by kernel_rfl
theorem ze_78 : zeroB Try.prog 78 = some (.agg #[.slice none 0 0, .slice none 0 0, .slice none 0 0]) := by kernel_rfl
theorem fi_78_0 : fieldB Try.prog 78 0 = some (0, 77) := by kernel_rfl
theorem fi_78_1 : fieldB Try.prog 78 1 = some (1, 27) := by kernel_rfl
theorem fi_78_2 : fieldB Try.prog 78 2 = some (2, 27) := by kernel_rfl
theorem ag_79 : aggB Try.prog 79 = some true := by kernel_rfl
theorem sz_79 : sizeB Try.prog 79 = some 3 := by kernel_rfl
theorem ze_79 : zeroB Try.prog 79 = some (.agg #[.slice none 0 0, .slice none 0 0, .slice none 0 0]) := by kernel_rfl
theorem fi_79_0 : fieldB Try.prog 79 0 = some (0, 77) := by kernel_rfl
theorem fi_79_1 : fieldB Try.prog 79 1 = some (1, 27) := by kernel_rfl
theorem fi_79_2 : fieldB Try.prog 79 2 = some (2, 27) := by kernel_rfl
theorem ag_80 : aggB Try.prog 80 = some false := by kernel_rfl
theorem sz_80 : sizeB Try.prog 80 = some 1 := by kernel_rfl
theorem ze_80 : zeroB Try.prog 80 = some (.slice none 0 0) := by kernel_rfl
theorem us_80 : Try.prog.underlying 80 = some (.slice 41) := by kernel_rfl
theorem sl_80 : slcB Try.prog 80 = some (41, 1) := by kernel_rfl
theorem ag_81 : aggB Try.prog 81 = some false := by kernel_rfl
theorem sz_81 : sizeB Try.prog 81 = some 1 := by kernel_rfl
theorem ze_81 : zeroB Try.prog 81 = some (.slice none 0 0) := by kernel_rfl
theorem us_81 : Try.prog.underlying 81 = some (.slice 22) := by kernel_rfl
theorem if_22 : (Try.prog.info? 22).map (fun i => (i.zero, i.size, i.bytes)) = some (some (.int .u16 0), 1, 2) := by kernel_rfl
theorem sl_81 : slcB Try.prog 81 = some (22, 1) := by kernel_rfl
theorem ag_83 : aggB Try.prog 83 = some false := by kernel_rfl
theorem sz_83 : sizeB Try.prog 83 = some 1 := by kernel_rfl
theorem ze_83 : zeroB Try.prog 83 = some (.slice none 0 0) := by kernel_rfl
theorem us_83 : Try.prog.underlying 83 = some (.slice 108) := by kernel_rfl
theorem sl_83 : slcB Try.prog 83 = some (108, 2) := by kernel_rfl
theorem ag_84 : aggB Try.prog 84 = some true := by kernel_rfl
theorem sz_84 : sizeB Try.prog 84 = some 4 := by kernel_rfl
theorem ze_84 : zeroB Try.prog 84 = some (.agg #[.int .i64 0, .int .i64 0, .slice none 0 0, .slice none 0 0]) := by kernel_rfl
theorem fi_84_0 : fieldB Try.prog 84 0 = some (0, 3) := by kernel_rfl
theorem fi_84_1 : fieldB Try.prog 84 1 = some (1, 3) := by kernel_rfl
theorem fi_84_2 : fieldB Try.prog 84 2 = some (2, 83) := by kernel_rfl
theorem fi_84_3 : fieldB Try.prog 84 3 = some (3, 83) := by kernel_rfl
theorem ag_85 : aggB Try.prog 85 = some true := by kernel_rfl
theorem sz_85 : sizeB Try.prog 85 = some 4 := by kernel_rfl
theorem ze_85 : zeroB Try.prog 85 = some (.agg #[.int .i64 0, .int .i64 0, .slice none 0 0, .slice none 0 0]) := by kernel_rfl
theorem fi_85_0 : fieldB Try.prog 85 0 = some (0, 3) := by kernel_rfl
theorem fi_85_1 : fieldB Try.prog 85 1 = some (1, 3) := by kernel_rfl
theorem fi_85_2 : fieldB Try.prog 85 2 = some (2, 83) := by kernel_rfl
theorem fi_85_3 : fieldB Try.prog 85 3 = some (3, 83) := by kernel_rfl
theorem ag_88 : aggB Try.prog 88 = some true := by kernel_rfl
theorem sz_88 : sizeB Try.prog 88 = some 3 := by kernel_rfl
theorem ze_88 : zeroB Try.prog 88 = some (.agg #[.int .u8 0, .int .i64 0, .int .i64 0]) := by kernel_rfl
theorem sh_88 : shapes Try.prog 12 88 = some [.i .u8, .i .i64, .i .i64] := by kernel_rfl
theorem fi_88_0 : fieldB Try.prog 88 0 = some (0, 5) := by kernel_rfl
theorem fi_88_1 : fieldB Try.prog 88 1 = some (1, 3) := by kernel_rfl
theorem fi_88_2 : fieldB Try.prog 88 2 = some (2, 3) := by kernel_rfl
theorem ag_89 : aggB Try.prog 89 = some true := by kernel_rfl
theorem sz_89 : sizeB Try.prog 89 = some 3 := by kernel_rfl
theorem ze_89 : zeroB Try.prog 89 = some (.agg #[.int .u8 0, .int .i64 0, .int .i64 0]) := by kernel_rfl
theorem sh_89 : shapes Try.prog 12 89 = some [.i .u8, .i .i64, .i .i64] := by kernel_rfl
theorem fi_89_0 : fieldB Try.prog 89 0 = some (0, 5) := by kernel_rfl
theorem fi_89_1 : fieldB Try.prog 89 1 = some (1, 3) := by kernel_rfl
theorem fi_89_2 : fieldB Try.prog 89 2 = some (2, 3) := by kernel_rfl
theorem ag_99 : aggB Try.prog 99 = some true := by kernel_rfl
theorem sz_99 : sizeB Try.prog 99 = some 8 := by kernel_rfl
theorem ze_99 : zeroB Try.prog 99 = some (.agg #[.int .i64 0, .int .i64 0, .int .i64 0, .int .i64 0, .int .i64 0, .int .i64 0, .int .i64 0, .int .i64 0]) := by kernel_rfl
theorem sh_99 : shapes Try.prog 12 99 = some [.i .i64, .i .i64, .i .i64, .i .i64, .i .i64, .i .i64, .i .i64, .i .i64] := by kernel_rfl
theorem ar_99 : arrB Try.prog 99 = some (8, 3, 1) := by kernel_rfl
theorem ag_103 : aggB Try.prog 103 = some true := by kernel_rfl
theorem sz_103 : sizeB Try.prog 103 = some 2 := by kernel_rfl
theorem ze_103 : zeroB Try.prog 103 = some (.agg #[.int .i64 0, .int .i64 0]) := by kernel_rfl
theorem sh_103 : shapes Try.prog 12 103 = some [.i .i64, .i .i64] := by kernel_rfl
theorem ar_103 : arrB Try.prog 103 = some (2, 3, 1) := by kernel_rfl
theorem ag_107 : aggB Try.prog 107 = some true := by kernel_rfl
theorem sz_107 : sizeB Try.prog 107 = some 2 := by kernel_rfl
theorem ze_107 : zeroB Try.prog 107 = some (.agg #[.int .i64 0, .int .i64 0]) := by kernel_rfl
theorem sh_107 : shapes Try.prog 12 107 = some [.i .i64, .i .i64] := by kernel_rfl
theorem fi_107_0 : fieldB Try.prog 107 0 = some (0, 3) := by kernel_rfl
theorem fi_107_1 : fieldB Try.prog 107 1 = some (1, 3) := by kernel_rfl
theorem ag_108 : aggB Try.prog 108 = some true := by kernel_rfl
theorem sz_108 : sizeB Try.prog 108 = some 2 := by kernel_rfl
theorem ze_108 : zeroB Try.prog 108 = some (.agg #[.int .i64 0, .int .i64 0]) := by kernel_rfl
theorem sh_108 : shapes Try.prog 12 108 = some [.i .i64, .i .i64] := by kernel_rfl
theorem fi_108_0 : fieldB Try.prog 108 0 = some (0, 3) := by kernel_rfl
theorem fi_108_1 : fieldB Try.prog 108 1 = some (1, 3) := by kernel_rfl
theorem ag_112 : aggB Try.prog 112 = some true := by kernel_rfl
theorem sz_112 : sizeB Try.prog 112 = some 4 := by kernel_rfl
theorem ze_112 : zeroB Try.prog 112 = some (.agg #[.pointer none, .pointer none, .pointer none, .string ByteArray.empty]) := by kernel_rfl
theorem fi_112_0 : fieldB Try.prog 112 0 = some (0, 17) := by kernel_rfl
theorem fi_112_1 : fieldB Try.prog 112 1 = some (1, 17) := by kernel_rfl
theorem fi_112_2 : fieldB Try.prog 112 2 = some (2, 17) := by kernel_rfl
theorem fi_112_3 : fieldB Try.prog 112 3 = some (3, 9) := by kernel_rfl
theorem ag_113 : aggB Try.prog 113 = some true := by kernel_rfl
theorem sz_113 : sizeB Try.prog 113 = some 4 := by kernel_rfl
theorem ze_113 : zeroB Try.prog 113 = some (.agg #[.pointer none, .pointer none, .pointer none, .string ByteArray.empty]) := by kernel_rfl
theorem fi_113_0 : fieldB Try.prog 113 0 = some (0, 17) := by kernel_rfl
theorem fi_113_1 : fieldB Try.prog 113 1 = some (1, 17) := by kernel_rfl
theorem fi_113_2 : fieldB Try.prog 113 2 = some (2, 17) := by kernel_rfl
theorem fi_113_3 : fieldB Try.prog 113 3 = some (3, 9) := by kernel_rfl
theorem ui_118 : Try.prog.underlying 118 = some (.int .u32) := by kernel_rfl
theorem ag_118 : aggB Try.prog 118 = some false := by kernel_rfl
theorem sz_118 : sizeB Try.prog 118 = some 1 := by kernel_rfl
theorem ze_118 : zeroB Try.prog 118 = some (.int .u32 0) := by kernel_rfl
theorem sh_118 : shapes Try.prog 12 118 = some [.i .u32] := by kernel_rfl
theorem ui_119 : Try.prog.underlying 119 = some (.int .u8) := by kernel_rfl
theorem ag_119 : aggB Try.prog 119 = some false := by kernel_rfl
theorem sz_119 : sizeB Try.prog 119 = some 1 := by kernel_rfl
theorem ze_119 : zeroB Try.prog 119 = some (.int .u8 0) := by kernel_rfl
theorem sh_119 : shapes Try.prog 12 119 = some [.i .u8] := by kernel_rfl
theorem ui_120 : Try.prog.underlying 120 = some (.int .u8) := by kernel_rfl
theorem ag_120 : aggB Try.prog 120 = some false := by kernel_rfl
theorem sz_120 : sizeB Try.prog 120 = some 1 := by kernel_rfl
theorem ze_120 : zeroB Try.prog 120 = some (.int .u8 0) := by kernel_rfl
theorem sh_120 : shapes Try.prog 12 120 = some [.i .u8] := by kernel_rfl
theorem ag_122 : aggB Try.prog 122 = some false := by kernel_rfl
theorem sz_122 : sizeB Try.prog 122 = some 1 := by kernel_rfl
theorem ze_122 : zeroB Try.prog 122 = some (.pointer none) := by kernel_rfl
theorem up_122 : Try.prog.underlying 122 = some (.pointer (Try.prog.pointee 122)) := by kernel_rfl
theorem ui_123 : Try.prog.underlying 123 = some (.int .i32) := by kernel_rfl
theorem ag_123 : aggB Try.prog 123 = some false := by kernel_rfl
theorem sz_123 : sizeB Try.prog 123 = some 1 := by kernel_rfl
theorem ze_123 : zeroB Try.prog 123 = some (.int .i32 0) := by kernel_rfl
theorem sh_123 : shapes Try.prog 12 123 = some [.i .i32] := by kernel_rfl
theorem ui_124 : Try.prog.underlying 124 = some (.int .i32) := by kernel_rfl
theorem ag_124 : aggB Try.prog 124 = some false := by kernel_rfl
theorem sz_124 : sizeB Try.prog 124 = some 1 := by kernel_rfl
theorem ze_124 : zeroB Try.prog 124 = some (.int .i32 0) := by kernel_rfl
theorem sh_124 : shapes Try.prog 12 124 = some [.i .i32] := by kernel_rfl
theorem ag_125 : aggB Try.prog 125 = some true := by kernel_rfl
theorem sz_125 : sizeB Try.prog 125 = some 11 := by kernel_rfl
theorem ze_125 : zeroB Try.prog 125 = some (.agg #[.int .u64 0, .int .u64 0, .int .u32 0, .int .u8 0, .int .u8 0, .int .u8 0, .int .u8 0, .nilFunc, .pointer none, .int .i32 0, .int .i32 0]) := by kernel_rfl
theorem fi_125_0 : fieldB Try.prog 125 0 = some (0, 12) := by kernel_rfl
theorem fi_125_1 : fieldB Try.prog 125 1 = some (1, 12) := by kernel_rfl
theorem fi_125_2 : fieldB Try.prog 125 2 = some (2, 118) := by kernel_rfl
theorem fi_125_3 : fieldB Try.prog 125 3 = some (3, 119) := by kernel_rfl
theorem fi_125_4 : fieldB Try.prog 125 4 = some (4, 5) := by kernel_rfl
theorem fi_125_5 : fieldB Try.prog 125 5 = some (5, 5) := by kernel_rfl
theorem fi_125_6 : fieldB Try.prog 125 6 = some (6, 120) := by kernel_rfl
theorem fi_125_7 : fieldB Try.prog 125 7 = some (7, 121) := by kernel_rfl
theorem fi_125_8 : fieldB Try.prog 125 8 = some (8, 122) := by kernel_rfl
theorem fi_125_9 : fieldB Try.prog 125 9 = some (9, 123) := by kernel_rfl
theorem fi_125_10 : fieldB Try.prog 125 10 = some (10, 124) := by kernel_rfl
theorem ag_126 : aggB Try.prog 126 = some true := by kernel_rfl
theorem sz_126 : sizeB Try.prog 126 = some 11 := by kernel_rfl
theorem ze_126 : zeroB Try.prog 126 = some (.agg #[.int .u64 0, .int .u64 0, .int .u32 0, .int .u8 0, .int .u8 0, .int .u8 0, .int .u8 0, .nilFunc, .pointer none, .int .i32 0, .int .i32 0]) := by kernel_rfl
theorem fi_126_0 : fieldB Try.prog 126 0 = some (0, 12) := by kernel_rfl
theorem fi_126_1 : fieldB Try.prog 126 1 = some (1, 12) := by kernel_rfl
theorem fi_126_2 : fieldB Try.prog 126 2 = some (2, 118) := by kernel_rfl
theorem fi_126_3 : fieldB Try.prog 126 3 = some (3, 119) := by kernel_rfl
theorem fi_126_4 : fieldB Try.prog 126 4 = some (4, 5) := by kernel_rfl
theorem fi_126_5 : fieldB Try.prog 126 5 = some (5, 5) := by kernel_rfl
theorem fi_126_6 : fieldB Try.prog 126 6 = some (6, 120) := by kernel_rfl
theorem fi_126_7 : fieldB Try.prog 126 7 = some (7, 121) := by kernel_rfl
theorem fi_126_8 : fieldB Try.prog 126 8 = some (8, 122) := by kernel_rfl
theorem fi_126_9 : fieldB Try.prog 126 9 = some (9, 123) := by kernel_rfl
theorem fi_126_10 : fieldB Try.prog 126 10 = some (10, 124) := by kernel_rfl
theorem ca_3 : callable Try.prog 3 = true := by kernel_rfl
theorem ca_4 : callable Try.prog 4 = true := by kernel_rfl
theorem ca_5 : callable Try.prog 5 = true := by kernel_rfl
theorem ca_6 : callable Try.prog 6 = true := by kernel_rfl
theorem ca_7 : callable Try.prog 7 = true := by kernel_rfl
theorem ca_8 : callable Try.prog 8 = true := by kernel_rfl
theorem ca_9 : callable Try.prog 9 = true := by kernel_rfl
theorem ca_10 : callable Try.prog 10 = true := by kernel_rfl
theorem ca_11 : callable Try.prog 11 = true := by kernel_rfl
theorem ca_12 : callable Try.prog 12 = true := by kernel_rfl
theorem ca_13 : callable Try.prog 13 = true := by kernel_rfl
theorem ca_14 : callable Try.prog 14 = true := by kernel_rfl
theorem ca_15 : callable Try.prog 15 = true := by kernel_rfl
theorem ca_16 : callable Try.prog 16 = true := by kernel_rfl
theorem ca_17 : callable Try.prog 17 = true := by kernel_rfl
theorem ca_18 : callable Try.prog 18 = true := by kernel_rfl
theorem ca_19 : callable Try.prog 19 = true := by kernel_rfl
theorem ca_20 : callable Try.prog 20 = true := by kernel_rfl
theorem ca_21 : callable Try.prog 21 = true := by kernel_rfl
theorem ca_22 : callable Try.prog 22 = true := by kernel_rfl
theorem ca_23 : callable Try.prog 23 = true := by kernel_rfl
theorem ca_24 : callable Try.prog 24 = true := by kernel_rfl
theorem ca_25 : callable Try.prog 25 = true := by kernel_rfl
theorem ca_26 : callable Try.prog 26 = true := by kernel_rfl
theorem ca_27 : callable Try.prog 27 = true := by kernel_rfl
theorem ca_28 : callable Try.prog 28 = true := by kernel_rfl
theorem ca_29 : callable Try.prog 29 = true := by kernel_rfl
theorem ca_30 : callable Try.prog 30 = true := by kernel_rfl
theorem ca_31 : callable Try.prog 31 = true := by kernel_rfl
theorem ca_32 : callable Try.prog 32 = true := by kernel_rfl
theorem ca_33 : callable Try.prog 33 = true := by kernel_rfl
theorem ca_34 : callable Try.prog 34 = true := by kernel_rfl
theorem ca_35 : callable Try.prog 35 = true := by kernel_rfl
theorem ca_36 : callable Try.prog 36 = true := by kernel_rfl
theorem ca_37 : callable Try.prog 37 = true := by kernel_rfl
theorem ca_38 : callable Try.prog 38 = true := by kernel_rfl
theorem ca_39 : callable Try.prog 39 = true := by kernel_rfl
theorem ca_40 : callable Try.prog 40 = true := by kernel_rfl
theorem ca_41 : callable Try.prog 41 = true := by kernel_rfl
theorem ca_42 : callable Try.prog 42 = true := by kernel_rfl
theorem ca_43 : callable Try.prog 43 = true := by kernel_rfl
theorem ca_44 : callable Try.prog 44 = true := by kernel_rfl
theorem ca_45 : callable Try.prog 45 = true := by kernel_rfl
theorem ca_46 : callable Try.prog 46 = true := by kernel_rfl
theorem ca_47 : callable Try.prog 47 = true := by kernel_rfl
theorem ca_48 : callable Try.prog 48 = true := by kernel_rfl
theorem ca_49 : callable Try.prog 49 = true := by kernel_rfl
theorem ca_50 : callable Try.prog 50 = true := by kernel_rfl
theorem ca_51 : callable Try.prog 51 = true := by kernel_rfl
theorem ca_52 : callable Try.prog 52 = true := by kernel_rfl
theorem ca_53 : callable Try.prog 53 = true := by kernel_rfl
theorem ca_54 : callable Try.prog 54 = true := by kernel_rfl
theorem ca_55 : callable Try.prog 55 = true := by kernel_rfl
theorem ca_56 : callable Try.prog 56 = true := by kernel_rfl
theorem ca_57 : callable Try.prog 57 = true := by kernel_rfl
theorem ca_58 : callable Try.prog 58 = true := by kernel_rfl
theorem ca_59 : callable Try.prog 59 = true := by kernel_rfl
theorem ca_60 : callable Try.prog 60 = true := by kernel_rfl
theorem ca_61 : callable Try.prog 61 = true := by kernel_rfl
theorem ca_62 : callable Try.prog 62 = true := by kernel_rfl
theorem ca_63 : callable Try.prog 63 = true := by kernel_rfl
theorem if2_103 : (Try.prog.info? 103).map (fun i => (i.zero, i.size, i.bytes)) = some (some (.agg #[.int .i64 0, .int .i64 0]), 2, 16) := by kernel_rfl
theorem ag_1 : aggB Try.prog 1 = some false := by kernel_rfl
theorem sz_1 : sizeB Try.prog 1 = some 1 := by kernel_rfl
theorem ag_26 : aggB Try.prog 26 = some false := by kernel_rfl
theorem sz_26 : sizeB Try.prog 26 = some 1 := by kernel_rfl
theorem ag_29 : aggB Try.prog 29 = some false := by kernel_rfl
theorem sz_29 : sizeB Try.prog 29 = some 1 := by kernel_rfl
theorem ag_31 : aggB Try.prog 31 = some false := by kernel_rfl
theorem sz_31 : sizeB Try.prog 31 = some 1 := by kernel_rfl
theorem ag_33 : aggB Try.prog 33 = some false := by kernel_rfl
theorem sz_33 : sizeB Try.prog 33 = some 1 := by kernel_rfl
theorem ag_34 : aggB Try.prog 34 = some false := by kernel_rfl
theorem sz_34 : sizeB Try.prog 34 = some 1 := by kernel_rfl
theorem ag_36 : aggB Try.prog 36 = some false := by kernel_rfl
theorem sz_36 : sizeB Try.prog 36 = some 1 := by kernel_rfl
theorem ag_38 : aggB Try.prog 38 = some false := by kernel_rfl
theorem sz_38 : sizeB Try.prog 38 = some 1 := by kernel_rfl
theorem ag_39 : aggB Try.prog 39 = some false := by kernel_rfl
theorem sz_39 : sizeB Try.prog 39 = some 1 := by kernel_rfl
theorem ag_40 : aggB Try.prog 40 = some false := by kernel_rfl
theorem sz_40 : sizeB Try.prog 40 = some 1 := by kernel_rfl
theorem ag_47 : aggB Try.prog 47 = some false := by kernel_rfl
theorem sz_47 : sizeB Try.prog 47 = some 1 := by kernel_rfl
theorem ag_49 : aggB Try.prog 49 = some false := by kernel_rfl
theorem sz_49 : sizeB Try.prog 49 = some 1 := by kernel_rfl
theorem ag_50 : aggB Try.prog 50 = some false := by kernel_rfl
theorem sz_50 : sizeB Try.prog 50 = some 1 := by kernel_rfl
theorem ag_52 : aggB Try.prog 52 = some false := by kernel_rfl
theorem sz_52 : sizeB Try.prog 52 = some 1 := by kernel_rfl
theorem ag_54 : aggB Try.prog 54 = some false := by kernel_rfl
theorem sz_54 : sizeB Try.prog 54 = some 1 := by kernel_rfl
theorem ag_57 : aggB Try.prog 57 = some false := by kernel_rfl
theorem sz_57 : sizeB Try.prog 57 = some 1 := by kernel_rfl
theorem ag_58 : aggB Try.prog 58 = some false := by kernel_rfl
theorem sz_58 : sizeB Try.prog 58 = some 1 := by kernel_rfl
theorem ag_60 : aggB Try.prog 60 = some false := by kernel_rfl
theorem sz_60 : sizeB Try.prog 60 = some 1 := by kernel_rfl
theorem ag_65 : aggB Try.prog 65 = some false := by kernel_rfl
theorem sz_65 : sizeB Try.prog 65 = some 1 := by kernel_rfl
theorem ag_67 : aggB Try.prog 67 = some false := by kernel_rfl
theorem sz_67 : sizeB Try.prog 67 = some 1 := by kernel_rfl
theorem ag_69 : aggB Try.prog 69 = some false := by kernel_rfl
theorem sz_69 : sizeB Try.prog 69 = some 1 := by kernel_rfl
theorem ag_70 : aggB Try.prog 70 = some false := by kernel_rfl
theorem sz_70 : sizeB Try.prog 70 = some 1 := by kernel_rfl
theorem ag_71 : aggB Try.prog 71 = some false := by kernel_rfl
theorem sz_71 : sizeB Try.prog 71 = some 1 := by kernel_rfl
theorem ag_73 : aggB Try.prog 73 = some false := by kernel_rfl
theorem sz_73 : sizeB Try.prog 73 = some 1 := by kernel_rfl
theorem ag_75 : aggB Try.prog 75 = some false := by kernel_rfl
theorem sz_75 : sizeB Try.prog 75 = some 1 := by kernel_rfl
theorem ag_76 : aggB Try.prog 76 = some false := by kernel_rfl
theorem sz_76 : sizeB Try.prog 76 = some 1 := by kernel_rfl
theorem ag_82 : aggB Try.prog 82 = some false := by kernel_rfl
theorem sz_82 : sizeB Try.prog 82 = some 1 := by kernel_rfl
theorem ag_87 : aggB Try.prog 87 = some false := by kernel_rfl
theorem sz_87 : sizeB Try.prog 87 = some 1 := by kernel_rfl
theorem ag_91 : aggB Try.prog 91 = some false := by kernel_rfl
theorem sz_91 : sizeB Try.prog 91 = some 1 := by kernel_rfl
theorem ag_93 : aggB Try.prog 93 = some false := by kernel_rfl
theorem sz_93 : sizeB Try.prog 93 = some 1 := by kernel_rfl
theorem ag_94 : aggB Try.prog 94 = some false := by kernel_rfl
theorem sz_94 : sizeB Try.prog 94 = some 1 := by kernel_rfl
theorem ag_96 : aggB Try.prog 96 = some false := by kernel_rfl
theorem sz_96 : sizeB Try.prog 96 = some 1 := by kernel_rfl
theorem ag_97 : aggB Try.prog 97 = some false := by kernel_rfl
theorem sz_97 : sizeB Try.prog 97 = some 1 := by kernel_rfl
theorem ag_98 : aggB Try.prog 98 = some false := by kernel_rfl
theorem sz_98 : sizeB Try.prog 98 = some 1 := by kernel_rfl
theorem ag_100 : aggB Try.prog 100 = some false := by kernel_rfl
theorem sz_100 : sizeB Try.prog 100 = some 1 := by kernel_rfl
theorem ag_101 : aggB Try.prog 101 = some false := by kernel_rfl
theorem sz_101 : sizeB Try.prog 101 = some 1 := by kernel_rfl
theorem ag_102 : aggB Try.prog 102 = some false := by kernel_rfl
theorem sz_102 : sizeB Try.prog 102 = some 1 := by kernel_rfl
theorem ag_104 : aggB Try.prog 104 = some false := by kernel_rfl
theorem sz_104 : sizeB Try.prog 104 = some 1 := by kernel_rfl
theorem ag_105 : aggB Try.prog 105 = some false := by kernel_rfl
theorem sz_105 : sizeB Try.prog 105 = some 1 := by kernel_rfl
theorem ag_106 : aggB Try.prog 106 = some false := by kernel_rfl
theorem sz_106 : sizeB Try.prog 106 = some 1 := by kernel_rfl
theorem ag_110 : aggB Try.prog 110 = some false := by kernel_rfl
theorem sz_110 : sizeB Try.prog 110 = some 1 := by kernel_rfl
theorem ag_111 : aggB Try.prog 111 = some false := by kernel_rfl
theorem sz_111 : sizeB Try.prog 111 = some 1 := by kernel_rfl
theorem ag_117 : aggB Try.prog 117 = some false := by kernel_rfl
theorem sz_117 : sizeB Try.prog 117 = some 1 := by kernel_rfl
theorem ag_121 : aggB Try.prog 121 = some false := by kernel_rfl
theorem sz_121 : sizeB Try.prog 121 = some 1 := by kernel_rfl
end Go.Proofs.Ytjelaoblpchmmaa
