/-
  Closed facts on the program's types and functions, printed by table() of walk.py.
-/
import Derived.Test.YtohkdjaobdgenaaFwArr
import Derived.Test.YtohkdjaobdgenaaChecked
namespace Go.Proofs.Ytohkdjaobdgenaa
set_option linter.unusedVariables false
theorem follows : Try.prog.follows .mixedOrders = true := by kernel_rfl
theorem ui_2 : Try.prog.underlying 2 = some (.int .i64) := by kernel_rfl
theorem ag_2 : aggB Try.prog 2 = some false := by kernel_rfl
theorem sz_2 : sizeB Try.prog 2 = some 1 := by kernel_rfl
theorem ze_2 : zeroB Try.prog 2 = some (.int .i64 0) := by kernel_rfl
theorem sh_2 : shapes Try.prog 12 2 = some [.i .i64] := by kernel_rfl
theorem ui_3 : Try.prog.underlying 3 = some (.int .i64) := by kernel_rfl
theorem ag_3 : aggB Try.prog 3 = some false := by kernel_rfl
theorem sz_3 : sizeB Try.prog 3 = some 1 := by kernel_rfl
theorem ze_3 : zeroB Try.prog 3 = some (.int .i64 0) := by kernel_rfl
theorem sh_3 : shapes Try.prog 12 3 = some [.i .i64] := by kernel_rfl
theorem ub_4 : Try.prog.underlying 4 = some .bool := by kernel_rfl
theorem ag_4 : aggB Try.prog 4 = some false := by kernel_rfl
theorem sz_4 : sizeB Try.prog 4 = some 1 := by kernel_rfl
theorem ze_4 : zeroB Try.prog 4 = some (.bool false) := by kernel_rfl
theorem ui_5 : Try.prog.underlying 5 = some (.int .u8) := by kernel_rfl
theorem ag_5 : aggB Try.prog 5 = some false := by kernel_rfl
theorem sz_5 : sizeB Try.prog 5 = some 1 := by kernel_rfl
theorem ze_5 : zeroB Try.prog 5 = some (.int .u8 0) := by kernel_rfl
theorem sh_5 : shapes Try.prog 12 5 = some [.i .u8] := by kernel_rfl
theorem ui_6 : Try.prog.underlying 6 = some (.int .u8) := by kernel_rfl
theorem ag_6 : aggB Try.prog 6 = some false := by kernel_rfl
theorem sz_6 : sizeB Try.prog 6 = some 1 := by kernel_rfl
theorem ze_6 : zeroB Try.prog 6 = some (.int .u8 0) := by kernel_rfl
theorem sh_6 : shapes Try.prog 12 6 = some [.i .u8] := by kernel_rfl
theorem ag_7 : aggB Try.prog 7 = some true := by kernel_rfl
theorem sz_7 : sizeB Try.prog 7 = some 4 := by kernel_rfl
theorem ze_7 : zeroB Try.prog 7 = some (.agg #[.int .i64 0, .int .i64 0, .bool false, .int .u8 0]) := by kernel_rfl
theorem sh_7 : shapes Try.prog 12 7 = some [.i .i64, .i .i64, .b, .i .u8] := by kernel_rfl
theorem fi_7_0 : fieldB Try.prog 7 0 = some (0, 2) := by kernel_rfl
theorem fi_7_1 : fieldB Try.prog 7 1 = some (1, 3) := by kernel_rfl
theorem fi_7_2 : fieldB Try.prog 7 2 = some (2, 4) := by kernel_rfl
theorem fi_7_3 : fieldB Try.prog 7 3 = some (3, 6) := by kernel_rfl
theorem ag_8 : aggB Try.prog 8 = some true := by kernel_rfl
theorem sz_8 : sizeB Try.prog 8 = some 4 := by kernel_rfl
theorem ze_8 : zeroB Try.prog 8 = some (.agg #[.int .i64 0, .int .i64 0, .bool false, .int .u8 0]) := by kernel_rfl
theorem sh_8 : shapes Try.prog 12 8 = some [.i .i64, .i .i64, .b, .i .u8] := by kernel_rfl
theorem fi_8_0 : fieldB Try.prog 8 0 = some (0, 2) := by kernel_rfl
theorem fi_8_1 : fieldB Try.prog 8 1 = some (1, 3) := by kernel_rfl
theorem fi_8_2 : fieldB Try.prog 8 2 = some (2, 4) := by kernel_rfl
theorem fi_8_3 : fieldB Try.prog 8 3 = some (3, 6) := by kernel_rfl
theorem ut_9 : Try.prog.underlying 9 = some .string := by kernel_rfl
theorem ut_10 : Try.prog.underlying 10 = some .string := by kernel_rfl
theorem ut_11 : Try.prog.underlying 11 = some .string := by kernel_rfl
theorem ui_12 : Try.prog.underlying 12 = some (.int .u64) := by kernel_rfl
theorem ag_12 : aggB Try.prog 12 = some false := by kernel_rfl
theorem sz_12 : sizeB Try.prog 12 = some 1 := by kernel_rfl
theorem ze_12 : zeroB Try.prog 12 = some (.int .u64 0) := by kernel_rfl
theorem sh_12 : shapes Try.prog 12 12 = some [.i .u64] := by kernel_rfl
theorem ag_13 : aggB Try.prog 13 = some true := by kernel_rfl
theorem sz_13 : sizeB Try.prog 13 = some 2 := by kernel_rfl
theorem ze_13 : zeroB Try.prog 13 = some (.agg #[.string ByteArray.empty, .int .u64 0]) := by kernel_rfl
theorem fi_13_0 : fieldB Try.prog 13 0 = some (0, 9) := by kernel_rfl
theorem fi_13_1 : fieldB Try.prog 13 1 = some (1, 12) := by kernel_rfl
theorem ag_14 : aggB Try.prog 14 = some true := by kernel_rfl
theorem sz_14 : sizeB Try.prog 14 = some 2 := by kernel_rfl
theorem ze_14 : zeroB Try.prog 14 = some (.agg #[.string ByteArray.empty, .int .u64 0]) := by kernel_rfl
theorem fi_14_0 : fieldB Try.prog 14 0 = some (0, 9) := by kernel_rfl
theorem fi_14_1 : fieldB Try.prog 14 1 = some (1, 12) := by kernel_rfl
theorem ag_15 : aggB Try.prog 15 = some false := by kernel_rfl
theorem sz_15 : sizeB Try.prog 15 = some 1 := by kernel_rfl
theorem ze_15 : zeroB Try.prog 15 = some (.pointer none) := by kernel_rfl
theorem up_15 : Try.prog.underlying 15 = some (.pointer (Try.prog.pointee 15)) := by kernel_rfl
theorem ag_16 : aggB Try.prog 16 = some false := by kernel_rfl
theorem sz_16 : sizeB Try.prog 16 = some 1 := by kernel_rfl
theorem ze_16 : zeroB Try.prog 16 = some (.pointer none) := by kernel_rfl
theorem up_16 : Try.prog.underlying 16 = some (.pointer (Try.prog.pointee 16)) := by kernel_rfl
theorem ag_17 : aggB Try.prog 17 = some false := by kernel_rfl
theorem sz_17 : sizeB Try.prog 17 = some 1 := by kernel_rfl
theorem ze_17 : zeroB Try.prog 17 = some (.pointer none) := by kernel_rfl
theorem up_17 : Try.prog.underlying 17 = some (.pointer (Try.prog.pointee 17)) := by kernel_rfl
theorem ag_18 : aggB Try.prog 18 = some true := by kernel_rfl
theorem sz_18 : sizeB Try.prog 18 = some 1 := by kernel_rfl
theorem ze_18 : zeroB Try.prog 18 = some (.agg #[.pointer none]) := by kernel_rfl
theorem fi_18_0 : fieldB Try.prog 18 0 = some (0, 17) := by kernel_rfl
theorem ag_19 : aggB Try.prog 19 = some true := by kernel_rfl
theorem sz_19 : sizeB Try.prog 19 = some 1 := by kernel_rfl
theorem ze_19 : zeroB Try.prog 19 = some (.agg #[.pointer none]) := by kernel_rfl
theorem fi_19_0 : fieldB Try.prog 19 0 = some (0, 17) := by kernel_rfl
theorem ui_21 : Try.prog.underlying 21 = some (.int .i32) := by kernel_rfl
theorem ag_21 : aggB Try.prog 21 = some false := by kernel_rfl
theorem sz_21 : sizeB Try.prog 21 = some 1 := by kernel_rfl
theorem ze_21 : zeroB Try.prog 21 = some (.int .i32 0) := by kernel_rfl
theorem sh_21 : shapes Try.prog 12 21 = some [.i .i32] := by kernel_rfl
theorem ag_22 : aggB Try.prog 22 = some false := by kernel_rfl
theorem sz_22 : sizeB Try.prog 22 = some 1 := by kernel_rfl
theorem ze_22 : zeroB Try.prog 22 = some (.slice none 0 0) := by kernel_rfl
theorem us_22 : Try.prog.underlying 22 = some (.slice 39) := by kernel_rfl
theorem sl_22 : slcB Try.prog 22 = some (39, 3) := by kernel_rfl
theorem ag_23 : aggB Try.prog 23 = some false := by kernel_rfl
theorem sz_23 : sizeB Try.prog 23 = some 1 := by kernel_rfl
theorem ze_23 : zeroB Try.prog 23 = some (.slice none 0 0) := by kernel_rfl
theorem us_23 : Try.prog.underlying 23 = some (.slice 24) := by kernel_rfl
theorem if_24 : (Try.prog.info? 24).map (fun i => (i.zero, i.size, i.bytes)) = some (some (.int .u64 0), 1, 8) := by kernel_rfl
theorem sl_23 : slcB Try.prog 23 = some (24, 1) := by kernel_rfl
theorem ui_24 : Try.prog.underlying 24 = some (.int .u64) := by kernel_rfl
theorem ag_24 : aggB Try.prog 24 = some false := by kernel_rfl
theorem sz_24 : sizeB Try.prog 24 = some 1 := by kernel_rfl
theorem ze_24 : zeroB Try.prog 24 = some (.int .u64 0) := by kernel_rfl
theorem sh_24 : shapes Try.prog 12 24 = some [.i .u64] := by kernel_rfl
theorem ui_25 : Try.prog.underlying 25 = some (.int .i64) := by kernel_rfl
theorem ag_25 : aggB Try.prog 25 = some false := by kernel_rfl
theorem sz_25 : sizeB Try.prog 25 = some 1 := by kernel_rfl
theorem ze_25 : zeroB Try.prog 25 = some (.int .i64 0) := by kernel_rfl
theorem sh_25 : shapes Try.prog 12 25 = some [.i .i64] := by kernel_rfl
theorem ag_30 : aggB Try.prog 30 = some false := by kernel_rfl
theorem sz_30 : sizeB Try.prog 30 = some 1 := by kernel_rfl
theorem ze_30 : zeroB Try.prog 30 = some (.pointer none) := by kernel_rfl
theorem up_30 : Try.prog.underlying 30 = some (.pointer (Try.prog.pointee 30)) := by kernel_rfl
theorem ag_33 : aggB Try.prog 33 = some true := by kernel_rfl
theorem sz_33 : sizeB Try.prog 33 = some 2 := by kernel_rfl
theorem ze_33 : zeroB Try.prog 33 = some (.agg #[.int .i64 0, .slice none 0 0]) := by kernel_rfl
theorem fi_33_0 : fieldB Try.prog 33 0 = some (0, 3) := by kernel_rfl
theorem fi_33_1 : fieldB Try.prog 33 1 = some (1, 23) := by kernel_rfl
theorem ag_34 : aggB Try.prog 34 = some true := by kernel_rfl
theorem sz_34 : sizeB Try.prog 34 = some 2 := by kernel_rfl
theorem ze_34 : zeroB Try.prog 34 = some (.agg #[.int .i64 0, .slice none 0 0]) := by kernel_rfl
theorem fi_34_0 : fieldB Try.prog 34 0 = some (0, 3) := by kernel_rfl
theorem fi_34_1 : fieldB Try.prog 34 1 = some (1, 23) := by kernel_rfl
theorem ag_38 : aggB Try.prog 38 = some true := by kernel_rfl
theorem sz_38 : sizeB Try.prog 38 = some 3 := by kernel_rfl
theorem ze_38 : zeroB Try.prog 38 = some (.agg #[.int .u8 0, .int .i64 0, .int .u64 0]) := by kernel_rfl
theorem sh_38 : shapes Try.prog 12 38 = some [.i .u8, .i .i64, .i .u64] := by kernel_rfl
theorem fi_38_0 : fieldB Try.prog 38 0 = some (0, 5) := by kernel_rfl
theorem fi_38_1 : fieldB Try.prog 38 1 = some (1, 3) := by kernel_rfl
theorem fi_38_2 : fieldB Try.prog 38 2 = some (2, 24) := by kernel_rfl
theorem ag_39 : aggB Try.prog 39 = some true := by kernel_rfl
theorem sz_39 : sizeB Try.prog 39 = some 3 := by kernel_rfl
theorem ze_39 : zeroB Try.prog 39 = some (.agg #[.int .u8 0, .int .i64 0, .int .u64 0]) := by kernel_rfl
theorem sh_39 : shapes Try.prog 12 39 = some [.i .u8, .i .i64, .i .u64] := by kernel_rfl
theorem fi_39_0 : fieldB Try.prog 39 0 = some (0, 5) := by kernel_rfl
theorem fi_39_1 : fieldB Try.prog 39 1 = some (1, 3) := by kernel_rfl
theorem fi_39_2 : fieldB Try.prog 39 2 = some (2, 24) := by kernel_rfl
theorem ag_52 : aggB Try.prog 52 = some false := by kernel_rfl
theorem sz_52 : sizeB Try.prog 52 = some 1 := by kernel_rfl
theorem ze_52 : zeroB Try.prog 52 = some (.slice none 0 0) := by kernel_rfl
theorem us_52 : Try.prog.underlying 52 = some (.slice 4) := by kernel_rfl
theorem sl_52 : slcB Try.prog 52 = some (4, 1) := by kernel_rfl
theorem ag_57 : aggB Try.prog 57 = some true := by kernel_rfl
theorem sz_57 : sizeB Try.prog 57 = some 2 := by kernel_rfl
theorem ze_57 : zeroB Try.prog 57 = some (.agg #[.slice none 0 0, .int .i64 0]) := by kernel_rfl
theorem fi_57_0 : fieldB Try.prog 57 0 = some (0, 23) := by kernel_rfl
theorem fi_57_1 : fieldB Try.prog 57 1 = some (1, 3) := by kernel_rfl
theorem ag_58 : aggB Try.prog 58 = some true := by kernel_rfl
theorem sz_58 : sizeB Try.prog 58 = some 2 := by kernel_rfl
theorem ze_58 : zeroB Try.prog 58 = some (.agg #[.slice none 0 0, .int .i64 0]) := by kernel_rfl
theorem fi_58_0 : fieldB Try.prog 58 0 = some (0, 23) := by kernel_rfl
theorem fi_58_1 : fieldB Try.prog 58 1 = some (1, 3) := by kernel_rfl
theorem ag_59 : aggB Try.prog 59 = some false := by kernel_rfl
theorem sz_59 : sizeB Try.prog 59 = some 1 := by kernel_rfl
theorem ze_59 : zeroB Try.prog 59 = some (.slice none 0 0) := by kernel_rfl
theorem us_59 : Try.prog.underlying 59 = some (.slice 30) := by kernel_rfl
theorem sl_59 : slcB Try.prog 59 = some (30, 1) := by kernel_rfl
theorem ag_60 : aggB Try.prog 60 = some false := by kernel_rfl
theorem sz_60 : sizeB Try.prog 60 = some 1 := by kernel_rfl
theorem ze_60 : zeroB Try.prog 60 = some (.slice none 0 0) := by kernel_rfl
theorem us_60 : Try.prog.underlying 60 = some (.slice 3) := by kernel_rfl
theorem if_3 : (Try.prog.info? 3).map (fun i => (i.zero, i.size, i.bytes)) = some (some (.int .i64 0), 1, 8) := by kernel_rfl
theorem sl_60 : slcB Try.prog 60 = some (3, 1) := by kernel_rfl
theorem ag_61 : aggB Try.prog 61 = some false := by kernel_rfl
theorem sz_61 : sizeB Try.prog 61 = some 1 := by kernel_rfl
theorem ze_61 : zeroB Try.prog 61 = some (.slice none 0 0) := by kernel_rfl
theorem us_61 : Try.prog.underlying 61 = some (.slice 23) := by kernel_rfl
theorem sl_61 : slcB Try.prog 61 = some (23, 1) := by kernel_rfl
theorem ui_65 : Try.prog.underlying 65 = some (.int .u64) := by kernel_rfl
theorem ag_65 : aggB Try.prog 65 = some false := by kernel_rfl
theorem sz_65 : sizeB Try.prog 65 = some 1 := by kernel_rfl
theorem ze_65 : zeroB Try.prog 65 = some (.int .u64 0) := by kernel_rfl
theorem sh_65 : shapes Try.prog 12 65 = some [.i .u64] := by kernel_rfl
theorem ag_67 : aggB Try.prog 67 = some false := by kernel_rfl
theorem sz_67 : sizeB Try.prog 67 = some 1 := by kernel_rfl
theorem ze_67 : zeroB Try.prog 67 = some (.pointer none) := by kernel_rfl
theorem up_67 : Try.prog.underlying 67 = some (.pointer (Try.prog.pointee 67)) := by kernel_rfl
theorem ag_72 : aggB Try.prog 72 = some true := by kernel_rfl
theorem sz_72 : sizeB Try.prog 72 = some 4 := by kernel_rfl
theorem ze_72 : zeroB Try.prog 72 = some (.agg #[.pointer none, .pointer none, .pointer none, .string ByteArray.empty]) := by kernel_rfl
theorem fi_72_0 : fieldB Try.prog 72 0 = some (0, 17) := by kernel_rfl
theorem fi_72_1 : fieldB Try.prog 72 1 = some (1, 17) := by kernel_rfl
theorem fi_72_2 : fieldB Try.prog 72 2 = some (2, 17) := by kernel_rfl
theorem fi_72_3 : fieldB Try.prog 72 3 = some (3, 9) := by kernel_rfl
theorem ag_73 : aggB Try.prog 73 = some true := by kernel_rfl
theorem sz_73 : sizeB Try.prog 73 = some 4 := by kernel_rfl
theorem ze_73 : zeroB Try.prog 73 = some (.agg #[.pointer none, .pointer none, .pointer none, .string ByteArray.empty]) := by kernel_rfl
theorem fi_73_0 : fieldB Try.prog 73 0 = some (0, 17) := by kernel_rfl
theorem fi_73_1 : fieldB Try.prog 73 1 = some (1, 17) := by kernel_rfl
theorem fi_73_2 : fieldB Try.prog 73 2 = some (2, 17) := by kernel_rfl
theorem fi_73_3 : fieldB Try.prog 73 3 = some (3, 9) := by kernel_rfl
theorem ui_78 : Try.prog.underlying 78 = some (.int .u32) := by kernel_rfl
theorem ag_78 : aggB Try.prog 78 = some false := by kernel_rfl
theorem sz_78 : sizeB Try.prog 78 = some 1 := by kernel_rfl
theorem ze_78 : zeroB Try.prog 78 = some (.int .u32 0) := by kernel_rfl
theorem sh_78 : shapes Try.prog 12 78 = some [.i .u32] := by kernel_rfl
theorem ui_79 : Try.prog.underlying 79 = some (.int .u8) := by kernel_rfl
theorem ag_79 : aggB Try.prog 79 = some false := by kernel_rfl
theorem sz_79 : sizeB Try.prog 79 = some 1 := by kernel_rfl
theorem ze_79 : zeroB Try.prog 79 = some (.int .u8 0) := by kernel_rfl
theorem sh_79 : shapes Try.prog 12 79 = some [.i .u8] := by kernel_rfl
theorem ui_80 : Try.prog.underlying 80 = some (.int .u8) := by kernel_rfl
theorem ag_80 : aggB Try.prog 80 = some false := by kernel_rfl
theorem sz_80 : sizeB Try.prog 80 = some 1 := by kernel_rfl
theorem ze_80 : zeroB Try.prog 80 = some (.int .u8 0) := by kernel_rfl
theorem sh_80 : shapes Try.prog 12 80 = some [.i .u8] := by kernel_rfl
theorem ag_82 : aggB Try.prog 82 = some false := by kernel_rfl
theorem sz_82 : sizeB Try.prog 82 = some 1 := by kernel_rfl
theorem ze_82 : zeroB Try.prog 82 = some (.pointer none) := by kernel_rfl
theorem up_82 : Try.prog.underlying 82 = some (.pointer (Try.prog.pointee 82)) := by kernel_rfl
theorem ui_83 : Try.prog.underlying 83 = some (.int .i32) := by kernel_rfl
theorem ag_83 : aggB Try.prog 83 = some false := by kernel_rfl
theorem sz_83 : sizeB Try.prog 83 = some 1 := by kernel_rfl
theorem ze_83 : zeroB Try.prog 83 = some (.int .i32 0) := by kernel_rfl
theorem sh_83 : shapes Try.prog 12 83 = some [.i .i32] := by kernel_rfl
theorem ui_84 : Try.prog.underlying 84 = some (.int .i32) := by kernel_rfl
theorem ag_84 : aggB Try.prog 84 = some false := by kernel_rfl
theorem sz_84 : sizeB Try.prog 84 = some 1 := by kernel_rfl
theorem ze_84 : zeroB Try.prog 84 = some (.int .i32 0) := by kernel_rfl
theorem sh_84 : shapes Try.prog 12 84 = some [.i .i32] := by kernel_rfl
theorem ag_85 : aggB Try.prog 85 = some true := by kernel_rfl
theorem sz_85 : sizeB Try.prog 85 = some 11 := by kernel_rfl
theorem ze_85 : zeroB Try.prog 85 = some (.agg #[.int .u64 0, .int .u64 0, .int .u32 0, .int .u8 0, .int .u8 0, .int .u8 0, .int .u8 0, .nilFunc, .pointer none, .int .i32 0, .int .i32 0]) := by kernel_rfl
theorem fi_85_0 : fieldB Try.prog 85 0 = some (0, 12) := by kernel_rfl
theorem fi_85_1 : fieldB Try.prog 85 1 = some (1, 12) := by kernel_rfl
theorem fi_85_2 : fieldB Try.prog 85 2 = some (2, 78) := by kernel_rfl
theorem fi_85_3 : fieldB Try.prog 85 3 = some (3, 79) := by kernel_rfl
theorem fi_85_4 : fieldB Try.prog 85 4 = some (4, 5) := by kernel_rfl
theorem fi_85_5 : fieldB Try.prog 85 5 = some (5, 5) := by kernel_rfl
theorem fi_85_6 : fieldB Try.prog 85 6 = some (6, 80) := by kernel_rfl
theorem fi_85_7 : fieldB Try.prog 85 7 = some (7, 81) := by kernel_rfl
theorem fi_85_8 : fieldB Try.prog 85 8 = some (8, 82) := by kernel_rfl
theorem fi_85_9 : fieldB Try.prog 85 9 = some (9, 83) := by kernel_rfl
theorem fi_85_10 : fieldB Try.prog 85 10 = some (10, 84) := by kernel_rfl
theorem ag_86 : aggB Try.prog 86 = some true := by kernel_rfl
theorem sz_86 : sizeB Try.prog 86 = some 11 := by kernel_rfl
theorem ze_86 : zeroB Try.prog 86 = some (.agg #[.int .u64 0, .int .u64 0, .int .u32 0, .int .u8 0, .int .u8 0, .int .u8 0, .int .u8 0, .nilFunc, .pointer none, .int .i32 0, .int .i32 0]) := by kernel_rfl
theorem fi_86_0 : fieldB Try.prog 86 0 = some (0, 12) := by kernel_rfl
theorem fi_86_1 : fieldB Try.prog 86 1 = some (1, 12) := by kernel_rfl
theorem fi_86_2 : fieldB Try.prog 86 2 = some (2, 78) := by kernel_rfl
theorem fi_86_3 : fieldB Try.prog 86 3 = some (3, 79) := by kernel_rfl
theorem fi_86_4 : fieldB Try.prog 86 4 = some (4, 5) := by kernel_rfl
theorem fi_86_5 : fieldB Try.prog 86 5 = some (5, 5) := by kernel_rfl
theorem fi_86_6 : fieldB Try.prog 86 6 = some (6, 80) := by kernel_rfl
theorem fi_86_7 : fieldB Try.prog 86 7 = some (7, 81) := by kernel_rfl
theorem fi_86_8 : fieldB Try.prog 86 8 = some (8, 82) := by kernel_rfl
theorem fi_86_9 : fieldB Try.prog 86 9 = some (9, 83) := by kernel_rfl
theorem fi_86_10 : fieldB Try.prog 86 10 = some (10, 84) := by kernel_rfl
theorem ca_3 : callable Try.prog 3 = true := by kernel_rfl
theorem ca_4 : callable Try.prog 4 = true := by kernel_rfl
theorem ca_5 : callable Try.prog 5 = true := by kernel_rfl
theorem ca_6 : callable Try.prog 6 = true := by kernel_rfl
theorem ca_7 : callable Try.prog 7 = true := by kernel_rfl
theorem ca_8 : callable Try.prog 8 = true := by kernel_rfl
theorem ca_9 : callable Try.prog 9 = true := by kernel_rfl
theorem ca_10 : callable Try.prog 10 = true := by kernel_rfl
theorem ca_11 : callable Try.prog 11 = true := by kernel_rfl
theorem ca_12 : callable Try.prog 12 = true := by kernel_rfl
theorem ca_13 : callable Try.prog 13 = true := by kernel_rfl
theorem ca_14 : callable Try.prog 14 = true := by kernel_rfl
theorem ca_15 : callable Try.prog 15 = true := by kernel_rfl
theorem ca_16 : callable Try.prog 16 = true := by kernel_rfl
theorem ca_17 : callable Try.prog 17 = true := by kernel_rfl
theorem ca_18 : callable Try.prog 18 = true := by kernel_rfl
theorem ca_19 : callable Try.prog 19 = true := by kernel_rfl
theorem ca_20 : callable Try.prog 20 = true := by kernel_rfl
theorem ca_21 : callable Try.prog 21 = true := by kernel_rfl
theorem ca_22 : callable Try.prog 22 = true := by kernel_rfl
theorem ca_23 : callable Try.prog 23 = true := by kernel_rfl
theorem ca_24 : callable Try.prog 24 = true := by kernel_rfl
theorem ca_25 : callable Try.prog 25 = true := by kernel_rfl
theorem ca_26 : callable Try.prog 26 = true := by kernel_rfl
theorem ca_27 : callable Try.prog 27 = true := by kernel_rfl
theorem ca_28 : callable Try.prog 28 = true := by kernel_rfl
theorem ca_29 : callable Try.prog 29 = true := by kernel_rfl
theorem ca_30 : callable Try.prog 30 = true := by kernel_rfl
theorem ca_31 : callable Try.prog 31 = true := by kernel_rfl
theorem ag_1 : aggB Try.prog 1 = some false := by kernel_rfl
theorem sz_1 : sizeB Try.prog 1 = some 1 := by kernel_rfl
theorem ag_27 : aggB Try.prog 27 = some false := by kernel_rfl
theorem sz_27 : sizeB Try.prog 27 = some 1 := by kernel_rfl
theorem ag_29 : aggB Try.prog 29 = some false := by kernel_rfl
theorem sz_29 : sizeB Try.prog 29 = some 1 := by kernel_rfl
theorem ag_32 : aggB Try.prog 32 = some false := by kernel_rfl
theorem sz_32 : sizeB Try.prog 32 = some 1 := by kernel_rfl
theorem ag_36 : aggB Try.prog 36 = some false := by kernel_rfl
theorem sz_36 : sizeB Try.prog 36 = some 1 := by kernel_rfl
theorem ag_37 : aggB Try.prog 37 = some false := by kernel_rfl
theorem sz_37 : sizeB Try.prog 37 = some 1 := by kernel_rfl
theorem ag_40 : aggB Try.prog 40 = some false := by kernel_rfl
theorem sz_40 : sizeB Try.prog 40 = some 1 := by kernel_rfl
theorem ag_41 : aggB Try.prog 41 = some false := by kernel_rfl
theorem sz_41 : sizeB Try.prog 41 = some 1 := by kernel_rfl
theorem ag_42 : aggB Try.prog 42 = some false := by kernel_rfl
theorem sz_42 : sizeB Try.prog 42 = some 1 := by kernel_rfl
theorem ag_43 : aggB Try.prog 43 = some false := by kernel_rfl
theorem sz_43 : sizeB Try.prog 43 = some 1 := by kernel_rfl
theorem ag_45 : aggB Try.prog 45 = some false := by kernel_rfl
theorem sz_45 : sizeB Try.prog 45 = some 1 := by kernel_rfl
theorem ag_47 : aggB Try.prog 47 = some false := by kernel_rfl
theorem sz_47 : sizeB Try.prog 47 = some 1 := by kernel_rfl
theorem ag_48 : aggB Try.prog 48 = some false := by kernel_rfl
theorem sz_48 : sizeB Try.prog 48 = some 1 := by kernel_rfl
theorem ag_49 : aggB Try.prog 49 = some false := by kernel_rfl
theorem sz_49 : sizeB Try.prog 49 = some 1 := by kernel_rfl
theorem ag_51 : aggB Try.prog 51 = some false := by kernel_rfl
theorem sz_51 : sizeB Try.prog 51 = some 1 := by kernel_rfl
theorem ag_53 : aggB Try.prog 53 = some false := by kernel_rfl
theorem sz_53 : sizeB Try.prog 53 = some 1 := by kernel_rfl
theorem ag_54 : aggB Try.prog 54 = some false := by kernel_rfl
theorem sz_54 : sizeB Try.prog 54 = some 1 := by kernel_rfl
theorem ag_55 : aggB Try.prog 55 = some false := by kernel_rfl
theorem sz_55 : sizeB Try.prog 55 = some 1 := by kernel_rfl
theorem ag_56 : aggB Try.prog 56 = some false := by kernel_rfl
theorem sz_56 : sizeB Try.prog 56 = some 1 := by kernel_rfl
theorem ag_62 : aggB Try.prog 62 = some false := by kernel_rfl
theorem sz_62 : sizeB Try.prog 62 = some 1 := by kernel_rfl
theorem ag_63 : aggB Try.prog 63 = some false := by kernel_rfl
theorem sz_63 : sizeB Try.prog 63 = some 1 := by kernel_rfl
theorem ag_64 : aggB Try.prog 64 = some false := by kernel_rfl
theorem sz_64 : sizeB Try.prog 64 = some 1 := by kernel_rfl
theorem ag_66 : aggB Try.prog 66 = some false := by kernel_rfl
theorem sz_66 : sizeB Try.prog 66 = some 1 := by kernel_rfl
theorem ag_68 : aggB Try.prog 68 = some false := by kernel_rfl
theorem sz_68 : sizeB Try.prog 68 = some 1 := by kernel_rfl
theorem ag_69 : aggB Try.prog 69 = some false := by kernel_rfl
theorem sz_69 : sizeB Try.prog 69 = some 1 := by kernel_rfl
theorem ag_70 : aggB Try.prog 70 = some false := by kernel_rfl
theorem sz_70 : sizeB Try.prog 70 = some 1 := by kernel_rfl
theorem ag_71 : aggB Try.prog 71 = some false := by kernel_rfl
theorem sz_71 : sizeB Try.prog 71 = some 1 := by kernel_rfl
theorem ag_77 : aggB Try.prog 77 = some false := by kernel_rfl
theorem sz_77 : sizeB Try.prog 77 = some 1 := by kernel_rfl
theorem ag_81 : aggB Try.prog 81 = some false := by kernel_rfl
theorem sz_81 : sizeB Try.prog 81 = some 1 := by kernel_rfl
end Go.Proofs.Ytohkdjaobdgenaa
