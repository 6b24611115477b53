/- Facts about the types and functions of the program, each in one line. Printed by facts.py. -/
import Derived.Test.YtloecggdboingaaFC
import Derived.Test.YtloecggdboingaaProg
import Derived.KernelRfl
namespace Go.Proofs.Ytloecggdboingaa
open Go.RowKit Go.Proofs
theorem u_2 : Try.prog.underlying 2 = some (.int .i64) := by kernel_rfl
theorem k_2 : kindT Try.prog 2 = some false := by kernel_rfl
theorem c_2 : Try.prog.cellsOf 2 = 1 := by kernel_rfl
theorem b_2 : Try.prog.bytesOf 2 = 8 := by kernel_rfl
theorem z_2 : tzero Try.prog 2 = some (.int .i64 0) := by kernel_rfl
theorem u_3 : Try.prog.underlying 3 = some (.int .i64) := by kernel_rfl
theorem k_3 : kindT Try.prog 3 = some false := by kernel_rfl
theorem c_3 : Try.prog.cellsOf 3 = 1 := by kernel_rfl
theorem b_3 : Try.prog.bytesOf 3 = 8 := by kernel_rfl
theorem z_3 : tzero Try.prog 3 = some (.int .i64 0) := by kernel_rfl
theorem u_4 : Try.prog.underlying 4 = some .bool := by kernel_rfl
theorem k_4 : kindT Try.prog 4 = some false := by kernel_rfl
theorem c_4 : Try.prog.cellsOf 4 = 1 := by kernel_rfl
theorem b_4 : Try.prog.bytesOf 4 = 1 := by kernel_rfl
theorem z_4 : tzero Try.prog 4 = some (.bool false) := by kernel_rfl
theorem u_5 : Try.prog.underlying 5 = some (.int .u8) := by kernel_rfl
theorem k_5 : kindT Try.prog 5 = some false := by kernel_rfl
theorem c_5 : Try.prog.cellsOf 5 = 1 := by kernel_rfl
theorem b_5 : Try.prog.bytesOf 5 = 1 := by kernel_rfl
theorem z_5 : tzero Try.prog 5 = some (.int .u8 0) := by kernel_rfl
theorem u_6 : Try.prog.underlying 6 = some (.int .u8) := by kernel_rfl
theorem k_6 : kindT Try.prog 6 = some false := by kernel_rfl
theorem c_6 : Try.prog.cellsOf 6 = 1 := by kernel_rfl
theorem b_6 : Try.prog.bytesOf 6 = 1 := by kernel_rfl
theorem z_6 : tzero Try.prog 6 = some (.int .u8 0) := by kernel_rfl
theorem k_7 : kindT Try.prog 7 = some true := by kernel_rfl
theorem c_7 : Try.prog.cellsOf 7 = 4 := by kernel_rfl
theorem b_7 : Try.prog.bytesOf 7 = 24 := by kernel_rfl
theorem z_7 : tzero Try.prog 7 = some (.agg [.int .i64 0, .int .i64 0, .bool false, .int .u8 0]) := by kernel_rfl
theorem s_7 : structT Try.prog 7 = true := by kernel_rfl
theorem g_7 : goodT Try.prog 7 = true := by kernel_rfl
theorem f_7_0 : fieldP Try.prog 7 0 = some (2, 0) := by kernel_rfl
theorem f_7_1 : fieldP Try.prog 7 1 = some (3, 1) := by kernel_rfl
theorem f_7_2 : fieldP Try.prog 7 2 = some (4, 2) := by kernel_rfl
theorem f_7_3 : fieldP Try.prog 7 3 = some (6, 3) := by kernel_rfl
theorem k_8 : kindT Try.prog 8 = some true := by kernel_rfl
theorem c_8 : Try.prog.cellsOf 8 = 4 := by kernel_rfl
theorem b_8 : Try.prog.bytesOf 8 = 24 := by kernel_rfl
theorem z_8 : tzero Try.prog 8 = some (.agg [.int .i64 0, .int .i64 0, .bool false, .int .u8 0]) := by kernel_rfl
theorem s_8 : structT Try.prog 8 = true := by kernel_rfl
theorem g_8 : goodT Try.prog 8 = true := by kernel_rfl
theorem f_8_0 : fieldP Try.prog 8 0 = some (2, 0) := by kernel_rfl
theorem f_8_1 : fieldP Try.prog 8 1 = some (3, 1) := by kernel_rfl
theorem f_8_2 : fieldP Try.prog 8 2 = some (4, 2) := by kernel_rfl
theorem f_8_3 : fieldP Try.prog 8 3 = some (6, 3) := by kernel_rfl
theorem u_9 : Try.prog.underlying 9 = some .string := by kernel_rfl
theorem k_9 : kindT Try.prog 9 = some false := by kernel_rfl
theorem c_9 : Try.prog.cellsOf 9 = 1 := by kernel_rfl
theorem b_9 : Try.prog.bytesOf 9 = 16 := by kernel_rfl
theorem z_9 : tzero Try.prog 9 = some (.str []) := by kernel_rfl
theorem u_10 : Try.prog.underlying 10 = some .string := by kernel_rfl
theorem k_10 : kindT Try.prog 10 = some false := by kernel_rfl
theorem c_10 : Try.prog.cellsOf 10 = 1 := by kernel_rfl
theorem b_10 : Try.prog.bytesOf 10 = 16 := by kernel_rfl
theorem z_10 : tzero Try.prog 10 = some (.str []) := by kernel_rfl
theorem u_11 : Try.prog.underlying 11 = some .string := by kernel_rfl
theorem k_11 : kindT Try.prog 11 = some false := by kernel_rfl
theorem c_11 : Try.prog.cellsOf 11 = 1 := by kernel_rfl
theorem b_11 : Try.prog.bytesOf 11 = 16 := by kernel_rfl
theorem z_11 : tzero Try.prog 11 = some (.str []) := by kernel_rfl
theorem u_12 : Try.prog.underlying 12 = some (.int .u64) := by kernel_rfl
theorem k_12 : kindT Try.prog 12 = some false := by kernel_rfl
theorem c_12 : Try.prog.cellsOf 12 = 1 := by kernel_rfl
theorem b_12 : Try.prog.bytesOf 12 = 8 := by kernel_rfl
theorem z_12 : tzero Try.prog 12 = some (.int .u64 0) := by kernel_rfl
theorem k_13 : kindT Try.prog 13 = some true := by kernel_rfl
theorem c_13 : Try.prog.cellsOf 13 = 2 := by kernel_rfl
theorem b_13 : Try.prog.bytesOf 13 = 24 := by kernel_rfl
theorem z_13 : tzero Try.prog 13 = some (.agg [.str [], .int .u64 0]) := by kernel_rfl
theorem s_13 : structT Try.prog 13 = true := by kernel_rfl
theorem g_13 : goodT Try.prog 13 = true := by kernel_rfl
theorem f_13_0 : fieldP Try.prog 13 0 = some (9, 0) := by kernel_rfl
theorem f_13_1 : fieldP Try.prog 13 1 = some (12, 1) := by kernel_rfl
theorem k_14 : kindT Try.prog 14 = some true := by kernel_rfl
theorem c_14 : Try.prog.cellsOf 14 = 2 := by kernel_rfl
theorem b_14 : Try.prog.bytesOf 14 = 24 := by kernel_rfl
theorem z_14 : tzero Try.prog 14 = some (.agg [.str [], .int .u64 0]) := by kernel_rfl
theorem s_14 : structT Try.prog 14 = true := by kernel_rfl
theorem g_14 : goodT Try.prog 14 = true := by kernel_rfl
theorem f_14_0 : fieldP Try.prog 14 0 = some (9, 0) := by kernel_rfl
theorem f_14_1 : fieldP Try.prog 14 1 = some (12, 1) := by kernel_rfl
theorem u_15 : Try.prog.underlying 15 = some (.pointer 143) := by kernel_rfl
theorem k_15 : kindT Try.prog 15 = some false := by kernel_rfl
theorem c_15 : Try.prog.cellsOf 15 = 1 := by kernel_rfl
theorem b_15 : Try.prog.bytesOf 15 = 8 := by kernel_rfl
theorem z_15 : tzero Try.prog 15 = some (.nilp) := by kernel_rfl
theorem u_16 : Try.prog.underlying 16 = some (.pointer 146) := by kernel_rfl
theorem k_16 : kindT Try.prog 16 = some false := by kernel_rfl
theorem c_16 : Try.prog.cellsOf 16 = 1 := by kernel_rfl
theorem b_16 : Try.prog.bytesOf 16 = 8 := by kernel_rfl
theorem z_16 : tzero Try.prog 16 = some (.nilp) := by kernel_rfl
theorem u_17 : Try.prog.underlying 17 = some (.pointer 155) := by kernel_rfl
theorem k_17 : kindT Try.prog 17 = some false := by kernel_rfl
theorem c_17 : Try.prog.cellsOf 17 = 1 := by kernel_rfl
theorem b_17 : Try.prog.bytesOf 17 = 8 := by kernel_rfl
theorem z_17 : tzero Try.prog 17 = some (.nilp) := by kernel_rfl
theorem k_18 : kindT Try.prog 18 = some true := by kernel_rfl
theorem c_18 : Try.prog.cellsOf 18 = 1 := by kernel_rfl
theorem b_18 : Try.prog.bytesOf 18 = 8 := by kernel_rfl
theorem z_18 : tzero Try.prog 18 = some (.agg [.nilp]) := by kernel_rfl
theorem s_18 : structT Try.prog 18 = true := by kernel_rfl
theorem g_18 : goodT Try.prog 18 = true := by kernel_rfl
theorem f_18_0 : fieldP Try.prog 18 0 = some (17, 0) := by kernel_rfl
theorem k_19 : kindT Try.prog 19 = some true := by kernel_rfl
theorem c_19 : Try.prog.cellsOf 19 = 1 := by kernel_rfl
theorem b_19 : Try.prog.bytesOf 19 = 8 := by kernel_rfl
theorem z_19 : tzero Try.prog 19 = some (.agg [.nilp]) := by kernel_rfl
theorem s_19 : structT Try.prog 19 = true := by kernel_rfl
theorem g_19 : goodT Try.prog 19 = true := by kernel_rfl
theorem f_19_0 : fieldP Try.prog 19 0 = some (17, 0) := by kernel_rfl
theorem u_21 : Try.prog.underlying 21 = some (.int .i32) := by kernel_rfl
theorem k_21 : kindT Try.prog 21 = some false := by kernel_rfl
theorem c_21 : Try.prog.cellsOf 21 = 1 := by kernel_rfl
theorem b_21 : Try.prog.bytesOf 21 = 4 := by kernel_rfl
theorem z_21 : tzero Try.prog 21 = some (.int .i32 0) := by kernel_rfl
theorem u_22 : Try.prog.underlying 22 = some (.slice 42) := by kernel_rfl
theorem k_22 : kindT Try.prog 22 = some false := by kernel_rfl
theorem c_22 : Try.prog.cellsOf 22 = 1 := by kernel_rfl
theorem b_22 : Try.prog.bytesOf 22 = 24 := by kernel_rfl
theorem z_22 : tzero Try.prog 22 = some (.list .nil []) := by kernel_rfl
theorem g_22 : goodT Try.prog 22 = true := by kernel_rfl
theorem u_23 : Try.prog.underlying 23 = some (.slice 89) := by kernel_rfl
theorem k_23 : kindT Try.prog 23 = some false := by kernel_rfl
theorem c_23 : Try.prog.cellsOf 23 = 1 := by kernel_rfl
theorem b_23 : Try.prog.bytesOf 23 = 24 := by kernel_rfl
theorem z_23 : tzero Try.prog 23 = some (.list .nil []) := by kernel_rfl
theorem g_23 : goodT Try.prog 23 = true := by kernel_rfl
theorem u_27 : Try.prog.underlying 27 = some (.slice 3) := by kernel_rfl
theorem k_27 : kindT Try.prog 27 = some false := by kernel_rfl
theorem c_27 : Try.prog.cellsOf 27 = 1 := by kernel_rfl
theorem b_27 : Try.prog.bytesOf 27 = 24 := by kernel_rfl
theorem z_27 : tzero Try.prog 27 = some (.list .nil []) := by kernel_rfl
theorem g_27 : goodT Try.prog 27 = true := by kernel_rfl
theorem u_28 : Try.prog.underlying 28 = some (.int .i64) := by kernel_rfl
theorem k_28 : kindT Try.prog 28 = some false := by kernel_rfl
theorem c_28 : Try.prog.cellsOf 28 = 1 := by kernel_rfl
theorem b_28 : Try.prog.bytesOf 28 = 8 := by kernel_rfl
theorem z_28 : tzero Try.prog 28 = some (.int .i64 0) := by kernel_rfl
theorem u_40 : Try.prog.underlying 40 = some (.slice 60) := by kernel_rfl
theorem k_40 : kindT Try.prog 40 = some false := by kernel_rfl
theorem c_40 : Try.prog.cellsOf 40 = 1 := by kernel_rfl
theorem b_40 : Try.prog.bytesOf 40 = 24 := by kernel_rfl
theorem z_40 : tzero Try.prog 40 = some (.list .nil []) := by kernel_rfl
theorem g_40 : goodT Try.prog 40 = true := by kernel_rfl
theorem k_41 : kindT Try.prog 41 = some true := by kernel_rfl
theorem c_41 : Try.prog.cellsOf 41 = 2 := by kernel_rfl
theorem b_41 : Try.prog.bytesOf 41 = 40 := by kernel_rfl
theorem z_41 : tzero Try.prog 41 = some (.agg [.str [], .list .nil []]) := by kernel_rfl
theorem s_41 : structT Try.prog 41 = true := by kernel_rfl
theorem g_41 : goodT Try.prog 41 = true := by kernel_rfl
theorem f_41_0 : fieldP Try.prog 41 0 = some (9, 0) := by kernel_rfl
theorem f_41_1 : fieldP Try.prog 41 1 = some (40, 1) := by kernel_rfl
theorem k_42 : kindT Try.prog 42 = some true := by kernel_rfl
theorem c_42 : Try.prog.cellsOf 42 = 2 := by kernel_rfl
theorem b_42 : Try.prog.bytesOf 42 = 40 := by kernel_rfl
theorem z_42 : tzero Try.prog 42 = some (.agg [.str [], .list .nil []]) := by kernel_rfl
theorem s_42 : structT Try.prog 42 = true := by kernel_rfl
theorem g_42 : goodT Try.prog 42 = true := by kernel_rfl
theorem f_42_0 : fieldP Try.prog 42 0 = some (9, 0) := by kernel_rfl
theorem f_42_1 : fieldP Try.prog 42 1 = some (40, 1) := by kernel_rfl
theorem k_57 : kindT Try.prog 57 = some true := by kernel_rfl
theorem c_57 : Try.prog.cellsOf 57 = 3 := by kernel_rfl
theorem b_57 : Try.prog.bytesOf 57 = 24 := by kernel_rfl
theorem z_57 : tzero Try.prog 57 = some (.agg [.int .i64 0, .int .i64 0, .int .i64 0]) := by kernel_rfl
theorem s_57 : structT Try.prog 57 = true := by kernel_rfl
theorem g_57 : goodT Try.prog 57 = true := by kernel_rfl
theorem f_57_0 : fieldP Try.prog 57 0 = some (3, 0) := by kernel_rfl
theorem f_57_1 : fieldP Try.prog 57 1 = some (3, 1) := by kernel_rfl
theorem f_57_2 : fieldP Try.prog 57 2 = some (3, 2) := by kernel_rfl
theorem k_58 : kindT Try.prog 58 = some true := by kernel_rfl
theorem c_58 : Try.prog.cellsOf 58 = 3 := by kernel_rfl
theorem b_58 : Try.prog.bytesOf 58 = 24 := by kernel_rfl
theorem z_58 : tzero Try.prog 58 = some (.agg [.int .i64 0, .int .i64 0, .int .i64 0]) := by kernel_rfl
theorem s_58 : structT Try.prog 58 = true := by kernel_rfl
theorem g_58 : goodT Try.prog 58 = true := by kernel_rfl
theorem f_58_0 : fieldP Try.prog 58 0 = some (3, 0) := by kernel_rfl
theorem f_58_1 : fieldP Try.prog 58 1 = some (3, 1) := by kernel_rfl
theorem f_58_2 : fieldP Try.prog 58 2 = some (3, 2) := by kernel_rfl
theorem k_59 : kindT Try.prog 59 = some true := by kernel_rfl
theorem c_59 : Try.prog.cellsOf 59 = 6 := by kernel_rfl
theorem b_59 : Try.prog.bytesOf 59 = 48 := by kernel_rfl
theorem z_59 : tzero Try.prog 59 = some (.agg [.str [], .int .i64 0, .int .i64 0, .int .i64 0, .bool false, .bool false]) := by kernel_rfl
theorem s_59 : structT Try.prog 59 = true := by kernel_rfl
theorem g_59 : goodT Try.prog 59 = true := by kernel_rfl
theorem f_59_0 : fieldP Try.prog 59 0 = some (9, 0) := by kernel_rfl
theorem f_59_1 : fieldP Try.prog 59 1 = some (58, 1) := by kernel_rfl
theorem f_59_2 : fieldP Try.prog 59 2 = some (4, 4) := by kernel_rfl
theorem f_59_3 : fieldP Try.prog 59 3 = some (4, 5) := by kernel_rfl
theorem k_60 : kindT Try.prog 60 = some true := by kernel_rfl
theorem c_60 : Try.prog.cellsOf 60 = 6 := by kernel_rfl
theorem b_60 : Try.prog.bytesOf 60 = 48 := by kernel_rfl
theorem z_60 : tzero Try.prog 60 = some (.agg [.str [], .int .i64 0, .int .i64 0, .int .i64 0, .bool false, .bool false]) := by kernel_rfl
theorem s_60 : structT Try.prog 60 = true := by kernel_rfl
theorem g_60 : goodT Try.prog 60 = true := by kernel_rfl
theorem f_60_0 : fieldP Try.prog 60 0 = some (9, 0) := by kernel_rfl
theorem f_60_1 : fieldP Try.prog 60 1 = some (58, 1) := by kernel_rfl
theorem f_60_2 : fieldP Try.prog 60 2 = some (4, 4) := by kernel_rfl
theorem f_60_3 : fieldP Try.prog 60 3 = some (4, 5) := by kernel_rfl
theorem k_71 : kindT Try.prog 71 = some true := by kernel_rfl
theorem c_71 : Try.prog.cellsOf 71 = 4 := by kernel_rfl
theorem b_71 : Try.prog.bytesOf 71 = 32 := by kernel_rfl
theorem z_71 : tzero Try.prog 71 = some (.agg [.int .i64 0, .int .i64 0, .int .i64 0, .int .i64 0]) := by kernel_rfl
theorem s_71 : structT Try.prog 71 = true := by kernel_rfl
theorem g_71 : goodT Try.prog 71 = true := by kernel_rfl
theorem f_71_0 : fieldP Try.prog 71 0 = some (3, 0) := by kernel_rfl
theorem f_71_1 : fieldP Try.prog 71 1 = some (3, 1) := by kernel_rfl
theorem f_71_2 : fieldP Try.prog 71 2 = some (3, 2) := by kernel_rfl
theorem f_71_3 : fieldP Try.prog 71 3 = some (3, 3) := by kernel_rfl
theorem k_72 : kindT Try.prog 72 = some true := by kernel_rfl
theorem c_72 : Try.prog.cellsOf 72 = 4 := by kernel_rfl
theorem b_72 : Try.prog.bytesOf 72 = 32 := by kernel_rfl
theorem z_72 : tzero Try.prog 72 = some (.agg [.int .i64 0, .int .i64 0, .int .i64 0, .int .i64 0]) := by kernel_rfl
theorem s_72 : structT Try.prog 72 = true := by kernel_rfl
theorem g_72 : goodT Try.prog 72 = true := by kernel_rfl
theorem f_72_0 : fieldP Try.prog 72 0 = some (3, 0) := by kernel_rfl
theorem f_72_1 : fieldP Try.prog 72 1 = some (3, 1) := by kernel_rfl
theorem f_72_2 : fieldP Try.prog 72 2 = some (3, 2) := by kernel_rfl
theorem f_72_3 : fieldP Try.prog 72 3 = some (3, 3) := by kernel_rfl
theorem k_88 : kindT Try.prog 88 = some true := by kernel_rfl
theorem c_88 : Try.prog.cellsOf 88 = 4 := by kernel_rfl
theorem b_88 : Try.prog.bytesOf 88 = 40 := by kernel_rfl
theorem z_88 : tzero Try.prog 88 = some (.agg [.str [], .int .i64 0, .int .i64 0, .int .i64 0]) := by kernel_rfl
theorem s_88 : structT Try.prog 88 = true := by kernel_rfl
theorem g_88 : goodT Try.prog 88 = true := by kernel_rfl
theorem f_88_0 : fieldP Try.prog 88 0 = some (9, 0) := by kernel_rfl
theorem f_88_1 : fieldP Try.prog 88 1 = some (58, 1) := by kernel_rfl
theorem k_89 : kindT Try.prog 89 = some true := by kernel_rfl
theorem c_89 : Try.prog.cellsOf 89 = 4 := by kernel_rfl
theorem b_89 : Try.prog.bytesOf 89 = 40 := by kernel_rfl
theorem z_89 : tzero Try.prog 89 = some (.agg [.str [], .int .i64 0, .int .i64 0, .int .i64 0]) := by kernel_rfl
theorem s_89 : structT Try.prog 89 = true := by kernel_rfl
theorem g_89 : goodT Try.prog 89 = true := by kernel_rfl
theorem f_89_0 : fieldP Try.prog 89 0 = some (9, 0) := by kernel_rfl
theorem f_89_1 : fieldP Try.prog 89 1 = some (58, 1) := by kernel_rfl
theorem k_96 : kindT Try.prog 96 = some true := by kernel_rfl
theorem c_96 : Try.prog.cellsOf 96 = 2 := by kernel_rfl
theorem b_96 : Try.prog.bytesOf 96 = 16 := by kernel_rfl
theorem z_96 : tzero Try.prog 96 = some (.agg [.bool false, .int .i64 0]) := by kernel_rfl
theorem s_96 : structT Try.prog 96 = true := by kernel_rfl
theorem g_96 : goodT Try.prog 96 = true := by kernel_rfl
theorem f_96_0 : fieldP Try.prog 96 0 = some (4, 0) := by kernel_rfl
theorem f_96_1 : fieldP Try.prog 96 1 = some (28, 1) := by kernel_rfl
theorem k_97 : kindT Try.prog 97 = some true := by kernel_rfl
theorem c_97 : Try.prog.cellsOf 97 = 2 := by kernel_rfl
theorem b_97 : Try.prog.bytesOf 97 = 16 := by kernel_rfl
theorem z_97 : tzero Try.prog 97 = some (.agg [.bool false, .int .i64 0]) := by kernel_rfl
theorem s_97 : structT Try.prog 97 = true := by kernel_rfl
theorem g_97 : goodT Try.prog 97 = true := by kernel_rfl
theorem f_97_0 : fieldP Try.prog 97 0 = some (4, 0) := by kernel_rfl
theorem f_97_1 : fieldP Try.prog 97 1 = some (28, 1) := by kernel_rfl
theorem u_119 : Try.prog.underlying 119 = some (.slice 28) := by kernel_rfl
theorem k_119 : kindT Try.prog 119 = some false := by kernel_rfl
theorem c_119 : Try.prog.cellsOf 119 = 1 := by kernel_rfl
theorem b_119 : Try.prog.bytesOf 119 = 24 := by kernel_rfl
theorem z_119 : tzero Try.prog 119 = some (.list .nil []) := by kernel_rfl
theorem g_119 : goodT Try.prog 119 = true := by kernel_rfl
theorem u_121 : Try.prog.underlying 121 = some (.slice 97) := by kernel_rfl
theorem k_121 : kindT Try.prog 121 = some false := by kernel_rfl
theorem c_121 : Try.prog.cellsOf 121 = 1 := by kernel_rfl
theorem b_121 : Try.prog.bytesOf 121 = 24 := by kernel_rfl
theorem z_121 : tzero Try.prog 121 = some (.list .nil []) := by kernel_rfl
theorem g_121 : goodT Try.prog 121 = true := by kernel_rfl
theorem u_127 : Try.prog.underlying 127 = some (.slice 5) := by kernel_rfl
theorem k_127 : kindT Try.prog 127 = some false := by kernel_rfl
theorem c_127 : Try.prog.cellsOf 127 = 1 := by kernel_rfl
theorem b_127 : Try.prog.bytesOf 127 = 24 := by kernel_rfl
theorem z_127 : tzero Try.prog 127 = some (.list .nil []) := by kernel_rfl
theorem g_127 : goodT Try.prog 127 = true := by kernel_rfl
theorem u_131 : Try.prog.underlying 131 = some (.int .u64) := by kernel_rfl
theorem k_131 : kindT Try.prog 131 = some false := by kernel_rfl
theorem c_131 : Try.prog.cellsOf 131 = 1 := by kernel_rfl
theorem b_131 : Try.prog.bytesOf 131 = 8 := by kernel_rfl
theorem z_131 : tzero Try.prog 131 = some (.int .u64 0) := by kernel_rfl
theorem u_135 : Try.prog.underlying 135 = some (.int .u32) := by kernel_rfl
theorem k_135 : kindT Try.prog 135 = some false := by kernel_rfl
theorem c_135 : Try.prog.cellsOf 135 = 1 := by kernel_rfl
theorem b_135 : Try.prog.bytesOf 135 = 4 := by kernel_rfl
theorem z_135 : tzero Try.prog 135 = some (.int .u32 0) := by kernel_rfl
theorem u_138 : Try.prog.underlying 138 = some (.int .u64) := by kernel_rfl
theorem k_138 : kindT Try.prog 138 = some false := by kernel_rfl
theorem c_138 : Try.prog.cellsOf 138 = 1 := by kernel_rfl
theorem b_138 : Try.prog.bytesOf 138 = 8 := by kernel_rfl
theorem z_138 : tzero Try.prog 138 = some (.int .u64 0) := by kernel_rfl
theorem k_142 : kindT Try.prog 142 = some true := by kernel_rfl
theorem c_142 : Try.prog.cellsOf 142 = 4 := by kernel_rfl
theorem b_142 : Try.prog.bytesOf 142 = 40 := by kernel_rfl
theorem z_142 : tzero Try.prog 142 = some (.agg [.nilp, .nilp, .nilp, .str []]) := by kernel_rfl
theorem s_142 : structT Try.prog 142 = true := by kernel_rfl
theorem g_142 : goodT Try.prog 142 = true := by kernel_rfl
theorem f_142_0 : fieldP Try.prog 142 0 = some (17, 0) := by kernel_rfl
theorem f_142_1 : fieldP Try.prog 142 1 = some (17, 1) := by kernel_rfl
theorem f_142_2 : fieldP Try.prog 142 2 = some (17, 2) := by kernel_rfl
theorem f_142_3 : fieldP Try.prog 142 3 = some (9, 3) := by kernel_rfl
theorem k_143 : kindT Try.prog 143 = some true := by kernel_rfl
theorem c_143 : Try.prog.cellsOf 143 = 4 := by kernel_rfl
theorem b_143 : Try.prog.bytesOf 143 = 40 := by kernel_rfl
theorem z_143 : tzero Try.prog 143 = some (.agg [.nilp, .nilp, .nilp, .str []]) := by kernel_rfl
theorem s_143 : structT Try.prog 143 = true := by kernel_rfl
theorem g_143 : goodT Try.prog 143 = true := by kernel_rfl
theorem f_143_0 : fieldP Try.prog 143 0 = some (17, 0) := by kernel_rfl
theorem f_143_1 : fieldP Try.prog 143 1 = some (17, 1) := by kernel_rfl
theorem f_143_2 : fieldP Try.prog 143 2 = some (17, 2) := by kernel_rfl
theorem f_143_3 : fieldP Try.prog 143 3 = some (9, 3) := by kernel_rfl
theorem u_144 : Try.prog.underlying 144 = some (.array 0 16) := by kernel_rfl
theorem k_144 : kindT Try.prog 144 = some true := by kernel_rfl
theorem c_144 : Try.prog.cellsOf 144 = 0 := by kernel_rfl
theorem b_144 : Try.prog.bytesOf 144 = 0 := by kernel_rfl
theorem z_144 : tzero Try.prog 144 = some (.agg []) := by kernel_rfl
theorem g_144 : goodT Try.prog 144 = true := by kernel_rfl
theorem k_145 : kindT Try.prog 145 = some true := by kernel_rfl
theorem c_145 : Try.prog.cellsOf 145 = 0 := by kernel_rfl
theorem b_145 : Try.prog.bytesOf 145 = 0 := by kernel_rfl
theorem z_145 : tzero Try.prog 145 = some (.agg []) := by kernel_rfl
theorem s_145 : structT Try.prog 145 = true := by kernel_rfl
theorem g_145 : goodT Try.prog 145 = true := by kernel_rfl
theorem f_145_0 : fieldP Try.prog 145 0 = some (144, 0) := by kernel_rfl
theorem k_146 : kindT Try.prog 146 = some true := by kernel_rfl
theorem c_146 : Try.prog.cellsOf 146 = 0 := by kernel_rfl
theorem b_146 : Try.prog.bytesOf 146 = 0 := by kernel_rfl
theorem z_146 : tzero Try.prog 146 = some (.agg []) := by kernel_rfl
theorem s_146 : structT Try.prog 146 = true := by kernel_rfl
theorem g_146 : goodT Try.prog 146 = true := by kernel_rfl
theorem f_146_0 : fieldP Try.prog 146 0 = some (144, 0) := by kernel_rfl
theorem u_148 : Try.prog.underlying 148 = some (.int .u8) := by kernel_rfl
theorem k_148 : kindT Try.prog 148 = some false := by kernel_rfl
theorem c_148 : Try.prog.cellsOf 148 = 1 := by kernel_rfl
theorem b_148 : Try.prog.bytesOf 148 = 1 := by kernel_rfl
theorem z_148 : tzero Try.prog 148 = some (.int .u8 0) := by kernel_rfl
theorem u_149 : Try.prog.underlying 149 = some (.int .u8) := by kernel_rfl
theorem k_149 : kindT Try.prog 149 = some false := by kernel_rfl
theorem c_149 : Try.prog.cellsOf 149 = 1 := by kernel_rfl
theorem b_149 : Try.prog.bytesOf 149 = 1 := by kernel_rfl
theorem z_149 : tzero Try.prog 149 = some (.int .u8 0) := by kernel_rfl
theorem u_151 : Try.prog.underlying 151 = some (.pointer 5) := by kernel_rfl
theorem k_151 : kindT Try.prog 151 = some false := by kernel_rfl
theorem c_151 : Try.prog.cellsOf 151 = 1 := by kernel_rfl
theorem b_151 : Try.prog.bytesOf 151 = 8 := by kernel_rfl
theorem z_151 : tzero Try.prog 151 = some (.nilp) := by kernel_rfl
theorem u_152 : Try.prog.underlying 152 = some (.int .i32) := by kernel_rfl
theorem k_152 : kindT Try.prog 152 = some false := by kernel_rfl
theorem c_152 : Try.prog.cellsOf 152 = 1 := by kernel_rfl
theorem b_152 : Try.prog.bytesOf 152 = 4 := by kernel_rfl
theorem z_152 : tzero Try.prog 152 = some (.int .i32 0) := by kernel_rfl
theorem u_153 : Try.prog.underlying 153 = some (.int .i32) := by kernel_rfl
theorem k_153 : kindT Try.prog 153 = some false := by kernel_rfl
theorem c_153 : Try.prog.cellsOf 153 = 1 := by kernel_rfl
theorem b_153 : Try.prog.bytesOf 153 = 4 := by kernel_rfl
theorem z_153 : tzero Try.prog 153 = some (.int .i32 0) := by kernel_rfl
theorem k_154 : kindT Try.prog 154 = some true := by kernel_rfl
theorem c_154 : Try.prog.cellsOf 154 = 11 := by kernel_rfl
theorem b_154 : Try.prog.bytesOf 154 = 48 := by kernel_rfl
theorem z_154 : tzero Try.prog 154 = some (.agg [.int .u64 0, .int .u64 0, .int .u32 0, .int .u8 0, .int .u8 0, .int .u8 0, .int .u8 0, .nilf, .nilp, .int .i32 0, .int .i32 0]) := by kernel_rfl
theorem s_154 : structT Try.prog 154 = true := by kernel_rfl
theorem g_154 : goodT Try.prog 154 = true := by kernel_rfl
theorem f_154_0 : fieldP Try.prog 154 0 = some (12, 0) := by kernel_rfl
theorem f_154_1 : fieldP Try.prog 154 1 = some (12, 1) := by kernel_rfl
theorem f_154_2 : fieldP Try.prog 154 2 = some (135, 2) := by kernel_rfl
theorem f_154_3 : fieldP Try.prog 154 3 = some (148, 3) := by kernel_rfl
theorem f_154_4 : fieldP Try.prog 154 4 = some (5, 4) := by kernel_rfl
theorem f_154_5 : fieldP Try.prog 154 5 = some (5, 5) := by kernel_rfl
theorem f_154_6 : fieldP Try.prog 154 6 = some (149, 6) := by kernel_rfl
theorem f_154_7 : fieldP Try.prog 154 7 = some (150, 7) := by kernel_rfl
theorem f_154_8 : fieldP Try.prog 154 8 = some (151, 8) := by kernel_rfl
theorem f_154_9 : fieldP Try.prog 154 9 = some (152, 9) := by kernel_rfl
theorem f_154_10 : fieldP Try.prog 154 10 = some (153, 10) := by kernel_rfl
theorem k_155 : kindT Try.prog 155 = some true := by kernel_rfl
theorem c_155 : Try.prog.cellsOf 155 = 11 := by kernel_rfl
theorem b_155 : Try.prog.bytesOf 155 = 48 := by kernel_rfl
theorem z_155 : tzero Try.prog 155 = some (.agg [.int .u64 0, .int .u64 0, .int .u32 0, .int .u8 0, .int .u8 0, .int .u8 0, .int .u8 0, .nilf, .nilp, .int .i32 0, .int .i32 0]) := by kernel_rfl
theorem s_155 : structT Try.prog 155 = true := by kernel_rfl
theorem g_155 : goodT Try.prog 155 = true := by kernel_rfl
theorem f_155_0 : fieldP Try.prog 155 0 = some (12, 0) := by kernel_rfl
theorem f_155_1 : fieldP Try.prog 155 1 = some (12, 1) := by kernel_rfl
theorem f_155_2 : fieldP Try.prog 155 2 = some (135, 2) := by kernel_rfl
theorem f_155_3 : fieldP Try.prog 155 3 = some (148, 3) := by kernel_rfl
theorem f_155_4 : fieldP Try.prog 155 4 = some (5, 4) := by kernel_rfl
theorem f_155_5 : fieldP Try.prog 155 5 = some (5, 5) := by kernel_rfl
theorem f_155_6 : fieldP Try.prog 155 6 = some (149, 6) := by kernel_rfl
theorem f_155_7 : fieldP Try.prog 155 7 = some (150, 7) := by kernel_rfl
theorem f_155_8 : fieldP Try.prog 155 8 = some (151, 8) := by kernel_rfl
theorem f_155_9 : fieldP Try.prog 155 9 = some (152, 9) := by kernel_rfl
theorem f_155_10 : fieldP Try.prog 155 10 = some (153, 10) := by kernel_rfl
theorem k_156 : kindT Try.prog 156 = some false := by kernel_rfl
theorem c_156 : Try.prog.cellsOf 156 = 1 := by kernel_rfl
theorem b_156 : Try.prog.bytesOf 156 = 8 := by kernel_rfl
theorem z_156 : tzero Try.prog 156 = some (.nilp) := by kernel_rfl
theorem ok2 : FnOK Try.prog 2 Try.f2 (bodyOf Try.f2) := FnOK.mk' Try.func2 (by kernel_rfl)
theorem rs2 : Try.f2.results = #[] := rfl
theorem ok3 : FnOK Try.prog 3 Try.f3 (bodyOf Try.f3) := FnOK.mk' Try.func3 (by kernel_rfl)
theorem rs3 : Try.f3.results = #[.tmp 4] := rfl
theorem ok4 : FnOK Try.prog 4 Try.f4 (bodyOf Try.f4) := FnOK.mk' Try.func4 (by kernel_rfl)
theorem rs4 : Try.f4.results = #[.tmp 4] := rfl
theorem ok5 : FnOK Try.prog 5 Try.f5 (bodyOf Try.f5) := FnOK.mk' Try.func5 (by kernel_rfl)
theorem rs5 : Try.f5.results = #[.tmp 4] := rfl
theorem ok6 : FnOK Try.prog 6 Try.f6 (bodyOf Try.f6) := FnOK.mk' Try.func6 (by kernel_rfl)
theorem rs6 : Try.f6.results = #[.tmp 4] := rfl
theorem ok7 : FnOK Try.prog 7 Try.f7 (bodyOf Try.f7) := FnOK.mk' Try.func7 (by kernel_rfl)
theorem rs7 : Try.f7.results = #[.tmp 6] := rfl
theorem ok8 : FnOK Try.prog 8 Try.f8 (bodyOf Try.f8) := FnOK.mk' Try.func8 (by kernel_rfl)
theorem rs8 : Try.f8.results = #[.tmp 6] := rfl
theorem ok9 : FnOK Try.prog 9 Try.f9 (bodyOf Try.f9) := FnOK.mk' Try.func9 (by kernel_rfl)
theorem rs9 : Try.f9.results = #[.tmp 6] := rfl
theorem ok10 : FnOK Try.prog 10 Try.f10 (bodyOf Try.f10) := FnOK.mk' Try.func10 (by kernel_rfl)
theorem rs10 : Try.f10.results = #[.tmp 2] := rfl
theorem ok11 : FnOK Try.prog 11 Try.f11 (bodyOf Try.f11) := FnOK.mk' Try.func11 (by kernel_rfl)
theorem rs11 : Try.f11.results = #[.tmp 6] := rfl
theorem ok12 : FnOK Try.prog 12 Try.f12 (bodyOf Try.f12) := FnOK.mk' Try.func12 (by kernel_rfl)
theorem rs12 : Try.f12.results = #[.tmp 0] := rfl
theorem ok13 : FnOK Try.prog 13 Try.f13 (bodyOf Try.f13) := FnOK.mk' Try.func13 (by kernel_rfl)
theorem rs13 : Try.f13.results = #[.tmp 2] := rfl
theorem ok14 : FnOK Try.prog 14 Try.f14 (bodyOf Try.f14) := FnOK.mk' Try.func14 (by kernel_rfl)
theorem rs14 : Try.f14.results = #[.tmp 2] := rfl
theorem ok15 : FnOK Try.prog 15 Try.f15 (bodyOf Try.f15) := FnOK.mk' Try.func15 (by kernel_rfl)
theorem rs15 : Try.f15.results = #[.tmp 4, .tmp 5] := rfl
theorem ok16 : FnOK Try.prog 16 Try.f16 (bodyOf Try.f16) := FnOK.mk' Try.func16 (by kernel_rfl)
theorem rs16 : Try.f16.results = #[.tmp 2] := rfl
theorem ok17 : FnOK Try.prog 17 Try.f17 (bodyOf Try.f17) := FnOK.mk' Try.func17 (by kernel_rfl)
theorem rs17 : Try.f17.results = #[.tmp 2] := rfl
theorem ok18 : FnOK Try.prog 18 Try.f18 (bodyOf Try.f18) := FnOK.mk' Try.func18 (by kernel_rfl)
theorem rs18 : Try.f18.results = #[.tmp 4, .tmp 5] := rfl
theorem ok19 : FnOK Try.prog 19 Try.f19 (bodyOf Try.f19) := FnOK.mk' Try.func19 (by kernel_rfl)
theorem rs19 : Try.f19.results = #[.tmp 2] := rfl
theorem ok20 : FnOK Try.prog 20 Try.f20 (bodyOf Try.f20) := FnOK.mk' Try.func20 (by kernel_rfl)
theorem rs20 : Try.f20.results = #[.tmp 2] := rfl
theorem ok21 : FnOK Try.prog 21 Try.f21 (bodyOf Try.f21) := FnOK.mk' Try.func21 (by kernel_rfl)
theorem rs21 : Try.f21.results = #[.tmp 4] := rfl
theorem ok22 : FnOK Try.prog 22 Try.f22 (bodyOf Try.f22) := FnOK.mk' Try.func22 (by kernel_rfl)
theorem rs22 : Try.f22.results = #[.tmp 4] := rfl
theorem ok23 : FnOK Try.prog 23 Try.f23 (bodyOf Try.f23) := FnOK.mk' Try.func23 (by kernel_rfl)
theorem rs23 : Try.f23.results = #[.tmp 2] := rfl
theorem ok24 : FnOK Try.prog 24 Try.f24 (bodyOf Try.f24) := FnOK.mk' Try.func24 (by kernel_rfl)
theorem rs24 : Try.f24.results = #[.tmp 4, .tmp 5] := rfl
theorem ok25 : FnOK Try.prog 25 Try.f25 (bodyOf Try.f25) := FnOK.mk' Try.func25 (by kernel_rfl)
theorem rs25 : Try.f25.results = #[.cell 2 42] := rfl
theorem ok26 : FnOK Try.prog 26 Try.f26 (bodyOf Try.f26) := FnOK.mk' Try.func26 (by kernel_rfl)
theorem rs26 : Try.f26.results = #[.tmp 4] := rfl
theorem ok27 : FnOK Try.prog 27 Try.f27 (bodyOf Try.f27) := FnOK.mk' Try.func27 (by kernel_rfl)
theorem rs27 : Try.f27.results = #[.tmp 4, .tmp 5] := rfl
theorem ok28 : FnOK Try.prog 28 Try.f28 (bodyOf Try.f28) := FnOK.mk' Try.func28 (by kernel_rfl)
theorem rs28 : Try.f28.results = #[.tmp 4] := rfl
theorem ok29 : FnOK Try.prog 29 Try.f29 (bodyOf Try.f29) := FnOK.mk' Try.func29 (by kernel_rfl)
theorem rs29 : Try.f29.results = #[.tmp 2, .tmp 3] := rfl
theorem ok30 : FnOK Try.prog 30 Try.f30 (bodyOf Try.f30) := FnOK.mk' Try.func30 (by kernel_rfl)
theorem rs30 : Try.f30.results = #[.tmp 2, .tmp 3] := rfl
theorem ok31 : FnOK Try.prog 31 Try.f31 (bodyOf Try.f31) := FnOK.mk' Try.func31 (by kernel_rfl)
theorem rs31 : Try.f31.results = #[.tmp 2, .tmp 3] := rfl
theorem ok32 : FnOK Try.prog 32 Try.f32 (bodyOf Try.f32) := FnOK.mk' Try.func32 (by kernel_rfl)
theorem rs32 : Try.f32.results = #[.tmp 2, .tmp 3] := rfl
theorem ok33 : FnOK Try.prog 33 Try.f33 (bodyOf Try.f33) := FnOK.mk' Try.func33 (by kernel_rfl)
theorem rs33 : Try.f33.results = #[.tmp 4, .tmp 5] := rfl
theorem ok34 : FnOK Try.prog 34 Try.f34 (bodyOf Try.f34) := FnOK.mk' Try.func34 (by kernel_rfl)
theorem rs34 : Try.f34.results = #[.tmp 2] := rfl
theorem ok35 : FnOK Try.prog 35 Try.f35 (bodyOf Try.f35) := FnOK.mk' Try.func35 (by kernel_rfl)
theorem rs35 : Try.f35.results = #[.tmp 4] := rfl
theorem ok36 : FnOK Try.prog 36 Try.f36 (bodyOf Try.f36) := FnOK.mk' Try.func36 (by kernel_rfl)
theorem rs36 : Try.f36.results = #[.tmp 4, .tmp 5] := rfl
theorem ok37 : FnOK Try.prog 37 Try.f37 (bodyOf Try.f37) := FnOK.mk' Try.func37 (by kernel_rfl)
theorem rs37 : Try.f37.results = #[.tmp 2] := rfl
theorem ok38 : FnOK Try.prog 38 Try.f38 (bodyOf Try.f38) := FnOK.mk' Try.func38 (by kernel_rfl)
theorem rs38 : Try.f38.results = #[.tmp 4, .tmp 5] := rfl
theorem ok39 : FnOK Try.prog 39 Try.f39 (bodyOf Try.f39) := FnOK.mk' Try.func39 (by kernel_rfl)
theorem rs39 : Try.f39.results = #[.tmp 6] := rfl
theorem ok40 : FnOK Try.prog 40 Try.f40 (bodyOf Try.f40) := FnOK.mk' Try.func40 (by kernel_rfl)
theorem rs40 : Try.f40.results = #[.cell 4 72, .tmp 5] := rfl
theorem ok41 : FnOK Try.prog 41 Try.f41 (bodyOf Try.f41) := FnOK.mk' Try.func41 (by kernel_rfl)
theorem rs41 : Try.f41.results = #[.tmp 6] := rfl
theorem ok42 : FnOK Try.prog 42 Try.f42 (bodyOf Try.f42) := FnOK.mk' Try.func42 (by kernel_rfl)
theorem rs42 : Try.f42.results = #[.cell 4 72, .tmp 5] := rfl
theorem ok43 : FnOK Try.prog 43 Try.f43 (bodyOf Try.f43) := FnOK.mk' Try.func43 (by kernel_rfl)
theorem rs43 : Try.f43.results = #[.tmp 2, .tmp 3, .tmp 4] := rfl
theorem ok44 : FnOK Try.prog 44 Try.f44 (bodyOf Try.f44) := FnOK.mk' Try.func44 (by kernel_rfl)
theorem rs44 : Try.f44.results = #[.tmp 2, .tmp 3, .tmp 4] := rfl
theorem ok45 : FnOK Try.prog 45 Try.f45 (bodyOf Try.f45) := FnOK.mk' Try.func45 (by kernel_rfl)
theorem rs45 : Try.f45.results = #[.tmp 4, .tmp 5, .tmp 6] := rfl
theorem ok46 : FnOK Try.prog 46 Try.f46 (bodyOf Try.f46) := FnOK.mk' Try.func46 (by kernel_rfl)
theorem rs46 : Try.f46.results = #[.tmp 0] := rfl
theorem ok47 : FnOK Try.prog 47 Try.f47 (bodyOf Try.f47) := FnOK.mk' Try.func47 (by kernel_rfl)
theorem rs47 : Try.f47.results = #[.tmp 6] := rfl
theorem ok48 : FnOK Try.prog 48 Try.f48 (bodyOf Try.f48) := FnOK.mk' Try.func48 (by kernel_rfl)
theorem rs48 : Try.f48.results = #[.tmp 4] := rfl
theorem ok49 : FnOK Try.prog 49 Try.f49 (bodyOf Try.f49) := FnOK.mk' Try.func49 (by kernel_rfl)
theorem rs49 : Try.f49.results = #[.tmp 0] := rfl
theorem ok50 : FnOK Try.prog 50 Try.f50 (bodyOf Try.f50) := FnOK.mk' Try.func50 (by kernel_rfl)
theorem rs50 : Try.f50.results = #[.tmp 0] := rfl
theorem ok51 : FnOK Try.prog 51 Try.f51 (bodyOf Try.f51) := FnOK.mk' Try.func51 (by kernel_rfl)
theorem rs51 : Try.f51.results = #[.cell 4 42] := rfl
theorem ok52 : FnOK Try.prog 52 Try.f52 (bodyOf Try.f52) := FnOK.mk' Try.func52 (by kernel_rfl)
theorem rs52 : Try.f52.results = #[.cell 6 60] := rfl
theorem ok53 : FnOK Try.prog 53 Try.f53 (bodyOf Try.f53) := FnOK.mk' Try.func53 (by kernel_rfl)
theorem rs53 : Try.f53.results = #[.tmp 2] := rfl
theorem ok54 : FnOK Try.prog 54 Try.f54 (bodyOf Try.f54) := FnOK.mk' Try.func54 (by kernel_rfl)
theorem rs54 : Try.f54.results = #[.tmp 2] := rfl
theorem ok55 : FnOK Try.prog 55 Try.f55 (bodyOf Try.f55) := FnOK.mk' Try.func55 (by kernel_rfl)
theorem rs55 : Try.f55.results = #[.tmp 2] := rfl
theorem ok56 : FnOK Try.prog 56 Try.f56 (bodyOf Try.f56) := FnOK.mk' Try.func56 (by kernel_rfl)
theorem rs56 : Try.f56.results = #[.tmp 4, .tmp 5] := rfl
theorem ok57 : FnOK Try.prog 57 Try.f57 (bodyOf Try.f57) := FnOK.mk' Try.func57 (by kernel_rfl)
theorem rs57 : Try.f57.results = #[.tmp 2] := rfl
theorem ok58 : FnOK Try.prog 58 Try.f58 (bodyOf Try.f58) := FnOK.mk' Try.func58 (by kernel_rfl)
theorem rs58 : Try.f58.results = #[.tmp 4] := rfl
theorem ok59 : FnOK Try.prog 59 Try.f59 (bodyOf Try.f59) := FnOK.mk' Try.func59 (by kernel_rfl)
theorem rs59 : Try.f59.results = #[.tmp 4] := rfl
theorem ok60 : FnOK Try.prog 60 Try.f60 (bodyOf Try.f60) := FnOK.mk' Try.func60 (by kernel_rfl)
theorem rs60 : Try.f60.results = #[.tmp 4, .tmp 5] := rfl
theorem ok61 : FnOK Try.prog 61 Try.f61 (bodyOf Try.f61) := FnOK.mk' Try.func61 (by kernel_rfl)
theorem rs61 : Try.f61.results = #[.cell 4 58] := rfl
theorem ok62 : FnOK Try.prog 62 Try.f62 (bodyOf Try.f62) := FnOK.mk' Try.func62 (by kernel_rfl)
theorem rs62 : Try.f62.results = #[.tmp 4] := rfl
theorem ok63 : FnOK Try.prog 63 Try.f63 (bodyOf Try.f63) := FnOK.mk' Try.func63 (by kernel_rfl)
theorem rs63 : Try.f63.results = #[.tmp 4, .tmp 5] := rfl
theorem ok64 : FnOK Try.prog 64 Try.f64 (bodyOf Try.f64) := FnOK.mk' Try.func64 (by kernel_rfl)
theorem rs64 : Try.f64.results = #[.tmp 5] := rfl
theorem ok65 : FnOK Try.prog 65 Try.f65 (bodyOf Try.f65) := FnOK.mk' Try.func65 (by kernel_rfl)
theorem rs65 : Try.f65.results = #[.tmp 4] := rfl
theorem ok66 : FnOK Try.prog 66 Try.f66 (bodyOf Try.f66) := FnOK.mk' Try.func66 (by kernel_rfl)
theorem rs66 : Try.f66.results = #[.tmp 3] := rfl
theorem ok67 : FnOK Try.prog 67 Try.f67 (bodyOf Try.f67) := FnOK.mk' Try.func67 (by kernel_rfl)
theorem rs67 : Try.f67.results = #[.tmp 2] := rfl
theorem ok68 : FnOK Try.prog 68 Try.f68 (bodyOf Try.f68) := FnOK.mk' Try.func68 (by kernel_rfl)
theorem rs68 : Try.f68.results = #[.tmp 4, .tmp 5] := rfl
theorem ok69 : FnOK Try.prog 69 Try.f69 (bodyOf Try.f69) := FnOK.mk' Try.func69 (by kernel_rfl)
theorem rs69 : Try.f69.results = #[.tmp 5] := rfl
theorem ok70 : FnOK Try.prog 70 Try.f70 (bodyOf Try.f70) := FnOK.mk' Try.func70 (by kernel_rfl)
theorem rs70 : Try.f70.results = #[.tmp 4] := rfl
theorem ok71 : FnOK Try.prog 71 Try.f71 (bodyOf Try.f71) := FnOK.mk' Try.func71 (by kernel_rfl)
theorem rs71 : Try.f71.results = #[.tmp 2] := rfl
theorem ok72 : FnOK Try.prog 72 Try.f72 (bodyOf Try.f72) := FnOK.mk' Try.func72 (by kernel_rfl)
theorem rs72 : Try.f72.results = #[.tmp 3] := rfl
theorem ok73 : FnOK Try.prog 73 Try.f73 (bodyOf Try.f73) := FnOK.mk' Try.func73 (by kernel_rfl)
theorem rs73 : Try.f73.results = #[.tmp 2] := rfl
theorem ok74 : FnOK Try.prog 74 Try.f74 (bodyOf Try.f74) := FnOK.mk' Try.func74 (by kernel_rfl)
theorem rs74 : Try.f74.results = #[.tmp 2] := rfl
theorem ok75 : FnOK Try.prog 75 Try.f75 (bodyOf Try.f75) := FnOK.mk' Try.func75 (by kernel_rfl)
theorem rs75 : Try.f75.results = #[.tmp 2] := rfl
theorem ok76 : FnOK Try.prog 76 Try.f76 (bodyOf Try.f76) := FnOK.mk' Try.func76 (by kernel_rfl)
theorem rs76 : Try.f76.results = #[.tmp 2] := rfl
theorem ok77 : FnOK Try.prog 77 Try.f77 (bodyOf Try.f77) := FnOK.mk' Try.func77 (by kernel_rfl)
theorem rs77 : Try.f77.results = #[.tmp 2] := rfl
theorem ok78 : FnOK Try.prog 78 Try.f78 (bodyOf Try.f78) := FnOK.mk' Try.func78 (by kernel_rfl)
theorem rs78 : Try.f78.results = #[.tmp 4] := rfl
theorem ok79 : FnOK Try.prog 79 Try.f79 (bodyOf Try.f79) := FnOK.mk' Try.func79 (by kernel_rfl)
theorem rs79 : Try.f79.results = #[.tmp 4] := rfl
theorem ok80 : FnOK Try.prog 80 Try.f80 (bodyOf Try.f80) := FnOK.mk' Try.func80 (by kernel_rfl)
theorem rs80 : Try.f80.results = #[.tmp 4] := rfl
theorem ok81 : FnOK Try.prog 81 Try.f81 (bodyOf Try.f81) := FnOK.mk' Try.func81 (by kernel_rfl)
theorem rs81 : Try.f81.results = #[.tmp 6] := rfl
theorem ok82 : FnOK Try.prog 82 Try.f82 (bodyOf Try.f82) := FnOK.mk' Try.func82 (by kernel_rfl)
theorem rs82 : Try.f82.results = #[.tmp 6, .tmp 7] := rfl
theorem ok83 : FnOK Try.prog 83 Try.f83 (bodyOf Try.f83) := FnOK.mk' Try.func83 (by kernel_rfl)
theorem rs83 : Try.f83.results = #[.tmp 6] := rfl
theorem ok84 : FnOK Try.prog 84 Try.f84 (bodyOf Try.f84) := FnOK.mk' Try.func84 (by kernel_rfl)
theorem rs84 : Try.f84.results = #[.cell 4 72, .tmp 5] := rfl
theorem ok85 : FnOK Try.prog 85 Try.f85 (bodyOf Try.f85) := FnOK.mk' Try.func85 (by kernel_rfl)
theorem rs85 : Try.f85.results = #[.tmp 6] := rfl
theorem ok86 : FnOK Try.prog 86 Try.f86 (bodyOf Try.f86) := FnOK.mk' Try.func86 (by kernel_rfl)
theorem rs86 : Try.f86.results = #[.tmp 4, .tmp 5, .tmp 6] := rfl
theorem ok87 : FnOK Try.prog 87 Try.f87 (bodyOf Try.f87) := FnOK.mk' Try.func87 (by kernel_rfl)
theorem rs87 : Try.f87.results = #[.tmp 4] := rfl
theorem ok88 : FnOK Try.prog 88 Try.f88 (bodyOf Try.f88) := FnOK.mk' Try.func88 (by kernel_rfl)
theorem rs88 : Try.f88.results = #[.tmp 4] := rfl
theorem ok89 : FnOK Try.prog 89 Try.f89 (bodyOf Try.f89) := FnOK.mk' Try.func89 (by kernel_rfl)
theorem rs89 : Try.f89.results = #[.tmp 2] := rfl
theorem ok90 : FnOK Try.prog 90 Try.f90 (bodyOf Try.f90) := FnOK.mk' Try.func90 (by kernel_rfl)
theorem rs90 : Try.f90.results = #[.tmp 4] := rfl
theorem ok91 : FnOK Try.prog 91 Try.f91 (bodyOf Try.f91) := FnOK.mk' Try.func91 (by kernel_rfl)
theorem rs91 : Try.f91.results = #[.tmp 4] := rfl
theorem ok92 : FnOK Try.prog 92 Try.f92 (bodyOf Try.f92) := FnOK.mk' Try.func92 (by kernel_rfl)
theorem rs92 : Try.f92.results = #[.tmp 4] := rfl
theorem ok93 : FnOK Try.prog 93 Try.f93 (bodyOf Try.f93) := FnOK.mk' Try.func93 (by kernel_rfl)
theorem rs93 : Try.f93.results = #[.tmp 6] := rfl
theorem ok94 : FnOK Try.prog 94 Try.f94 (bodyOf Try.f94) := FnOK.mk' Try.func94 (by kernel_rfl)
theorem rs94 : Try.f94.results = #[.tmp 4] := rfl
theorem ok95 : FnOK Try.prog 95 Try.f95 (bodyOf Try.f95) := FnOK.mk' Try.func95 (by kernel_rfl)
theorem rs95 : Try.f95.results = #[.tmp 4, .tmp 5] := rfl
theorem ok96 : FnOK Try.prog 96 Try.f96 (bodyOf Try.f96) := FnOK.mk' Try.func96 (by kernel_rfl)
theorem rs96 : Try.f96.results = #[.tmp 5] := rfl
theorem ok97 : FnOK Try.prog 97 Try.f97 (bodyOf Try.f97) := FnOK.mk' Try.func97 (by kernel_rfl)
theorem rs97 : Try.f97.results = #[.tmp 4] := rfl
theorem ok98 : FnOK Try.prog 98 Try.f98 (bodyOf Try.f98) := FnOK.mk' Try.func98 (by kernel_rfl)
theorem rs98 : Try.f98.results = #[.tmp 2] := rfl
theorem ok99 : FnOK Try.prog 99 Try.f99 (bodyOf Try.f99) := FnOK.mk' Try.func99 (by kernel_rfl)
theorem rs99 : Try.f99.results = #[.tmp 4] := rfl
theorem ok100 : FnOK Try.prog 100 Try.f100 (bodyOf Try.f100) := FnOK.mk' Try.func100 (by kernel_rfl)
theorem rs100 : Try.f100.results = #[.tmp 4] := rfl
theorem ok101 : FnOK Try.prog 101 Try.f101 (bodyOf Try.f101) := FnOK.mk' Try.func101 (by kernel_rfl)
theorem rs101 : Try.f101.results = #[.tmp 3] := rfl
theorem ok102 : FnOK Try.prog 102 Try.f102 (bodyOf Try.f102) := FnOK.mk' Try.func102 (by kernel_rfl)
theorem rs102 : Try.f102.results = #[.tmp 3] := rfl
theorem ok103 : FnOK Try.prog 103 Try.f103 (bodyOf Try.f103) := FnOK.mk' Try.func103 (by kernel_rfl)
theorem rs103 : Try.f103.results = #[.tmp 3] := rfl
theorem ok104 : FnOK Try.prog 104 Try.f104 (bodyOf Try.f104) := FnOK.mk' Try.func104 (by kernel_rfl)
theorem rs104 : Try.f104.results = #[.tmp 3] := rfl
theorem ok105 : FnOK Try.prog 105 Try.f105 (bodyOf Try.f105) := FnOK.mk' Try.func105 (by kernel_rfl)
theorem rs105 : Try.f105.results = #[.tmp 4, .tmp 5] := rfl
theorem ok106 : FnOK Try.prog 106 Try.f106 (bodyOf Try.f106) := FnOK.mk' Try.func106 (by kernel_rfl)
theorem rs106 : Try.f106.results = #[.tmp 4] := rfl
theorem ok107 : FnOK Try.prog 107 Try.f107 (bodyOf Try.f107) := FnOK.mk' Try.func107 (by kernel_rfl)
theorem rs107 : Try.f107.results = #[.tmp 3] := rfl
theorem ok108 : FnOK Try.prog 108 Try.f108 (bodyOf Try.f108) := FnOK.mk' Try.func108 (by kernel_rfl)
theorem rs108 : Try.f108.results = #[.tmp 2] := rfl
theorem ok109 : FnOK Try.prog 109 Try.f109 (bodyOf Try.f109) := FnOK.mk' Try.func109 (by kernel_rfl)
theorem rs109 : Try.f109.results = #[.tmp 2] := rfl
theorem ok110 : FnOK Try.prog 110 Try.f110 (bodyOf Try.f110) := FnOK.mk' Try.func110 (by kernel_rfl)
theorem rs110 : Try.f110.results = #[.tmp 4, .tmp 5] := rfl
theorem ok111 : FnOK Try.prog 111 Try.f111 (bodyOf Try.f111) := FnOK.mk' Try.func111 (by kernel_rfl)
theorem rs111 : Try.f111.results = #[.tmp 4, .tmp 5] := rfl
attribute [go_sem] u_2 k_2 c_2 b_2 z_2 u_3 k_3 c_3 b_3 z_3 u_4 k_4 c_4 b_4 z_4 u_5 k_5 c_5 b_5 z_5
attribute [go_sem] u_6 k_6 c_6 b_6 z_6 k_7 c_7 b_7 z_7 s_7 g_7 f_7_0 f_7_1 f_7_2 f_7_3 k_8 c_8 b_8 z_8 s_8
attribute [go_sem] g_8 f_8_0 f_8_1 f_8_2 f_8_3 u_9 k_9 c_9 b_9 z_9 u_10 k_10 c_10 b_10 z_10 u_11 k_11 c_11 b_11 z_11
attribute [go_sem] u_12 k_12 c_12 b_12 z_12 k_13 c_13 b_13 z_13 s_13 g_13 f_13_0 f_13_1 k_14 c_14 b_14 z_14 s_14 g_14 f_14_0
attribute [go_sem] f_14_1 u_15 k_15 c_15 b_15 z_15 u_16 k_16 c_16 b_16 z_16 u_17 k_17 c_17 b_17 z_17 k_18 c_18 b_18 z_18
attribute [go_sem] s_18 g_18 f_18_0 k_19 c_19 b_19 z_19 s_19 g_19 f_19_0 u_21 k_21 c_21 b_21 z_21 u_22 k_22 c_22 b_22 z_22
attribute [go_sem] g_22 u_23 k_23 c_23 b_23 z_23 g_23 u_27 k_27 c_27 b_27 z_27 g_27 u_28 k_28 c_28 b_28 z_28 u_40 k_40
attribute [go_sem] c_40 b_40 z_40 g_40 k_41 c_41 b_41 z_41 s_41 g_41 f_41_0 f_41_1 k_42 c_42 b_42 z_42 s_42 g_42 f_42_0 f_42_1
attribute [go_sem] k_57 c_57 b_57 z_57 s_57 g_57 f_57_0 f_57_1 f_57_2 k_58 c_58 b_58 z_58 s_58 g_58 f_58_0 f_58_1 f_58_2 k_59 c_59
attribute [go_sem] b_59 z_59 s_59 g_59 f_59_0 f_59_1 f_59_2 f_59_3 k_60 c_60 b_60 z_60 s_60 g_60 f_60_0 f_60_1 f_60_2 f_60_3 k_71 c_71
attribute [go_sem] b_71 z_71 s_71 g_71 f_71_0 f_71_1 f_71_2 f_71_3 k_72 c_72 b_72 z_72 s_72 g_72 f_72_0 f_72_1 f_72_2 f_72_3 k_88 c_88
attribute [go_sem] b_88 z_88 s_88 g_88 f_88_0 f_88_1 k_89 c_89 b_89 z_89 s_89 g_89 f_89_0 f_89_1 k_96 c_96 b_96 z_96 s_96 g_96
attribute [go_sem] f_96_0 f_96_1 k_97 c_97 b_97 z_97 s_97 g_97 f_97_0 f_97_1 u_119 k_119 c_119 b_119 z_119 g_119 u_121 k_121 c_121 b_121
attribute [go_sem] z_121 g_121 u_127 k_127 c_127 b_127 z_127 g_127 u_131 k_131 c_131 b_131 z_131 u_135 k_135 c_135 b_135 z_135 u_138 k_138
attribute [go_sem] c_138 b_138 z_138 k_142 c_142 b_142 z_142 s_142 g_142 f_142_0 f_142_1 f_142_2 f_142_3 k_143 c_143 b_143 z_143 s_143 g_143 f_143_0
attribute [go_sem] f_143_1 f_143_2 f_143_3 u_144 k_144 c_144 b_144 z_144 g_144 k_145 c_145 b_145 z_145 s_145 g_145 f_145_0 k_146 c_146 b_146 z_146
attribute [go_sem] s_146 g_146 f_146_0 u_148 k_148 c_148 b_148 z_148 u_149 k_149 c_149 b_149 z_149 u_151 k_151 c_151 b_151 z_151 u_152 k_152
attribute [go_sem] c_152 b_152 z_152 u_153 k_153 c_153 b_153 z_153 k_154 c_154 b_154 z_154 s_154 g_154 f_154_0 f_154_1 f_154_2 f_154_3 f_154_4 f_154_5
attribute [go_sem] f_154_6 f_154_7 f_154_8 f_154_9 f_154_10 k_155 c_155 b_155 z_155 s_155 g_155 f_155_0 f_155_1 f_155_2 f_155_3 f_155_4 f_155_5 f_155_6 f_155_7 f_155_8
attribute [go_sem] f_155_9 f_155_10 k_156 c_156 b_156 z_156
end Go.Proofs.Ytloecggdboingaa
namespace Go.Proofs.Ytloecggdboingaa
open Go.RowKit Go.Proofs
set_option linter.unusedVariables false
set_option linter.unusedSimpArgs false
attribute [local irreducible] PPure

theorem p47 (n lo hi : Int) : PPure Try.prog 47 [.int .i64 n, .int .i64 lo, .int .i64 hi] (.bool (!(decide (n < lo) || decide (hi < n)))) := by
  (refine ppure_of_T ok47 (by simp only [List.length_cons, List.length_nil]; decide) ?_; refine t_seq ?_)
  (have hNE := True.intro; have hC := True.intro; repeat' first
    | with_reducible refine k_seq ?_
    | with_reducible refine t_seq ?_
    | with_reducible refine t_reg ?_
    | with_reducible refine t_nil ?_
    | with_reducible refine t_ret ?_
    | ((with_reducible apply t_val); exact rfl; (intro _ _ _ h; cases h); (focus (simp only [go_sem, hNE]; first | done | exact rfl)))
    | ((with_reducible apply t_gval); exact rfl; (focus (simp only [go_sem, hNE]; first | done | exact rfl)); exact rfl; (intro _ _ _ h; cases h); (focus (intro hG; simp only [go_sem, hNE, hG]; first | done | exact rfl))))
  all_goals (apply pend rs47; (focus (simp only [go_sem, *]; first | done | exact rfl)); (focus (simp only [go_sem, *]; first | done | exact rfl | simp_all)))
theorem p81 (n lo hi : Int) : PPure Try.prog 81 [.int .i64 n, .int .i64 lo, .int .i64 hi] (.bool (decide (lo ≤ n) && decide (n ≤ hi))) := by
  (refine ppure_of_T ok81 (by simp only [List.length_cons, List.length_nil]; decide) ?_; refine t_seq ?_)
  (have hNE := True.intro; have hC := True.intro; repeat' first
    | with_reducible refine k_seq ?_
    | with_reducible refine t_seq ?_
    | with_reducible refine t_reg ?_
    | with_reducible refine t_nil ?_
    | with_reducible refine t_ret ?_
    | ((with_reducible apply t_val); exact rfl; (intro _ _ _ h; cases h); (focus (simp only [go_sem, hNE]; first | done | exact rfl)))
    | ((with_reducible apply t_gval); exact rfl; (focus (simp only [go_sem, hNE]; first | done | exact rfl)); exact rfl; (intro _ _ _ h; cases h); (focus (intro hG; simp only [go_sem, hNE, hG]; first | done | exact rfl))))
  all_goals (apply pend rs81; (focus (simp only [go_sem, *]; first | done | exact rfl)); (focus (simp only [go_sem, *]; first | done | exact rfl | simp_all)))
theorem p75 (a b c : Int) : PPure Try.prog 75 [.agg [.int .i64 a, .int .i64 b, .int .i64 c]] (.int .i64 (if (decide (a < 0) || decide (6 < a) || (decide (b < 0) || decide (8 < b)) || (decide (c < 0) || decide (7 < c))) = true then 2 else 0)) := by
  (refine ppure_of_T ok75 (by simp only [List.length_cons, List.length_nil]; decide) ?_; refine t_seq ?_)
  (have hNE := True.intro; have hC := True.intro; repeat' first
    | with_reducible refine k_seq ?_
    | with_reducible refine t_seq ?_
    | with_reducible refine t_reg ?_
    | with_reducible refine t_nil ?_
    | with_reducible refine t_skip ?_
    | with_reducible refine t_ret ?_
    | with_reducible refine k_seq_ret ?_
    | ((with_reducible apply t_val); exact rfl; (intro _ _ _ h; cases h); (focus (simp only [go_sem, hNE]; first | done | exact rfl)))
    | ((with_reducible apply t_callS); (focus (simp only [go_sem, hNE]; first | done | exact rfl)); (focus (simp only [go_sem, hNE]; first | done | exact rfl)); (focus (simp only [go_sem, hNE]; first | done | exact rfl)); (first | exact p47 _ _ _))
    | ((with_reducible apply t_gval); exact rfl; (focus (simp only [go_sem, hNE]; first | done | exact rfl)); exact rfl; (intro _ _ _ h; cases h); (focus (intro hG; simp only [go_sem, hNE, hG]; first | done | exact rfl)))
    | ((with_reducible apply t_gcallS); exact rfl; (focus (simp only [go_sem, hNE]; first | done | exact rfl)); (focus (simp only [go_sem, hNE]; first | done | exact rfl)); (focus (intro hG; simp only [go_sem, hNE, hG]; first | done | exact rfl)); (focus (simp only [go_sem, hNE]; done)); (intro hG; first | exact p47 _ _ _))
    | ((with_reducible apply t_box); (focus (simp only [go_sem, hNE]; first | done | exact rfl)); exact rfl; (focus (simp only [go_sem, hNE]; first | done | exact rfl)))
    | ((with_reducible apply t_cond); (focus (simp only [go_sem, hNE]; first | done | exact rfl)))
    | (with_reducible intro hc; have hC := And.intro hC hc))
  all_goals (apply pend rs75; (focus (simp only [go_sem, *]; first | done | exact rfl)); (focus (simp only [go_sem, *]; first | done | exact rfl | simp_all)))
theorem p99 (a b c a' b' c' : Int) : PPure Try.prog 99 [.agg [.int .i64 a, .int .i64 b, .int .i64 c], .agg [.int .i64 a', .int .i64 b', .int .i64 c']] (.bool (decide (a = a') && decide (b = b'))) := by
  (refine ppure_of_T ok99 (by simp only [List.length_cons, List.length_nil]; decide) ?_; refine t_seq ?_)
  (have hNE := True.intro; have hC := True.intro; repeat' first
    | with_reducible refine k_seq ?_
    | with_reducible refine t_seq ?_
    | with_reducible refine t_reg ?_
    | with_reducible refine t_nil ?_
    | with_reducible refine t_ret ?_
    | ((with_reducible apply t_val); exact rfl; (intro _ _ _ h; cases h); (focus (simp only [go_sem, hNE]; first | done | exact rfl)))
    | ((with_reducible apply t_gval); exact rfl; (focus (simp only [go_sem, hNE]; first | done | exact rfl)); exact rfl; (intro _ _ _ h; cases h); (focus (intro hG; simp only [go_sem, hNE, hG]; first | done | exact rfl)))
    | ((with_reducible apply t_box); (focus (simp only [go_sem, hNE]; first | done | exact rfl)); exact rfl; (focus (simp only [go_sem, hNE]; first | done | exact rfl))))
  all_goals (apply pend rs99; (focus (simp only [go_sem, *]; first | done | exact rfl)); (focus (simp only [go_sem, *]; first | done | exact rfl | simp_all)))
end Go.Proofs.Ytloecggdboingaa
namespace Go.Proofs.Ytloecggdboingaa
open Go.RowKit Go.Proofs
set_option linter.unusedVariables false
set_option linter.unusedSimpArgs false
attribute [local irreducible] PPure

structure Feat where
  (t k r : Int)
  deriving DecidableEq
structure Dum where
  name : List UInt8
  f : Feat
  opt : Bool
  elem : Bool
structure Prc where
  name : List UInt8
  ds : List Dum
structure Act where
  kw : List UInt8
  f : Feat
structure Dst where
  (kind side first second : Int)

def encF (f : Feat) : PV := .agg [.int .i64 f.t, .int .i64 f.k, .int .i64 f.r]
def encD (d : Dum) : PV := .agg [.str d.name, .int .i64 d.f.t, .int .i64 d.f.k, .int .i64 d.f.r, .bool d.opt, .bool d.elem]
def encP (p : Prc) : PV := .agg [.str p.name, .list .any (p.ds.map encD)]
def encA (a : Act) : PV := .agg [.str a.kw, .int .i64 a.f.t, .int .i64 a.f.k, .int .i64 a.f.r]
def encR (r : Bool × Int) : PV := .agg [.bool r.1, .int .i64 r.2]
def encI (n : Int) : PV := .int .i64 n

theorem clD (d : Dum) : closedB false (encD d) = true := rfl
theorem clA (d : Act) : closedB false (encA d) = true := rfl
theorem clR (d : Bool × Int) : closedB false (encR d) = true := rfl
theorem clI (d : Int) : closedB false (encI d) = true := rfl
theorem cl_map {α : Type} {e : α → PV} (he : ∀ x, closedB false (e x) = true) (xs : List α) : xs.all (closedB false ∘ e) = true := by
  rw [List.all_eq_true]; intro x _; exact he x
theorem clDs (xs : List Dum) : xs.all (closedB false ∘ encD) = true := cl_map clD xs
theorem clAs (xs : List Act) : xs.all (closedB false ∘ encA) = true := cl_map clA xs
theorem clRs (xs : List (Bool × Int)) : xs.all (closedB false ∘ encR) = true := cl_map clR xs
theorem clIs (xs : List Int) : xs.all (closedB false ∘ encI) = true := cl_map clI xs
theorem clP (p : Prc) : closedB false (encP p) = true := by simp only [encP, go_sem, clDs]
theorem clPs (xs : List Prc) : xs.all (closedB false ∘ encP) = true := cl_map clP xs
attribute [go_sem] clDs clAs clRs clIs clPs

theorem wdD (xs : List Dum) : widthB 6 (xs.map encD) = true := width_map (e := encD) (fun _ => rfl) xs
theorem wdA (xs : List Act) : widthB 4 (xs.map encA) = true := width_map (e := encA) (fun _ => rfl) xs
theorem wdP (xs : List Prc) : widthB 2 (xs.map encP) = true := width_map (e := encP) (fun _ => rfl) xs
theorem wdI (xs : List Int) : widthB 1 (xs.map encI) = true := width_map (e := encI) (fun _ => rfl) xs
attribute [go_sem] wdD wdA wdP wdI

/-- Where a loop over a list stands. -/
theorem at_list {α : Type} {xs : List α} {i : Nat} (h : i < xs.length) : ∃ x, xs[i]? = some x ∧ xs.drop i = x :: xs.drop (i + 1) :=
  ⟨xs[i], List.getElem?_eq_getElem h, (List.drop_eq_getElem_cons h)⟩
theorem at_end {α : Type} {xs : List α} {i : Nat} (h : ¬ i < xs.length) : xs.drop i = [] := List.drop_eq_nil_of_le (by omega)
theorem lt_int {a b : Nat} (h : a < b) : (a : Int) < (b : Int) := by omega
theorem nlt_int {a b : Nat} (h : ¬ a < b) : ((a : Int) < (b : Int)) = False := by simp; omega
theorem wrap_next {a b : Nat} (h : a < b) (hb : b ≤ 1000) : IntKind.i64.wrap ((a : Int) + 1) = ((a + 1 : Nat) : Int) := by rw [IntKind.wrap_i64]; omega

def broken : List (Bool × Int) → Int
  | [] => 0
  | r :: rest => if r.1 = true then broken rest else r.2
def orE : List Int → Int
  | [] => 0
  | c :: rest => if c = 0 then orE rest else c

theorem p57 (xs : List (Bool × Int)) (hl : xs.length ≤ 1000) : PPure Try.prog 57 [.list .any (xs.map encR)] (.int .i64 (broken xs)) := by
  (refine ppure_of_T ok57 (by simp only [List.length_cons, List.length_nil]; decide) ?_; refine t_seq ?_)
  (have hNE := True.intro; have hC := True.intro; repeat' first
    | with_reducible refine k_seq ?_
    | with_reducible refine t_seq ?_
    | with_reducible refine t_reg ?_
    | with_reducible refine t_nil ?_
    | with_reducible refine t_block ?_
    | ((with_reducible apply t_val); exact rfl; (intro _ _ _ h; cases h); (focus (simp only [go_sem, hNE]; first | done | exact rfl))))
  refine t_loop (fun k s => ∃ i : Nat, i + k = xs.length ∧ broken (xs.drop i) = broken xs ∧ s.env 5 = .list .any (xs.map encR) ∧ s.env 6 = .int .i64 xs.length ∧ s.env 7 = .int .i64 i) xs.length ?_ ?_
  · exact ⟨0, by omega, rfl, by simp only [go_sem, encR]; first | done | rfl, by simp only [go_sem, encR]; first | done | rfl, by simp only [go_sem, encR]; first | done | rfl⟩
  · rintro k s ⟨i, hk, hr, h5, h6, h7⟩
    by_cases hi : i < xs.length
    · obtain ⟨x, hx, hd⟩ := at_list hi
      have hlt := lt_int hi
      have hw := wrap_next hi hl
      have hle := Int.le_of_lt hlt
      rw [hd] at hr
      (have hNE := True.intro; have hC := True.intro; repeat' first
    | with_reducible refine k_seq ?_
    | with_reducible refine t_seq ?_
    | with_reducible refine t_reg ?_
    | with_reducible refine t_nil ?_
    | with_reducible refine t_skip ?_
    | with_reducible refine t_ret ?_
    | with_reducible refine k_seq_ret ?_
    | with_reducible refine k_blk_ret ?_
    | with_reducible refine k_blk ?_
    | with_reducible refine k_inv_ret ?_
    | with_reducible refine t_block ?_
    | ((with_reducible apply t_val); exact rfl; (intro _ _ _ h; cases h); (focus (simp only [go_sem, hNE, encR, h5, h6, h7, hlt, hle, hx, hw]; first | done | exact rfl)))
    | ((with_reducible apply t_alloc); (focus (simp only [go_sem, hNE, encR, h5, h6, h7, hlt, hle, hx, hw]; first | done | exact rfl)); exact rfl; exact rfl; (intro la ha hn1; have hNE := And.intro hNE hn1))
    | ((with_reducible apply t_store); (focus (simp only [go_sem, hNE, encR, h5, h6, h7, hlt, hle, hx, hw]; first | done | exact rfl)); (focus (simp only [go_sem, hNE, encR, h5, h6, h7, hlt, hle, hx, hw]; first | done | exact rfl)); (focus (simp only [go_sem, hNE, encR, h5, h6, h7, hlt, hle, hx, hw]; first | done | exact rfl)); (focus (simp only [go_sem, hNE, encR, h5, h6, h7, hlt, hle, hx, hw]; first | done | exact rfl)); (focus (simp only [go_sem, hNE, encR, h5, h6, h7, hlt, hle, hx, hw]; first | done | exact rfl)); (focus (simp only [go_sem, hNE, encR, h5, h6, h7, hlt, hle, hx, hw]; first | done | exact rfl)))
    | ((with_reducible apply t_cond); (focus (simp only [go_sem, hNE, encR, h5, h6, h7, hlt, hle, hx, hw]; first | done | exact rfl)))
    | (with_reducible intro hc; with_reducible exact Bool.noConfusion hc)
    | (with_reducible intro hc; have hC := And.intro hC hc))
      all_goals (first
          | (apply pend rs57; (focus (simp only [go_sem, encR, h5, h6, h7, hlt, hle, hx, hw]; first | done | exact rfl)); (focus (simp only [go_sem, encR, h5, h6, h7, hlt, hle, hx, hw]; first | done | (rw [← hr]; clear hr; simp_all [broken]))))
          | (apply pendN rs57; (focus (simp only [go_sem, encR, h5, h6, h7, hlt, hle, hx, hw]; first | done | exact rfl)); (focus (simp only [go_sem, encR, h5, h6, h7, hlt, hle, hx, hw]; first | done | (rw [← hr]; clear hr; simp_all [broken]))))
          | (refine k_inv (k - 1) (by omega) ⟨i + 1, by omega, (by first | exact hr | (simpa [broken, hc] using hr) | (simp_all [broken])), by simp only [go_sem, encR, h5, h6, h7, hw]; first | done | rfl, by simp only [go_sem, encR, h5, h6, h7, hw]; first | done | rfl, by simp only [go_sem, encR, h5, h6, h7, hw]; first | done | rfl⟩))
    · have hlt := nlt_int hi
      rw [at_end hi] at hr
      (have hNE := True.intro; have hC := True.intro; repeat' first
    | with_reducible refine k_seq ?_
    | with_reducible refine t_seq ?_
    | with_reducible refine t_reg ?_
    | with_reducible refine t_nil ?_
    | with_reducible refine t_ret ?_
    | with_reducible refine t_exit ?_
    | with_reducible refine k_seq_exit ?_
    | with_reducible refine k_blk_exit ?_
    | with_reducible refine k_inv_exit ?_
    | ((with_reducible apply t_val); exact rfl; (intro _ _ _ h; cases h); (focus (simp only [go_sem, hNE, encR, h5, h6, h7, hlt]; first | done | exact rfl)))
    | ((with_reducible apply t_cond); (focus (simp only [go_sem, hNE, encR, h5, h6, h7, hlt]; first | done | exact rfl)))
    | (with_reducible intro hc; with_reducible exact Bool.noConfusion hc)
    | (with_reducible intro hc; have hC := And.intro hC hc))
      all_goals (first
          | (apply pend rs57; (focus (simp only [go_sem, encR, h5, h6, h7, hlt]; first | done | exact rfl)); (focus (simp only [go_sem, encR, h5, h6, h7, hlt]; first | done | (rw [← hr]; clear hr; simp_all [broken]))))
          | (apply pendN rs57; (focus (simp only [go_sem, encR, h5, h6, h7, hlt]; first | done | exact rfl)); (focus (simp only [go_sem, encR, h5, h6, h7, hlt]; first | done | (rw [← hr]; clear hr; simp_all [broken]))))
          | (refine k_inv (k - 1) (by omega) ⟨i + 1, by omega, (by first | exact hr | (simpa [broken, hc] using hr) | (simp_all [broken])), by simp only [go_sem, encR, h5, h6, h7, hw]; first | done | rfl, by simp only [go_sem, encR, h5, h6, h7, hw]; first | done | rfl, by simp only [go_sem, encR, h5, h6, h7, hw]; first | done | rfl⟩))
theorem p53 (xs : List Int) (hl : xs.length ≤ 1000) : PPure Try.prog 53 [.list .any (xs.map encI)] (.int .i64 (orE xs)) := by
  (refine ppure_of_T ok53 (by simp only [List.length_cons, List.length_nil]; decide) ?_; refine t_seq ?_)
  (have hNE := True.intro; have hC := True.intro; repeat' first
    | with_reducible refine k_seq ?_
    | with_reducible refine t_seq ?_
    | with_reducible refine t_reg ?_
    | with_reducible refine t_nil ?_
    | with_reducible refine t_block ?_
    | ((with_reducible apply t_val); exact rfl; (intro _ _ _ h; cases h); (focus (simp only [go_sem, hNE]; first | done | exact rfl))))
  refine t_loop (fun k s => ∃ i : Nat, i + k = xs.length ∧ orE (xs.drop i) = orE xs ∧ s.env 3 = .int .i64 0 ∧ s.env 6 = .list .any (xs.map encI) ∧ s.env 7 = .int .i64 xs.length ∧ s.env 8 = .int .i64 i) xs.length ?_ ?_
  · exact ⟨0, by omega, rfl, by simp only [go_sem, encI]; first | done | rfl, by simp only [go_sem, encI]; first | done | rfl, by simp only [go_sem, encI]; first | done | rfl, by simp only [go_sem, encI]; first | done | rfl⟩
  · rintro k s ⟨i, hk, hr, h3, h6, h7, h8⟩
    by_cases hi : i < xs.length
    · obtain ⟨x, hx, hd⟩ := at_list hi
      have hlt := lt_int hi
      have hw := wrap_next hi hl
      have hle := Int.le_of_lt hlt
      rw [hd] at hr
      (have hNE := True.intro; have hC := True.intro; repeat' first
    | with_reducible refine k_seq ?_
    | with_reducible refine t_seq ?_
    | with_reducible refine t_reg ?_
    | with_reducible refine t_nil ?_
    | with_reducible refine t_skip ?_
    | with_reducible refine t_ret ?_
    | with_reducible refine k_seq_ret ?_
    | with_reducible refine k_blk_ret ?_
    | with_reducible refine k_blk ?_
    | with_reducible refine k_inv_ret ?_
    | with_reducible refine t_block ?_
    | ((with_reducible apply t_val); exact rfl; (intro _ _ _ h; cases h); (focus (simp only [go_sem, hNE, encI, h3, h6, h7, h8, hlt, hle, hx, hw]; first | done | exact rfl)))
    | ((with_reducible apply t_cond); (focus (simp only [go_sem, hNE, encI, h3, h6, h7, h8, hlt, hle, hx, hw]; first | done | exact rfl)))
    | (with_reducible intro hc; with_reducible exact Bool.noConfusion hc)
    | (with_reducible intro hc; have hC := And.intro hC hc))
      all_goals (first
          | (apply pend rs53; (focus (simp only [go_sem, encI, h3, h6, h7, h8, hlt, hle, hx, hw]; first | done | exact rfl)); (focus (simp only [go_sem, encI, h3, h6, h7, h8, hlt, hle, hx, hw]; first | done | (rw [← hr]; clear hr; simp_all [orE]))))
          | (apply pendN rs53; (focus (simp only [go_sem, encI, h3, h6, h7, h8, hlt, hle, hx, hw]; first | done | exact rfl)); (focus (simp only [go_sem, encI, h3, h6, h7, h8, hlt, hle, hx, hw]; first | done | (rw [← hr]; clear hr; simp_all [orE]))))
          | (refine k_inv (k - 1) (by omega) ⟨i + 1, by omega, (by first | exact hr | (simpa [orE, hc] using hr) | (simp_all [orE])), by simp only [go_sem, encI, h3, h6, h7, h8, hw]; first | done | rfl, by simp only [go_sem, encI, h3, h6, h7, h8, hw]; first | done | rfl, by simp only [go_sem, encI, h3, h6, h7, h8, hw]; first | done | rfl, by simp only [go_sem, encI, h3, h6, h7, h8, hw]; first | done | rfl⟩))
    · have hlt := nlt_int hi
      rw [at_end hi] at hr
      (have hNE := True.intro; have hC := True.intro; repeat' first
    | with_reducible refine k_seq ?_
    | with_reducible refine t_seq ?_
    | with_reducible refine t_reg ?_
    | with_reducible refine t_nil ?_
    | with_reducible refine t_ret ?_
    | with_reducible refine t_exit ?_
    | with_reducible refine k_seq_exit ?_
    | with_reducible refine k_blk_exit ?_
    | with_reducible refine k_inv_exit ?_
    | ((with_reducible apply t_val); exact rfl; (intro _ _ _ h; cases h); (focus (simp only [go_sem, hNE, encI, h3, h6, h7, h8, hlt]; first | done | exact rfl)))
    | ((with_reducible apply t_cond); (focus (simp only [go_sem, hNE, encI, h3, h6, h7, h8, hlt]; first | done | exact rfl)))
    | (with_reducible intro hc; with_reducible exact Bool.noConfusion hc)
    | (with_reducible intro hc; have hC := And.intro hC hc))
      all_goals (first
          | (apply pend rs53; (focus (simp only [go_sem, encI, h3, h6, h7, h8, hlt]; first | done | exact rfl)); (focus (simp only [go_sem, encI, h3, h6, h7, h8, hlt]; first | done | (rw [← hr]; clear hr; simp_all [orE]))))
          | (apply pendN rs53; (focus (simp only [go_sem, encI, h3, h6, h7, h8, hlt]; first | done | exact rfl)); (focus (simp only [go_sem, encI, h3, h6, h7, h8, hlt]; first | done | (rw [← hr]; clear hr; simp_all [orE]))))
          | (refine k_inv (k - 1) (by omega) ⟨i + 1, by omega, (by first | exact hr | (simpa [orE, hc] using hr) | (simp_all [orE])), by simp only [go_sem, encI, h3, h6, h7, h8, hw]; first | done | rfl, by simp only [go_sem, encI, h3, h6, h7, h8, hw]; first | done | rfl, by simp only [go_sem, encI, h3, h6, h7, h8, hw]; first | done | rfl, by simp only [go_sem, encI, h3, h6, h7, h8, hw]; first | done | rfl⟩))
theorem p57_1 (a : Bool) (n : Int) : PPure Try.prog 57 [.list .any [.agg [.bool a, .int .i64 n]]] (.int .i64 (broken [(a, n)])) := p57 [(a, n)] (by simp)
theorem p57_2 (a b : Bool) (n m : Int) : PPure Try.prog 57 [.list .any [.agg [.bool a, .int .i64 n], .agg [.bool b, .int .i64 m]]] (.int .i64 (broken [(a, n), (b, m)])) := p57 [(a, n), (b, m)] (by simp)
theorem p57_3 (a b c : Bool) (n m k : Int) : PPure Try.prog 57 [.list .any [.agg [.bool a, .int .i64 n], .agg [.bool b, .int .i64 m], .agg [.bool c, .int .i64 k]]] (.int .i64 (broken [(a, n), (b, m), (c, k)])) := p57 [(a, n), (b, m), (c, k)] (by simp)
theorem p53_2 (n m : Int) : PPure Try.prog 53 [.list .any [.int .i64 n, .int .i64 m]] (.int .i64 (orE [n, m])) := p53 [n, m] (by simp)
theorem p53_3 (n m k : Int) : PPure Try.prog 53 [.list .any [.int .i64 n, .int .i64 m, .int .i64 k]] (.int .i64 (orE [n, m, k])) := p53 [n, m, k] (by simp)
end Go.Proofs.Ytloecggdboingaa
namespace Go.Proofs.Ytloecggdboingaa
open Go.RowKit Go.Proofs
set_option linter.unusedVariables false
set_option linter.unusedSimpArgs false
attribute [local irreducible] PPure

/-- The first index of what is so; -1: none. -/
def idx {α : Type} (g : α → Bool) : List α → Int → Int
  | [], _ => -1
  | x :: r, i => if g x = true then i else idx g r (i + 1)
def firstBad {α : Type} (g : Nat → α → Int) : List α → Nat → Int × Int
  | [], _ => (0, 0)
  | x :: r, i => if g i x = 0 then firstBad g r (i + 1) else ((i : Int), g i x)
def capsOK (caps : List PV) : Prop := caps.all (closedB false) = true ∧ ∀ H, caps.mapM (norm false H 8) = some caps
theorem capsOK_of {caps : List PV} (h : caps.all (closedB false) = true) : capsOK caps := ⟨h, fun H => norm_ok h⟩

theorem p106 (ds : List Dum) (f : Nat) (caps : List PV) (g : Dum → Bool) (hl : ds.length ≤ 1000) (hcap : capsOK caps) (hg : ∀ d, PPure Try.prog f (encD d :: caps) (.bool (g d))) :
    PPure Try.prog 106 [.list .any (ds.map encD), .fn f caps] (.int .i64 (idx g ds 0)) := by
  obtain ⟨hcl, hnc⟩ := hcap
  (refine ppure_of_T ok106 (by simp only [List.length_cons, List.length_nil]; decide) ?_; refine t_seq ?_)
  (have hNE := True.intro; have hC := True.intro; repeat' first
    | with_reducible refine k_seq ?_
    | with_reducible refine t_seq ?_
    | with_reducible refine t_reg ?_
    | with_reducible refine t_nil ?_
    | with_reducible refine t_block ?_
    | ((with_reducible apply t_val); exact rfl; (intro _ _ _ h; cases h); (focus (simp only [go_sem, hNE]; first | done | exact rfl))))
  refine t_loop (fun k s => ∃ i : Nat, i + k = ds.length ∧ idx g (ds.drop i) i = idx g ds 0 ∧ s.env 0 = .list .any (ds.map encD) ∧ s.env 1 = .fn f caps ∧ s.env 7 = .int .i64 ds.length ∧ s.env 8 = .int .i64 i) ds.length ?_ ?_
  · exact ⟨0, by omega, rfl, by simp only [go_sem, encD, hcl, hnc]; first | done | rfl, by simp only [go_sem, encD, hcl, hnc]; first | done | rfl, by simp only [go_sem, encD, hcl, hnc]; first | done | rfl, by simp only [go_sem, encD, hcl, hnc]; first | done | rfl⟩
  · rintro k s ⟨i, hk, hr, h0, h1, h7, h8⟩
    by_cases hi : i < ds.length
    · obtain ⟨x, hx, hd⟩ := at_list hi
      have hlt := lt_int hi
      have hw := wrap_next hi hl
      have hle := Int.le_of_lt hlt
      rw [hd] at hr
      (have hNE := True.intro; have hC := True.intro; repeat' first
    | with_reducible refine k_seq ?_
    | with_reducible refine t_seq ?_
    | with_reducible refine t_reg ?_
    | with_reducible refine t_nil ?_
    | with_reducible refine t_skip ?_
    | with_reducible refine t_ret ?_
    | with_reducible refine k_seq_ret ?_
    | with_reducible refine k_blk_ret ?_
    | with_reducible refine k_blk ?_
    | with_reducible refine k_inv_ret ?_
    | with_reducible refine t_block ?_
    | ((with_reducible apply t_val); exact rfl; (intro _ _ _ h; cases h); (focus (simp only [go_sem, hNE, encD, hcl, hnc, h0, h1, h7, h8, hlt, hle, hx, hw]; first | done | exact rfl)))
    | ((with_reducible apply t_callS); (focus (simp only [go_sem, hNE, encD, hcl, hnc, h0, h1, h7, h8, hlt, hle, hx, hw]; first | done | exact rfl)); (focus (simp only [go_sem, hNE, encD, hcl, hnc, h0, h1, h7, h8, hlt, hle, hx, hw]; first | done | exact rfl)); (focus (simp only [go_sem, hNE, encD, hcl, hnc, h0, h1, h7, h8, hlt, hle, hx, hw]; first | done | exact rfl)); (first | exact hg x))
    | ((with_reducible apply t_cond); (focus (simp only [go_sem, hNE, encD, hcl, hnc, h0, h1, h7, h8, hlt, hle, hx, hw]; first | done | exact rfl)))
    | (with_reducible intro hc; with_reducible exact Bool.noConfusion hc)
    | (with_reducible intro hc; have hC := And.intro hC hc))
      all_goals (first
          | (apply pend rs106; (focus (simp only [go_sem, encD, hcl, hnc, h0, h1, h7, h8, hlt, hle, hx, hw]; first | done | exact rfl)); (focus (simp only [go_sem, encD, hcl, hnc, h0, h1, h7, h8, hlt, hle, hx, hw]; first | done | (rw [← hr]; clear hr; simp_all [idx]))))
          | (apply pendN rs106; (focus (simp only [go_sem, encD, hcl, hnc, h0, h1, h7, h8, hlt, hle, hx, hw]; first | done | exact rfl)); (focus (simp only [go_sem, encD, hcl, hnc, h0, h1, h7, h8, hlt, hle, hx, hw]; first | done | (rw [← hr]; clear hr; simp_all [idx]))))
          | (refine k_inv (k - 1) (by omega) ⟨i + 1, by omega, (by first | exact hr | (simpa [idx, hc] using hr) | (simp_all [idx])), by simp only [go_sem, encD, hcl, hnc, h0, h1, h7, h8, hw]; first | done | rfl, by simp only [go_sem, encD, hcl, hnc, h0, h1, h7, h8, hw]; first | done | rfl, by simp only [go_sem, encD, hcl, hnc, h0, h1, h7, h8, hw]; first | done | rfl, by simp only [go_sem, encD, hcl, hnc, h0, h1, h7, h8, hw]; first | done | rfl⟩))
    · have hlt := nlt_int hi
      rw [at_end hi] at hr
      (have hNE := True.intro; have hC := True.intro; repeat' first
    | with_reducible refine k_seq ?_
    | with_reducible refine t_seq ?_
    | with_reducible refine t_reg ?_
    | with_reducible refine t_nil ?_
    | with_reducible refine t_ret ?_
    | with_reducible refine t_exit ?_
    | with_reducible refine k_seq_exit ?_
    | with_reducible refine k_blk_exit ?_
    | with_reducible refine k_inv_exit ?_
    | ((with_reducible apply t_val); exact rfl; (intro _ _ _ h; cases h); (focus (simp only [go_sem, hNE, encD, hcl, hnc, h0, h1, h7, h8, hlt]; first | done | exact rfl)))
    | ((with_reducible apply t_cond); (focus (simp only [go_sem, hNE, encD, hcl, hnc, h0, h1, h7, h8, hlt]; first | done | exact rfl)))
    | (with_reducible intro hc; with_reducible exact Bool.noConfusion hc)
    | (with_reducible intro hc; have hC := And.intro hC hc))
      all_goals (first
          | (apply pend rs106; (focus (simp only [go_sem, encD, hcl, hnc, h0, h1, h7, h8, hlt]; first | done | exact rfl)); (focus (simp only [go_sem, encD, hcl, hnc, h0, h1, h7, h8, hlt]; first | done | (rw [← hr]; clear hr; simp_all [idx]))))
          | (apply pendN rs106; (focus (simp only [go_sem, encD, hcl, hnc, h0, h1, h7, h8, hlt]; first | done | exact rfl)); (focus (simp only [go_sem, encD, hcl, hnc, h0, h1, h7, h8, hlt]; first | done | (rw [← hr]; clear hr; simp_all [idx]))))
          | (refine k_inv (k - 1) (by omega) ⟨i + 1, by omega, (by first | exact hr | (simpa [idx, hc] using hr) | (simp_all [idx])), by simp only [go_sem, encD, hcl, hnc, h0, h1, h7, h8, hw]; first | done | rfl, by simp only [go_sem, encD, hcl, hnc, h0, h1, h7, h8, hw]; first | done | rfl, by simp only [go_sem, encD, hcl, hnc, h0, h1, h7, h8, hw]; first | done | rfl, by simp only [go_sem, encD, hcl, hnc, h0, h1, h7, h8, hw]; first | done | rfl⟩))
theorem p94 (ds : List Prc) (f : Nat) (caps : List PV) (g : Prc → Bool) (hl : ds.length ≤ 1000) (hcap : capsOK caps) (hg : ∀ d, PPure Try.prog f (encP d :: caps) (.bool (g d))) :
    PPure Try.prog 94 [.list .any (ds.map encP), .fn f caps] (.int .i64 (idx g ds 0)) := by
  obtain ⟨hcl, hnc⟩ := hcap
  (refine ppure_of_T ok94 (by simp only [List.length_cons, List.length_nil]; decide) ?_; refine t_seq ?_)
  (have hNE := True.intro; have hC := True.intro; repeat' first
    | with_reducible refine k_seq ?_
    | with_reducible refine t_seq ?_
    | with_reducible refine t_reg ?_
    | with_reducible refine t_nil ?_
    | with_reducible refine t_block ?_
    | ((with_reducible apply t_val); exact rfl; (intro _ _ _ h; cases h); (focus (simp only [go_sem, hNE]; first | done | exact rfl))))
  refine t_loop (fun k s => ∃ i : Nat, i + k = ds.length ∧ idx g (ds.drop i) i = idx g ds 0 ∧ s.env 0 = .list .any (ds.map encP) ∧ s.env 1 = .fn f caps ∧ s.env 7 = .int .i64 ds.length ∧ s.env 8 = .int .i64 i) ds.length ?_ ?_
  · exact ⟨0, by omega, rfl, by simp only [go_sem, encP, hcl, hnc]; first | done | rfl, by simp only [go_sem, encP, hcl, hnc]; first | done | rfl, by simp only [go_sem, encP, hcl, hnc]; first | done | rfl, by simp only [go_sem, encP, hcl, hnc]; first | done | rfl⟩
  · rintro k s ⟨i, hk, hr, h0, h1, h7, h8⟩
    by_cases hi : i < ds.length
    · obtain ⟨x, hx, hd⟩ := at_list hi
      have hlt := lt_int hi
      have hw := wrap_next hi hl
      have hle := Int.le_of_lt hlt
      rw [hd] at hr
      (have hNE := True.intro; have hC := True.intro; repeat' first
    | with_reducible refine k_seq ?_
    | with_reducible refine t_seq ?_
    | with_reducible refine t_reg ?_
    | with_reducible refine t_nil ?_
    | with_reducible refine t_skip ?_
    | with_reducible refine t_ret ?_
    | with_reducible refine k_seq_ret ?_
    | with_reducible refine k_blk_ret ?_
    | with_reducible refine k_blk ?_
    | with_reducible refine k_inv_ret ?_
    | with_reducible refine t_block ?_
    | ((with_reducible apply t_val); exact rfl; (intro _ _ _ h; cases h); (focus (simp only [go_sem, hNE, encP, hcl, hnc, h0, h1, h7, h8, hlt, hle, hx, hw]; first | done | exact rfl)))
    | ((with_reducible apply t_callS); (focus (simp only [go_sem, hNE, encP, hcl, hnc, h0, h1, h7, h8, hlt, hle, hx, hw]; first | done | exact rfl)); (focus (simp only [go_sem, hNE, encP, hcl, hnc, h0, h1, h7, h8, hlt, hle, hx, hw]; first | done | exact rfl)); (focus (simp only [go_sem, hNE, encP, hcl, hnc, h0, h1, h7, h8, hlt, hle, hx, hw]; first | done | exact rfl)); (first | exact hg x))
    | ((with_reducible apply t_cond); (focus (simp only [go_sem, hNE, encP, hcl, hnc, h0, h1, h7, h8, hlt, hle, hx, hw]; first | done | exact rfl)))
    | (with_reducible intro hc; with_reducible exact Bool.noConfusion hc)
    | (with_reducible intro hc; have hC := And.intro hC hc))
      all_goals (first
          | (apply pend rs94; (focus (simp only [go_sem, encP, hcl, hnc, h0, h1, h7, h8, hlt, hle, hx, hw]; first | done | exact rfl)); (focus (simp only [go_sem, encP, hcl, hnc, h0, h1, h7, h8, hlt, hle, hx, hw]; first | done | (rw [← hr]; clear hr; simp_all [idx]))))
          | (apply pendN rs94; (focus (simp only [go_sem, encP, hcl, hnc, h0, h1, h7, h8, hlt, hle, hx, hw]; first | done | exact rfl)); (focus (simp only [go_sem, encP, hcl, hnc, h0, h1, h7, h8, hlt, hle, hx, hw]; first | done | (rw [← hr]; clear hr; simp_all [idx]))))
          | (refine k_inv (k - 1) (by omega) ⟨i + 1, by omega, (by first | exact hr | (simpa [idx, hc] using hr) | (simp_all [idx])), by simp only [go_sem, encP, hcl, hnc, h0, h1, h7, h8, hw]; first | done | rfl, by simp only [go_sem, encP, hcl, hnc, h0, h1, h7, h8, hw]; first | done | rfl, by simp only [go_sem, encP, hcl, hnc, h0, h1, h7, h8, hw]; first | done | rfl, by simp only [go_sem, encP, hcl, hnc, h0, h1, h7, h8, hw]; first | done | rfl⟩))
    · have hlt := nlt_int hi
      rw [at_end hi] at hr
      (have hNE := True.intro; have hC := True.intro; repeat' first
    | with_reducible refine k_seq ?_
    | with_reducible refine t_seq ?_
    | with_reducible refine t_reg ?_
    | with_reducible refine t_nil ?_
    | with_reducible refine t_ret ?_
    | with_reducible refine t_exit ?_
    | with_reducible refine k_seq_exit ?_
    | with_reducible refine k_blk_exit ?_
    | with_reducible refine k_inv_exit ?_
    | ((with_reducible apply t_val); exact rfl; (intro _ _ _ h; cases h); (focus (simp only [go_sem, hNE, encP, hcl, hnc, h0, h1, h7, h8, hlt]; first | done | exact rfl)))
    | ((with_reducible apply t_cond); (focus (simp only [go_sem, hNE, encP, hcl, hnc, h0, h1, h7, h8, hlt]; first | done | exact rfl)))
    | (with_reducible intro hc; with_reducible exact Bool.noConfusion hc)
    | (with_reducible intro hc; have hC := And.intro hC hc))
      all_goals (first
          | (apply pend rs94; (focus (simp only [go_sem, encP, hcl, hnc, h0, h1, h7, h8, hlt]; first | done | exact rfl)); (focus (simp only [go_sem, encP, hcl, hnc, h0, h1, h7, h8, hlt]; first | done | (rw [← hr]; clear hr; simp_all [idx]))))
          | (apply pendN rs94; (focus (simp only [go_sem, encP, hcl, hnc, h0, h1, h7, h8, hlt]; first | done | exact rfl)); (focus (simp only [go_sem, encP, hcl, hnc, h0, h1, h7, h8, hlt]; first | done | (rw [← hr]; clear hr; simp_all [idx]))))
          | (refine k_inv (k - 1) (by omega) ⟨i + 1, by omega, (by first | exact hr | (simpa [idx, hc] using hr) | (simp_all [idx])), by simp only [go_sem, encP, hcl, hnc, h0, h1, h7, h8, hw]; first | done | rfl, by simp only [go_sem, encP, hcl, hnc, h0, h1, h7, h8, hw]; first | done | rfl, by simp only [go_sem, encP, hcl, hnc, h0, h1, h7, h8, hw]; first | done | rfl, by simp only [go_sem, encP, hcl, hnc, h0, h1, h7, h8, hw]; first | done | rfl⟩))
theorem p97 (ds : List Act) (f : Nat) (caps : List PV) (g : Act → Bool) (hl : ds.length ≤ 1000) (hcap : capsOK caps) (hg : ∀ d, PPure Try.prog f (encA d :: caps) (.bool (g d))) :
    PPure Try.prog 97 [.list .any (ds.map encA), .fn f caps] (.int .i64 (idx g ds 0)) := by
  obtain ⟨hcl, hnc⟩ := hcap
  (refine ppure_of_T ok97 (by simp only [List.length_cons, List.length_nil]; decide) ?_; refine t_seq ?_)
  (have hNE := True.intro; have hC := True.intro; repeat' first
    | with_reducible refine k_seq ?_
    | with_reducible refine t_seq ?_
    | with_reducible refine t_reg ?_
    | with_reducible refine t_nil ?_
    | with_reducible refine t_block ?_
    | ((with_reducible apply t_val); exact rfl; (intro _ _ _ h; cases h); (focus (simp only [go_sem, hNE]; first | done | exact rfl))))
  refine t_loop (fun k s => ∃ i : Nat, i + k = ds.length ∧ idx g (ds.drop i) i = idx g ds 0 ∧ s.env 0 = .list .any (ds.map encA) ∧ s.env 1 = .fn f caps ∧ s.env 7 = .int .i64 ds.length ∧ s.env 8 = .int .i64 i) ds.length ?_ ?_
  · exact ⟨0, by omega, rfl, by simp only [go_sem, encA, hcl, hnc]; first | done | rfl, by simp only [go_sem, encA, hcl, hnc]; first | done | rfl, by simp only [go_sem, encA, hcl, hnc]; first | done | rfl, by simp only [go_sem, encA, hcl, hnc]; first | done | rfl⟩
  · rintro k s ⟨i, hk, hr, h0, h1, h7, h8⟩
    by_cases hi : i < ds.length
    · obtain ⟨x, hx, hd⟩ := at_list hi
      have hlt := lt_int hi
      have hw := wrap_next hi hl
      have hle := Int.le_of_lt hlt
      rw [hd] at hr
      (have hNE := True.intro; have hC := True.intro; repeat' first
    | with_reducible refine k_seq ?_
    | with_reducible refine t_seq ?_
    | with_reducible refine t_reg ?_
    | with_reducible refine t_nil ?_
    | with_reducible refine t_skip ?_
    | with_reducible refine t_ret ?_
    | with_reducible refine k_seq_ret ?_
    | with_reducible refine k_blk_ret ?_
    | with_reducible refine k_blk ?_
    | with_reducible refine k_inv_ret ?_
    | with_reducible refine t_block ?_
    | ((with_reducible apply t_val); exact rfl; (intro _ _ _ h; cases h); (focus (simp only [go_sem, hNE, encA, hcl, hnc, h0, h1, h7, h8, hlt, hle, hx, hw]; first | done | exact rfl)))
    | ((with_reducible apply t_callS); (focus (simp only [go_sem, hNE, encA, hcl, hnc, h0, h1, h7, h8, hlt, hle, hx, hw]; first | done | exact rfl)); (focus (simp only [go_sem, hNE, encA, hcl, hnc, h0, h1, h7, h8, hlt, hle, hx, hw]; first | done | exact rfl)); (focus (simp only [go_sem, hNE, encA, hcl, hnc, h0, h1, h7, h8, hlt, hle, hx, hw]; first | done | exact rfl)); (first | exact hg x))
    | ((with_reducible apply t_cond); (focus (simp only [go_sem, hNE, encA, hcl, hnc, h0, h1, h7, h8, hlt, hle, hx, hw]; first | done | exact rfl)))
    | (with_reducible intro hc; with_reducible exact Bool.noConfusion hc)
    | (with_reducible intro hc; have hC := And.intro hC hc))
      all_goals (first
          | (apply pend rs97; (focus (simp only [go_sem, encA, hcl, hnc, h0, h1, h7, h8, hlt, hle, hx, hw]; first | done | exact rfl)); (focus (simp only [go_sem, encA, hcl, hnc, h0, h1, h7, h8, hlt, hle, hx, hw]; first | done | (rw [← hr]; clear hr; simp_all [idx]))))
          | (apply pendN rs97; (focus (simp only [go_sem, encA, hcl, hnc, h0, h1, h7, h8, hlt, hle, hx, hw]; first | done | exact rfl)); (focus (simp only [go_sem, encA, hcl, hnc, h0, h1, h7, h8, hlt, hle, hx, hw]; first | done | (rw [← hr]; clear hr; simp_all [idx]))))
          | (refine k_inv (k - 1) (by omega) ⟨i + 1, by omega, (by first | exact hr | (simpa [idx, hc] using hr) | (simp_all [idx])), by simp only [go_sem, encA, hcl, hnc, h0, h1, h7, h8, hw]; first | done | rfl, by simp only [go_sem, encA, hcl, hnc, h0, h1, h7, h8, hw]; first | done | rfl, by simp only [go_sem, encA, hcl, hnc, h0, h1, h7, h8, hw]; first | done | rfl, by simp only [go_sem, encA, hcl, hnc, h0, h1, h7, h8, hw]; first | done | rfl⟩))
    · have hlt := nlt_int hi
      rw [at_end hi] at hr
      (have hNE := True.intro; have hC := True.intro; repeat' first
    | with_reducible refine k_seq ?_
    | with_reducible refine t_seq ?_
    | with_reducible refine t_reg ?_
    | with_reducible refine t_nil ?_
    | with_reducible refine t_ret ?_
    | with_reducible refine t_exit ?_
    | with_reducible refine k_seq_exit ?_
    | with_reducible refine k_blk_exit ?_
    | with_reducible refine k_inv_exit ?_
    | ((with_reducible apply t_val); exact rfl; (intro _ _ _ h; cases h); (focus (simp only [go_sem, hNE, encA, hcl, hnc, h0, h1, h7, h8, hlt]; first | done | exact rfl)))
    | ((with_reducible apply t_cond); (focus (simp only [go_sem, hNE, encA, hcl, hnc, h0, h1, h7, h8, hlt]; first | done | exact rfl)))
    | (with_reducible intro hc; with_reducible exact Bool.noConfusion hc)
    | (with_reducible intro hc; have hC := And.intro hC hc))
      all_goals (first
          | (apply pend rs97; (focus (simp only [go_sem, encA, hcl, hnc, h0, h1, h7, h8, hlt]; first | done | exact rfl)); (focus (simp only [go_sem, encA, hcl, hnc, h0, h1, h7, h8, hlt]; first | done | (rw [← hr]; clear hr; simp_all [idx]))))
          | (apply pendN rs97; (focus (simp only [go_sem, encA, hcl, hnc, h0, h1, h7, h8, hlt]; first | done | exact rfl)); (focus (simp only [go_sem, encA, hcl, hnc, h0, h1, h7, h8, hlt]; first | done | (rw [← hr]; clear hr; simp_all [idx]))))
          | (refine k_inv (k - 1) (by omega) ⟨i + 1, by omega, (by first | exact hr | (simpa [idx, hc] using hr) | (simp_all [idx])), by simp only [go_sem, encA, hcl, hnc, h0, h1, h7, h8, hw]; first | done | rfl, by simp only [go_sem, encA, hcl, hnc, h0, h1, h7, h8, hw]; first | done | rfl, by simp only [go_sem, encA, hcl, hnc, h0, h1, h7, h8, hw]; first | done | rfl, by simp only [go_sem, encA, hcl, hnc, h0, h1, h7, h8, hw]; first | done | rfl⟩))
theorem p107 (d : Dum) (nm : List UInt8) : PPure Try.prog 107 [encD d, .cptr [.str nm]] (.bool (d.name == nm)) := by
  simp only [encD]
  (refine ppure_of_T ok107 (by simp only [List.length_cons, List.length_nil]; decide) ?_; refine t_seq ?_)
  (have hNE := True.intro; have hC := True.intro; repeat' first
    | with_reducible refine k_seq ?_
    | with_reducible refine t_seq ?_
    | with_reducible refine t_reg ?_
    | with_reducible refine t_nil ?_
    | with_reducible refine t_ret ?_
    | ((with_reducible apply t_val); exact rfl; (intro _ _ _ h; cases h); (focus (simp only [go_sem, hNE]; first | done | exact rfl)))
    | ((with_reducible apply t_box); (focus (simp only [go_sem, hNE]; first | done | exact rfl)); exact rfl; (focus (simp only [go_sem, hNE]; first | done | exact rfl))))
  all_goals (apply pend rs107; (focus (simp only [go_sem, *]; first | done | exact rfl)); (focus (simp only [go_sem, *]; first | done | exact rfl | simp_all)))
def named (ds : List Dum) (nm : List UInt8) : Int := idx (fun d => d.name == nm) ds 0
theorem p91 (ds : List Dum) (nm : List UInt8) (hl : ds.length ≤ 1000) : PPure Try.prog 91 [.list .any (ds.map encD), .str nm] (.int .i64 (named ds nm)) := by
  (refine ppure_of_T ok91 (by simp only [List.length_cons, List.length_nil]; decide) ?_; refine t_seq ?_)
  (have hNE := True.intro; have hC := True.intro; repeat' first
    | with_reducible refine k_seq ?_
    | with_reducible refine t_seq ?_
    | with_reducible refine t_reg ?_
    | with_reducible refine t_nil ?_
    | with_reducible refine t_ret ?_
    | ((with_reducible apply t_val); exact rfl; (intro _ _ _ h; cases h); (focus (simp only [go_sem, hNE]; first | done | exact rfl)))
    | ((with_reducible apply t_callS); (focus (simp only [go_sem, hNE]; first | done | exact rfl)); (focus (simp only [go_sem, hNE]; first | done | exact rfl)); (focus (simp only [go_sem, hNE]; first | done | exact rfl)); (first | exact p106 ds 107 [.cptr [.str nm]] (fun d => d.name == nm) hl (capsOK_of rfl) (fun d => p107 d nm)))
    | ((with_reducible apply t_box); (focus (simp only [go_sem, hNE]; first | done | exact rfl)); exact rfl; (focus (simp only [go_sem, hNE]; first | done | exact rfl))))
  all_goals (apply pend rs91; (focus (simp only [go_sem, named, *]; first | done | exact rfl)); (focus (simp only [go_sem, named, *]; first | done | exact rfl | simp_all)))
end Go.Proofs.Ytloecggdboingaa
namespace Go.Proofs.Ytloecggdboingaa
open Go.RowKit Go.Proofs
set_option linter.unusedVariables false
set_option linter.unusedSimpArgs false
attribute [local irreducible] PPure

def inB (n lo hi : Int) : Bool := decide (lo ≤ n) && decide (n ≤ hi)
def featErr (f : Feat) : Int := if (inB f.t 0 6 && inB f.k 0 8 && inB f.r 0 7) = true then 0 else 2
theorem le_1 : (1 : Nat) ≤ 1000 := by decide

theorem p73 (f : Feat) : PPure Try.prog 73 [encF f] (.int .i64 (featErr f)) := by
  simp only [encF]
  (refine ppure_of_T ok73 (by simp only [List.length_cons, List.length_nil]; decide) ?_; refine t_seq ?_)
  (have hNE := True.intro; have hC := True.intro; repeat' first
    | with_reducible refine k_seq ?_
    | with_reducible refine t_seq ?_
    | with_reducible refine t_reg ?_
    | with_reducible refine t_nil ?_
    | with_reducible refine t_ret ?_
    | ((with_reducible apply t_val); exact rfl; (intro _ _ _ h; cases h); (focus (simp only [go_sem, hNE]; first | done | exact rfl)))
    | ((with_reducible apply t_callS); (focus (simp only [go_sem, hNE]; first | done | exact rfl)); (focus (simp only [go_sem, hNE]; first | done | exact rfl)); (focus (simp only [go_sem, hNE]; first | done | exact rfl)); (first | exact p81 _ _ _ | exact p57_1 _ _))
    | ((with_reducible apply t_gval); exact rfl; (focus (simp only [go_sem, hNE]; first | done | exact rfl)); exact rfl; (intro _ _ _ h; cases h); (focus (intro hG; simp only [go_sem, hNE, hG]; first | done | exact rfl)))
    | ((with_reducible apply t_gcallS); exact rfl; (focus (simp only [go_sem, hNE]; first | done | exact rfl)); (focus (simp only [go_sem, hNE]; first | done | exact rfl)); (focus (intro hG; simp only [go_sem, hNE, hG]; first | done | exact rfl)); (focus (simp only [go_sem, hNE]; done)); (intro hG; first | exact p81 _ _ _ | exact p57_1 _ _))
    | ((with_reducible apply t_box); (focus (simp only [go_sem, hNE]; first | done | exact rfl)); exact rfl; (focus (simp only [go_sem, hNE]; first | done | exact rfl))))
  all_goals (apply pend rs73; (focus (simp only [go_sem, featErr, inB, broken, *]; first | done | exact rfl)); (focus (simp only [go_sem, featErr, inB, broken, *]; first | done | exact rfl | simp_all)))

def letterB (b : UInt8) : Bool := decide (65 ≤ b) && decide (b ≤ 90)
def digitB (b : UInt8) : Bool := decide (48 ≤ b) && decide (b ≤ 57)
def restOK (l : List UInt8) : Bool := l.all fun b => letterB b || digitB b || b == 95
def isCap (l : List UInt8) : Bool := inB l.length 1 31 && (l.head?.map letterB).getD false && restOK l

theorem p99f (a b : Feat) : PPure Try.prog 99 [encF a, encF b] (.bool (decide (a.t = b.t) && decide (a.k = b.k))) := p99 _ _ _ _ _ _
def kindB (a b : Feat) : Bool := decide (a.t = b.t) && decide (a.k = b.k)
def compB (a b : Dum) : Bool := kindB a.f b.f && (a.elem || b.elem || decide (a.f.r = b.f.r))
def accB (d : Dum) (f : Feat) : Bool := kindB d.f f && (d.elem || decide (d.f.r = f.r))
theorem p78 (a b : Dum) : PPure Try.prog 78 [encD a, encD b] (.bool (compB a b)) := by
  simp only [encD]
  (refine ppure_of_T ok78 (by simp only [List.length_cons, List.length_nil]; decide) ?_; refine t_seq ?_)
  (have hNE := True.intro; have hC := True.intro; repeat' first
    | with_reducible refine k_seq ?_
    | with_reducible refine t_seq ?_
    | with_reducible refine t_reg ?_
    | with_reducible refine t_nil ?_
    | with_reducible refine t_ret ?_
    | ((with_reducible apply t_val); exact rfl; (intro _ _ _ h; cases h); (focus (simp only [go_sem, hNE]; first | done | exact rfl)))
    | ((with_reducible apply t_callS); (focus (simp only [go_sem, hNE]; first | done | exact rfl)); (focus (simp only [go_sem, hNE]; first | done | exact rfl)); (focus (simp only [go_sem, hNE]; first | done | exact rfl)); (first | exact p99f a.f b.f))
    | ((with_reducible apply t_gval); exact rfl; (focus (simp only [go_sem, hNE]; first | done | exact rfl)); exact rfl; (intro _ _ _ h; cases h); (focus (intro hG; simp only [go_sem, hNE, hG]; first | done | exact rfl)))
    | ((with_reducible apply t_gval2); exact rfl; (focus (simp only [go_sem, hNE]; first | done | exact rfl)); exact rfl; (intro _ _ _ h; cases h); (focus (intro hG hG2; simp only [go_sem, hNE, hG, hG2]; first | done | exact rfl)))
    | ((with_reducible apply t_box); (focus (simp only [go_sem, hNE]; first | done | exact rfl)); exact rfl; (focus (simp only [go_sem, hNE]; first | done | exact rfl))))
  all_goals (apply pend rs78; (focus (simp only [go_sem, compB, kindB, *]; first | done | exact rfl)); (focus (simp only [go_sem, compB, kindB, *]; first | done | exact rfl | simp_all)))
theorem p92 (a : Dum) (f : Feat) : PPure Try.prog 92 [encD a, encF f] (.bool (accB a f)) := by
  simp only [encD, encF]
  (refine ppure_of_T ok92 (by simp only [List.length_cons, List.length_nil]; decide) ?_; refine t_seq ?_)
  (have hNE := True.intro; have hC := True.intro; repeat' first
    | with_reducible refine k_seq ?_
    | with_reducible refine t_seq ?_
    | with_reducible refine t_reg ?_
    | with_reducible refine t_nil ?_
    | with_reducible refine t_ret ?_
    | ((with_reducible apply t_val); exact rfl; (intro _ _ _ h; cases h); (focus (simp only [go_sem, hNE]; first | done | exact rfl)))
    | ((with_reducible apply t_callS); (focus (simp only [go_sem, hNE]; first | done | exact rfl)); (focus (simp only [go_sem, hNE]; first | done | exact rfl)); (focus (simp only [go_sem, hNE]; first | done | exact rfl)); (first | exact p99f a.f f))
    | ((with_reducible apply t_gval); exact rfl; (focus (simp only [go_sem, hNE]; first | done | exact rfl)); exact rfl; (intro _ _ _ h; cases h); (focus (intro hG; simp only [go_sem, hNE, hG]; first | done | exact rfl)))
    | ((with_reducible apply t_gval2); exact rfl; (focus (simp only [go_sem, hNE]; first | done | exact rfl)); exact rfl; (intro _ _ _ h; cases h); (focus (intro hG hG2; simp only [go_sem, hNE, hG, hG2]; first | done | exact rfl)))
    | ((with_reducible apply t_box); (focus (simp only [go_sem, hNE]; first | done | exact rfl)); exact rfl; (focus (simp only [go_sem, hNE]; first | done | exact rfl))))
  all_goals (apply pend rs92; (focus (simp only [go_sem, accB, kindB, *]; first | done | exact rfl)); (focus (simp only [go_sem, accB, kindB, *]; first | done | exact rfl | simp_all)))
theorem p71 (x : Act) : PPure Try.prog 71 [encA x] (.bool (!(x.kw == []))) := by
  simp only [encA]
  (refine ppure_of_T ok71 (by simp only [List.length_cons, List.length_nil]; decide) ?_; refine t_seq ?_)
  (have hNE := True.intro; have hC := True.intro; repeat' first
    | with_reducible refine k_seq ?_
    | with_reducible refine t_seq ?_
    | with_reducible refine t_reg ?_
    | with_reducible refine t_nil ?_
    | with_reducible refine t_ret ?_
    | ((with_reducible apply t_val); exact rfl; (intro _ _ _ h; cases h); (focus (simp only [go_sem, hNE]; first | done | exact rfl)))
    | ((with_reducible apply t_box); (focus (simp only [go_sem, hNE]; first | done | exact rfl)); exact rfl; (focus (simp only [go_sem, hNE]; first | done | exact rfl))))
  all_goals (apply pend rs71; (focus (simp only [go_sem, *]; first | done | exact rfl)); (focus (simp only [go_sem, *]; first | done | exact rfl | simp_all)))
theorem p72 (y x : Act) : PPure Try.prog 72 [encA y, .cptr [.str x.kw, .int .i64 x.f.t, .int .i64 x.f.k, .int .i64 x.f.r]] (.bool (!(x.kw == []) && (y.kw == x.kw))) := by
  simp only [encA]
  (refine ppure_of_T ok72 (by simp only [List.length_cons, List.length_nil]; decide) ?_; refine t_seq ?_)
  (have hNE := True.intro; have hC := True.intro; repeat' first
    | with_reducible refine k_seq ?_
    | with_reducible refine t_seq ?_
    | with_reducible refine t_reg ?_
    | with_reducible refine t_nil ?_
    | with_reducible refine t_ret ?_
    | ((with_reducible apply t_val); exact rfl; (intro _ _ _ h; cases h); (focus (simp only [go_sem, hNE]; first | done | exact rfl)))
    | ((with_reducible apply t_gval); exact rfl; (focus (simp only [go_sem, hNE]; first | done | exact rfl)); exact rfl; (intro _ _ _ h; cases h); (focus (intro hG; simp only [go_sem, hNE, hG]; first | done | exact rfl)))
    | ((with_reducible apply t_box); (focus (simp only [go_sem, hNE]; first | done | exact rfl)); exact rfl; (focus (simp only [go_sem, hNE]; first | done | exact rfl))))
  all_goals (apply pend rs72; (focus (simp only [go_sem, *]; first | done | exact rfl)); (focus (simp only [go_sem, *]; first | done | exact rfl | simp_all)))
theorem p66 (q p : Prc) : PPure Try.prog 66 [encP q, .cptr [.str p.name, .list .any (p.ds.map encD)]] (.bool (q.name == p.name)) := by
  simp only [encP]
  (refine ppure_of_T ok66 (by simp only [List.length_cons, List.length_nil]; decide) ?_; refine t_seq ?_)
  (have hNE := True.intro; have hC := True.intro; repeat' first
    | with_reducible refine k_seq ?_
    | with_reducible refine t_seq ?_
    | with_reducible refine t_reg ?_
    | with_reducible refine t_nil ?_
    | with_reducible refine t_ret ?_
    | ((with_reducible apply t_val); exact rfl; (intro _ _ _ h; cases h); (focus (simp only [go_sem, hNE]; first | done | exact rfl)))
    | ((with_reducible apply t_box); (focus (simp only [go_sem, hNE]; first | done | exact rfl)); exact rfl; (focus (simp only [go_sem, hNE]; first | done | exact rfl))))
  all_goals (apply pend rs66; (focus (simp only [go_sem, *]; first | done | exact rfl)); (focus (simp only [go_sem, *]; first | done | exact rfl | simp_all)))
theorem p65 (ds : List Prc) (f : Nat) (caps : List PV) (g : Prc → Bool) (hl : ds.length ≤ 1000) (hcap : capsOK caps) (hg : ∀ d, PPure Try.prog f (encP d :: caps) (.bool (g d))) :
    PPure Try.prog 65 [.list .any (ds.map encP), .fn f caps] (.bool (decide (0 ≤ idx g ds 0))) := by
  have hcap' := hcap
  obtain ⟨hcl, hnc⟩ := hcap'
  (refine ppure_of_T ok65 (by simp only [List.length_cons, List.length_nil]; decide) ?_; refine t_seq ?_)
  (have hNE := True.intro; have hC := True.intro; repeat' first
    | with_reducible refine k_seq ?_
    | with_reducible refine t_seq ?_
    | with_reducible refine t_reg ?_
    | with_reducible refine t_nil ?_
    | with_reducible refine t_ret ?_
    | ((with_reducible apply t_val); exact rfl; (intro _ _ _ h; cases h); (focus (simp only [go_sem, hNE, hcl, hnc]; first | done | exact rfl)))
    | ((with_reducible apply t_callS); (focus (simp only [go_sem, hNE, hcl, hnc]; first | done | exact rfl)); (focus (simp only [go_sem, hNE, hcl, hnc]; first | done | exact rfl)); (focus (simp only [go_sem, hNE, hcl, hnc]; first | done | exact rfl)); (first | exact p94 ds f caps g hl hcap hg)))
  all_goals (apply pend rs65; (focus (simp only [go_sem, *]; first | done | exact rfl)); (focus (simp only [go_sem, *]; first | done | exact rfl | simp_all)))
theorem p70 (ds : List Act) (f : Nat) (caps : List PV) (g : Act → Bool) (hl : ds.length ≤ 1000) (hcap : capsOK caps) (hg : ∀ d, PPure Try.prog f (encA d :: caps) (.bool (g d))) :
    PPure Try.prog 70 [.list .any (ds.map encA), .fn f caps] (.bool (decide (0 ≤ idx g ds 0))) := by
  have hcap' := hcap
  obtain ⟨hcl, hnc⟩ := hcap'
  (refine ppure_of_T ok70 (by simp only [List.length_cons, List.length_nil]; decide) ?_; refine t_seq ?_)
  (have hNE := True.intro; have hC := True.intro; repeat' first
    | with_reducible refine k_seq ?_
    | with_reducible refine t_seq ?_
    | with_reducible refine t_reg ?_
    | with_reducible refine t_nil ?_
    | with_reducible refine t_ret ?_
    | ((with_reducible apply t_val); exact rfl; (intro _ _ _ h; cases h); (focus (simp only [go_sem, hNE, hcl, hnc]; first | done | exact rfl)))
    | ((with_reducible apply t_callS); (focus (simp only [go_sem, hNE, hcl, hnc]; first | done | exact rfl)); (focus (simp only [go_sem, hNE, hcl, hnc]; first | done | exact rfl)); (focus (simp only [go_sem, hNE, hcl, hnc]; first | done | exact rfl)); (first | exact p97 ds f caps g hl hcap hg)))
  all_goals (apply pend rs70; (focus (simp only [go_sem, *]; first | done | exact rfl)); (focus (simp only [go_sem, *]; first | done | exact rfl | simp_all)))
end Go.Proofs.Ytloecggdboingaa
namespace Go.Proofs.Ytloecggdboingaa
open Go.RowKit Go.Proofs
set_option linter.unusedVariables false
set_option linter.unusedSimpArgs false
attribute [local irreducible] PPure

theorem u8_int {b : UInt8} {n : Nat} (hn : n < 256) : decide ((n : Int) ≤ (b.toNat : Int)) = decide (UInt8.ofNat n ≤ b) := by
  rw [decide_eq_decide, UInt8.le_iff_toNat_le]; simp; omega
theorem len_nil {l : List UInt8} (h : inB l.length 1 31 = true) : ∃ b r, l = b :: r := by
  cases l with
  | nil => simp [inB] at h
  | cons b r => exact ⟨b, r, rfl⟩
theorem ge65 (b : UInt8) : decide ((65 : Int) ≤ (b.toNat : Int)) = decide (65 ≤ b) := u8_int (n := 65) (by decide)
theorem ge48 (b : UInt8) : decide ((48 : Int) ≤ (b.toNat : Int)) = decide (48 ≤ b) := u8_int (n := 48) (by decide)
theorem le90 (b : UInt8) : decide ((b.toNat : Int) ≤ 90) = decide (b ≤ 90) := by rw [decide_eq_decide, UInt8.le_iff_toNat_le]; simp; omega
theorem le57 (b : UInt8) : decide ((b.toNat : Int) ≤ 57) = decide (b ≤ 57) := by rw [decide_eq_decide, UInt8.le_iff_toNat_le]; simp; omega
theorem lt65 (b : UInt8) : decide ((b.toNat : Int) < 65) = !decide (65 ≤ b) := by rw [← ge65, ← decide_not, decide_eq_decide]; omega
theorem gt90 (b : UInt8) : decide ((90 : Int) < (b.toNat : Int)) = !decide (b ≤ 90) := by rw [← le90, ← decide_not, decide_eq_decide]; omega
theorem eq95 (b : UInt8) : decide ((b.toNat : Int) = 95) = (b == 95) := by
  rw [show (b == 95) = decide (b = 95) from rfl, decide_eq_decide, ← UInt8.toNat_inj]; simp; omega
theorem ne95 (b : UInt8) : decide (¬ (b.toNat : Int) = 95) = !(b == 95) := by rw [decide_not, eq95]
def encB (b : UInt8) : PV := .int .u8 (b.toNat : Int)
theorem encB_eq : (fun b : UInt8 => PV.int .u8 (b.toNat : Int)) = encB := rfl

theorem clB (b : UInt8) : closedB false (encB b) = true := rfl
theorem clBs (xs : List UInt8) : xs.all (closedB false ∘ encB) = true := cl_map clB xs
theorem len_small {l : List UInt8} (h : inB l.length 1 31 = true) : l.length ≤ 1000 := by
  simp [inB] at h; omega
theorem orN {a b c : Bool} (h : (!a && !b && !c) = false) : (a || b || c) = true := by cases a <;> cases b <;> cases c <;> simp_all
theorem orT {a b c : Bool} (h : (!a && !b && !c) = true) : (a || b || c) = false := by cases a <;> cases b <;> cases c <;> simp_all
theorem p74 (l : List UInt8) : PPure Try.prog 74 [.str l] (.bool (isCap l)) := by
  cases h : inB l.length 1 31 with
  | false =>
    have h' : (decide ((1 : Int) ≤ l.length) && decide ((l.length : Int) ≤ 31)) = false := h
    (refine ppure_of_T ok74 (by simp only [List.length_cons, List.length_nil]; decide) ?_; refine t_seq ?_)
    (have hNE := True.intro; have hC := True.intro; repeat' first
    | with_reducible refine k_seq ?_
    | with_reducible refine t_seq ?_
    | with_reducible refine t_reg ?_
    | with_reducible refine t_nil ?_
    | with_reducible refine t_ret ?_
    | with_reducible refine k_seq_ret ?_
    | ((with_reducible apply t_val); exact rfl; (intro _ _ _ h; cases h); (focus (simp only [go_sem, hNE, h']; first | done | exact rfl)))
    | ((with_reducible apply t_callS); (focus (simp only [go_sem, hNE, h']; first | done | exact rfl)); (focus (simp only [go_sem, hNE, h']; first | done | exact rfl)); (focus (simp only [go_sem, hNE, h']; first | done | exact rfl)); (first | exact p81 _ _ _))
    | ((with_reducible apply t_gval); exact rfl; (focus (simp only [go_sem, hNE, h']; first | done | exact rfl)); exact rfl; (intro _ _ _ h; cases h); (focus (intro hG; simp only [go_sem, hNE, h', hG]; first | done | exact rfl)))
    | ((with_reducible apply t_gno); exact rfl; (focus (simp only [go_sem, hNE, h']; first | done | exact rfl)); exact rfl)
    | ((with_reducible apply t_cond); (focus (simp only [go_sem, hNE, h']; first | done | exact rfl)))
    | (with_reducible intro hc; with_reducible exact Bool.noConfusion hc)
    | (with_reducible intro hc; have hC := And.intro hC hc))
    all_goals (apply pend rs74; (focus (simp only [go_sem, isCap, h, h', *]; first | done | exact rfl)); (focus (simp only [go_sem, isCap, h, h', *]; first | done | exact rfl | simp_all)))
  | true =>
    have hl := len_small h
    obtain ⟨b, r, hb⟩ := len_nil h
    have h0 : l[0]? = some b := by rw [hb]; rfl
    have h1 : l.head? = some b := by rw [hb]; rfl
    have h' : (decide ((1 : Int) ≤ l.length) && decide ((l.length : Int) ≤ 31)) = true := h
    (refine ppure_of_T ok74 (by simp only [List.length_cons, List.length_nil]; decide) ?_; refine t_seq ?_)
    (have hNE := True.intro; have hC := True.intro; repeat' first
    | with_reducible refine k_seq ?_
    | with_reducible refine t_seq ?_
    | with_reducible refine t_reg ?_
    | with_reducible refine t_nil ?_
    | with_reducible refine t_skip ?_
    | with_reducible refine t_ret ?_
    | with_reducible refine k_seq_ret ?_
    | with_reducible refine t_block ?_
    | ((with_reducible apply t_val); exact rfl; (intro _ _ _ h; cases h); (focus (simp only [go_sem, hNE, h', h0, lt65, gt90, encB_eq]; first | done | exact rfl)))
    | ((with_reducible apply t_callS); (focus (simp only [go_sem, hNE, h', h0, lt65, gt90, encB_eq]; first | done | exact rfl)); (focus (simp only [go_sem, hNE, h', h0, lt65, gt90, encB_eq]; first | done | exact rfl)); (focus (simp only [go_sem, hNE, h', h0, lt65, gt90, encB_eq]; first | done | exact rfl)); (first | exact p81 _ _ _))
    | ((with_reducible apply t_gval); exact rfl; (focus (simp only [go_sem, hNE, h', h0, lt65, gt90, encB_eq]; first | done | exact rfl)); exact rfl; (intro _ _ _ h; cases h); (focus (intro hG; simp only [go_sem, hNE, h', h0, lt65, gt90, encB_eq, hG]; first | done | exact rfl)))
    | ((with_reducible apply t_cond); (focus (simp only [go_sem, hNE, h', h0, lt65, gt90, encB_eq]; first | done | exact rfl)))
    | (with_reducible intro hc; have hC := And.intro hC hc))
    · rw [show isCap l = false by simp only [isCap, h, h1, Option.map_some, Option.getD_some, letterB]; simp only [Bool.or_eq_true, Bool.not_eq_true'] at hc; rcases hc with hc | hc <;> simp [hc]]
      all_goals (apply pend rs74; (focus (simp only [go_sem, *]; first | done | exact rfl)); (focus (simp only [go_sem, *]; first | done | exact rfl | simp_all)))
    · rw [show isCap l = restOK l by simp only [isCap, h, h1, Option.map_some, Option.getD_some, letterB]; simp only [Bool.or_eq_false_iff, Bool.not_eq_false'] at hc; simp [hc]]
      clear hb h0 h1 h h' hc
      refine t_loop (fun k s => ∃ i : Nat, i + k = l.length ∧ restOK (l.drop i) = restOK l ∧ s.env 22 = .list .any (l.map encB) ∧ s.env 23 = .int .i64 l.length ∧ s.env 24 = .int .i64 i) l.length ?_ ?_
      · exact ⟨0, by omega, rfl, by simp only [go_sem, encB, ge65, ge48, le90, le57, ne95]; first | done | rfl, by simp only [go_sem, encB, ge65, ge48, le90, le57, ne95]; first | done | rfl, by simp only [go_sem, encB, ge65, ge48, le90, le57, ne95]; first | done | rfl⟩
      · rintro k s ⟨i, hk, hr, h22, h23, h24⟩
        by_cases hi : i < l.length
        · obtain ⟨x, hx, hd⟩ := at_list hi
          have hlt := lt_int hi
          have hw := wrap_next hi hl
          have hle := Int.le_of_lt hlt
          rw [hd] at hr
          (have hNE := True.intro; have hC := True.intro; repeat' first
        | with_reducible refine k_seq ?_
        | with_reducible refine t_seq ?_
        | with_reducible refine t_reg ?_
        | with_reducible refine t_nil ?_
        | with_reducible refine t_skip ?_
        | with_reducible refine t_ret ?_
        | with_reducible refine k_seq_ret ?_
        | with_reducible refine k_blk_ret ?_
        | with_reducible refine k_blk ?_
        | with_reducible refine k_inv_ret ?_
        | with_reducible refine t_block ?_
        | ((with_reducible apply t_val); exact rfl; (intro _ _ _ h; cases h); (focus (simp only [go_sem, hNE, encB, ge65, ge48, le90, le57, ne95, h22, h23, h24, hlt, hle, hx, hw]; first | done | exact rfl)))
        | ((with_reducible apply t_gval); exact rfl; (focus (simp only [go_sem, hNE, encB, ge65, ge48, le90, le57, ne95, h22, h23, h24, hlt, hle, hx, hw]; first | done | exact rfl)); exact rfl; (intro _ _ _ h; cases h); (focus (intro hG; simp only [go_sem, hNE, encB, ge65, ge48, le90, le57, ne95, h22, h23, h24, hlt, hle, hx, hw, hG]; first | done | exact rfl)))
        | ((with_reducible apply t_cond); (focus (simp only [go_sem, hNE, encB, ge65, ge48, le90, le57, ne95, h22, h23, h24, hlt, hle, hx, hw]; first | done | exact rfl)))
        | (with_reducible intro hc; with_reducible exact Bool.noConfusion hc)
        | (with_reducible intro hc; have hC := And.intro hC hc))
          all_goals (first
              | (apply pend rs74; (focus (simp only [go_sem, encB, ge65, ge48, le90, le57, ne95, h22, h23, h24, hlt, hle, hx, hw]; first | done | exact rfl)); (focus (simp only [go_sem, encB, ge65, ge48, le90, le57, ne95, h22, h23, h24, hlt, hle, hx, hw]; first | done | (rw [← hr]; simp only [restOK, List.all_cons, letterB, digitB]; rw [orT hc, Bool.false_and]) | (rw [← hr]; clear hr; simp_all [restOK, letterB, digitB]))))
              | (apply pendN rs74; (focus (simp only [go_sem, encB, ge65, ge48, le90, le57, ne95, h22, h23, h24, hlt, hle, hx, hw]; first | done | exact rfl)); (focus (simp only [go_sem, encB, ge65, ge48, le90, le57, ne95, h22, h23, h24, hlt, hle, hx, hw]; first | done | (rw [← hr]; simp only [restOK, List.all_cons, letterB, digitB]; rw [orT hc, Bool.false_and]) | (rw [← hr]; clear hr; simp_all [restOK, letterB, digitB]))))
              | (refine k_inv (k - 1) (by omega) ⟨i + 1, by omega, (by first | (simp only [restOK, List.all_cons, letterB, digitB] at hr ⊢; rw [orN hc, Bool.true_and] at hr; exact hr) | exact hr | (simpa [restOK, letterB, digitB, hc] using hr) | (simp_all [restOK, letterB, digitB])), by simp only [go_sem, encB, ge65, ge48, le90, le57, ne95, h22, h23, h24, hw]; first | done | rfl, by simp only [go_sem, encB, ge65, ge48, le90, le57, ne95, h22, h23, h24, hw]; first | done | rfl, by simp only [go_sem, encB, ge65, ge48, le90, le57, ne95, h22, h23, h24, hw]; first | done | rfl⟩))
        · have hlt := nlt_int hi
          rw [at_end hi] at hr
          (have hNE := True.intro; have hC := True.intro; repeat' first
        | with_reducible refine k_seq ?_
        | with_reducible refine t_seq ?_
        | with_reducible refine t_reg ?_
        | with_reducible refine t_nil ?_
        | with_reducible refine t_ret ?_
        | with_reducible refine t_exit ?_
        | with_reducible refine k_seq_exit ?_
        | with_reducible refine k_blk_exit ?_
        | with_reducible refine k_inv_exit ?_
        | ((with_reducible apply t_val); exact rfl; (intro _ _ _ h; cases h); (focus (simp only [go_sem, hNE, encB, ge65, ge48, le90, le57, ne95, h22, h23, h24, hlt]; first | done | exact rfl)))
        | ((with_reducible apply t_cond); (focus (simp only [go_sem, hNE, encB, ge65, ge48, le90, le57, ne95, h22, h23, h24, hlt]; first | done | exact rfl)))
        | (with_reducible intro hc; with_reducible exact Bool.noConfusion hc)
        | (with_reducible intro hc; have hC := And.intro hC hc))
          all_goals (first
              | (apply pend rs74; (focus (simp only [go_sem, encB, ge65, ge48, le90, le57, ne95, h22, h23, h24, hlt]; first | done | exact rfl)); (focus (simp only [go_sem, encB, ge65, ge48, le90, le57, ne95, h22, h23, h24, hlt]; first | done | (rw [← hr]; simp only [restOK, List.all_cons, letterB, digitB]; rw [orT hc, Bool.false_and]) | (rw [← hr]; clear hr; simp_all [restOK, letterB, digitB]))))
              | (apply pendN rs74; (focus (simp only [go_sem, encB, ge65, ge48, le90, le57, ne95, h22, h23, h24, hlt]; first | done | exact rfl)); (focus (simp only [go_sem, encB, ge65, ge48, le90, le57, ne95, h22, h23, h24, hlt]; first | done | (rw [← hr]; simp only [restOK, List.all_cons, letterB, digitB]; rw [orT hc, Bool.false_and]) | (rw [← hr]; clear hr; simp_all [restOK, letterB, digitB]))))
              | (refine k_inv (k - 1) (by omega) ⟨i + 1, by omega, (by first | (simp only [restOK, List.all_cons, letterB, digitB] at hr ⊢; rw [orN hc, Bool.true_and] at hr; exact hr) | exact hr | (simpa [restOK, letterB, digitB, hc] using hr) | (simp_all [restOK, letterB, digitB])), by simp only [go_sem, encB, ge65, ge48, le90, le57, ne95, h22, h23, h24, hw]; first | done | rfl, by simp only [go_sem, encB, ge65, ge48, le90, le57, ne95, h22, h23, h24, hw]; first | done | rfl, by simp only [go_sem, encB, ge65, ge48, le90, le57, ne95, h22, h23, h24, hw]; first | done | rfl⟩))
end Go.Proofs.Ytloecggdboingaa
namespace Go.Proofs.Ytloecggdboingaa
open Go.RowKit Go.Proofs
set_option linter.unusedVariables false
set_option linter.unusedSimpArgs false
attribute [local irreducible] PPure

theorem p95 (ds : List Dum) (f : Nat) (caps : List PV) (g : Nat → Dum → Int) (hl : ds.length ≤ 1000) (hcap : capsOK caps) (hg : ∀ i d, ds[i]? = some d → PPure Try.prog f (.int .i64 (i : Nat) :: encD d :: caps) (.int .i64 (g i d))) :
    PPure Try.prog 95 [.list .any (ds.map encD), .fn f caps] (.tup [.int .i64 (firstBad g ds 0).1, .int .i64 (firstBad g ds 0).2]) := by
  obtain ⟨hcl, hnc⟩ := hcap
  (refine ppure_of_T ok95 (by simp only [List.length_cons, List.length_nil]; decide) ?_; refine t_seq ?_)
  (have hNE := True.intro; have hC := True.intro; repeat' first
    | with_reducible refine k_seq ?_
    | with_reducible refine t_seq ?_
    | with_reducible refine t_reg ?_
    | with_reducible refine t_nil ?_
    | with_reducible refine t_block ?_
    | ((with_reducible apply t_val); exact rfl; (intro _ _ _ h; cases h); (focus (simp only [go_sem, hNE]; first | done | exact rfl))))
  refine t_loop (fun k s => ∃ i : Nat, i + k = ds.length ∧ firstBad g (ds.drop i) i = firstBad g ds 0 ∧ s.env 1 = .fn f caps ∧ s.env 9 = .list .any (ds.map encD) ∧ s.env 10 = .int .i64 ds.length ∧ s.env 11 = .int .i64 i) ds.length ?_ ?_
  · exact ⟨0, by omega, rfl, by simp only [go_sem, encD, hcl, hnc]; first | done | rfl, by simp only [go_sem, encD, hcl, hnc]; first | done | rfl, by simp only [go_sem, encD, hcl, hnc]; first | done | rfl, by simp only [go_sem, encD, hcl, hnc]; first | done | rfl⟩
  · rintro k s ⟨i, hk, hr, h1, h9, h10, h11⟩
    by_cases hi : i < ds.length
    · obtain ⟨x, hx, hd⟩ := at_list hi
      have hlt := lt_int hi
      have hw := wrap_next hi hl
      have hle := Int.le_of_lt hlt
      rw [hd] at hr
      (have hNE := True.intro; have hC := True.intro; repeat' first
    | with_reducible refine k_seq ?_
    | with_reducible refine t_seq ?_
    | with_reducible refine t_reg ?_
    | with_reducible refine t_nil ?_
    | with_reducible refine t_skip ?_
    | with_reducible refine t_ret ?_
    | with_reducible refine k_seq_ret ?_
    | with_reducible refine k_blk_ret ?_
    | with_reducible refine k_blk ?_
    | with_reducible refine k_inv_ret ?_
    | with_reducible refine t_block ?_
    | ((with_reducible apply t_val); exact rfl; (intro _ _ _ h; cases h); (focus (simp only [go_sem, hNE, encD, hcl, hnc, h1, h9, h10, h11, hlt, hle, hx, hw]; first | done | exact rfl)))
    | ((with_reducible apply t_callS); (focus (simp only [go_sem, hNE, encD, hcl, hnc, h1, h9, h10, h11, hlt, hle, hx, hw]; first | done | exact rfl)); (focus (simp only [go_sem, hNE, encD, hcl, hnc, h1, h9, h10, h11, hlt, hle, hx, hw]; first | done | exact rfl)); (focus (simp only [go_sem, hNE, encD, hcl, hnc, h1, h9, h10, h11, hlt, hle, hx, hw]; first | done | exact rfl)); (first | exact hg i x hx))
    | ((with_reducible apply t_alloc); (focus (simp only [go_sem, hNE, encD, hcl, hnc, h1, h9, h10, h11, hlt, hle, hx, hw]; first | done | exact rfl)); exact rfl; exact rfl; (intro la ha hn1; have hNE := And.intro hNE hn1))
    | ((with_reducible apply t_store); (focus (simp only [go_sem, hNE, encD, hcl, hnc, h1, h9, h10, h11, hlt, hle, hx, hw]; first | done | exact rfl)); (focus (simp only [go_sem, hNE, encD, hcl, hnc, h1, h9, h10, h11, hlt, hle, hx, hw]; first | done | exact rfl)); (focus (simp only [go_sem, hNE, encD, hcl, hnc, h1, h9, h10, h11, hlt, hle, hx, hw]; first | done | exact rfl)); (focus (simp only [go_sem, hNE, encD, hcl, hnc, h1, h9, h10, h11, hlt, hle, hx, hw]; first | done | exact rfl)); (focus (simp only [go_sem, hNE, encD, hcl, hnc, h1, h9, h10, h11, hlt, hle, hx, hw]; first | done | exact rfl)); (focus (simp only [go_sem, hNE, encD, hcl, hnc, h1, h9, h10, h11, hlt, hle, hx, hw]; first | done | exact rfl)))
    | ((with_reducible apply t_cond); (focus (simp only [go_sem, hNE, encD, hcl, hnc, h1, h9, h10, h11, hlt, hle, hx, hw]; first | done | exact rfl)))
    | (with_reducible intro hc; with_reducible exact Bool.noConfusion hc)
    | (with_reducible intro hc; have hC := And.intro hC hc))
      all_goals (first
          | (apply pend rs95; (focus (simp only [go_sem, encD, hcl, hnc, h1, h9, h10, h11, hlt, hle, hx, hw]; first | done | exact rfl)); (focus (simp only [go_sem, encD, hcl, hnc, h1, h9, h10, h11, hlt, hle, hx, hw]; first | done | (rw [← hr]; clear hr; simp_all [firstBad]))))
          | (apply pendN rs95; (focus (simp only [go_sem, encD, hcl, hnc, h1, h9, h10, h11, hlt, hle, hx, hw]; first | done | exact rfl)); (focus (simp only [go_sem, encD, hcl, hnc, h1, h9, h10, h11, hlt, hle, hx, hw]; first | done | (rw [← hr]; clear hr; simp_all [firstBad]))))
          | (refine k_inv (k - 1) (by omega) ⟨i + 1, by omega, (by first | exact hr | (simpa [firstBad, hc] using hr) | (simp_all [firstBad])), by simp only [go_sem, encD, hcl, hnc, h1, h9, h10, h11, hw]; first | done | rfl, by simp only [go_sem, encD, hcl, hnc, h1, h9, h10, h11, hw]; first | done | rfl, by simp only [go_sem, encD, hcl, hnc, h1, h9, h10, h11, hw]; first | done | rfl, by simp only [go_sem, encD, hcl, hnc, h1, h9, h10, h11, hw]; first | done | rfl⟩))
    · have hlt := nlt_int hi
      rw [at_end hi] at hr
      (have hNE := True.intro; have hC := True.intro; repeat' first
    | with_reducible refine k_seq ?_
    | with_reducible refine t_seq ?_
    | with_reducible refine t_reg ?_
    | with_reducible refine t_nil ?_
    | with_reducible refine t_ret ?_
    | with_reducible refine t_exit ?_
    | with_reducible refine k_seq_exit ?_
    | with_reducible refine k_blk_exit ?_
    | with_reducible refine k_inv_exit ?_
    | ((with_reducible apply t_val); exact rfl; (intro _ _ _ h; cases h); (focus (simp only [go_sem, hNE, encD, hcl, hnc, h1, h9, h10, h11, hlt]; first | done | exact rfl)))
    | ((with_reducible apply t_cond); (focus (simp only [go_sem, hNE, encD, hcl, hnc, h1, h9, h10, h11, hlt]; first | done | exact rfl)))
    | (with_reducible intro hc; with_reducible exact Bool.noConfusion hc)
    | (with_reducible intro hc; have hC := And.intro hC hc))
      all_goals (first
          | (apply pend rs95; (focus (simp only [go_sem, encD, hcl, hnc, h1, h9, h10, h11, hlt]; first | done | exact rfl)); (focus (simp only [go_sem, encD, hcl, hnc, h1, h9, h10, h11, hlt]; first | done | (rw [← hr]; clear hr; simp_all [firstBad]))))
          | (apply pendN rs95; (focus (simp only [go_sem, encD, hcl, hnc, h1, h9, h10, h11, hlt]; first | done | exact rfl)); (focus (simp only [go_sem, encD, hcl, hnc, h1, h9, h10, h11, hlt]; first | done | (rw [← hr]; clear hr; simp_all [firstBad]))))
          | (refine k_inv (k - 1) (by omega) ⟨i + 1, by omega, (by first | exact hr | (simpa [firstBad, hc] using hr) | (simp_all [firstBad])), by simp only [go_sem, encD, hcl, hnc, h1, h9, h10, h11, hw]; first | done | rfl, by simp only [go_sem, encD, hcl, hnc, h1, h9, h10, h11, hw]; first | done | rfl, by simp only [go_sem, encD, hcl, hnc, h1, h9, h10, h11, hw]; first | done | rfl, by simp only [go_sem, encD, hcl, hnc, h1, h9, h10, h11, hw]; first | done | rfl⟩))
theorem p63 (ds : List Prc) (f : Nat) (caps : List PV) (g : Nat → Prc → Int) (hl : ds.length ≤ 1000) (hcap : capsOK caps) (hg : ∀ i d, ds[i]? = some d → PPure Try.prog f (.int .i64 (i : Nat) :: encP d :: caps) (.int .i64 (g i d))) :
    PPure Try.prog 63 [.list .any (ds.map encP), .fn f caps] (.tup [.int .i64 (firstBad g ds 0).1, .int .i64 (firstBad g ds 0).2]) := by
  obtain ⟨hcl, hnc⟩ := hcap
  (refine ppure_of_T ok63 (by simp only [List.length_cons, List.length_nil]; decide) ?_; refine t_seq ?_)
  (have hNE := True.intro; have hC := True.intro; repeat' first
    | with_reducible refine k_seq ?_
    | with_reducible refine t_seq ?_
    | with_reducible refine t_reg ?_
    | with_reducible refine t_nil ?_
    | with_reducible refine t_block ?_
    | ((with_reducible apply t_val); exact rfl; (intro _ _ _ h; cases h); (focus (simp only [go_sem, hNE]; first | done | exact rfl))))
  refine t_loop (fun k s => ∃ i : Nat, i + k = ds.length ∧ firstBad g (ds.drop i) i = firstBad g ds 0 ∧ s.env 1 = .fn f caps ∧ s.env 9 = .list .any (ds.map encP) ∧ s.env 10 = .int .i64 ds.length ∧ s.env 11 = .int .i64 i) ds.length ?_ ?_
  · exact ⟨0, by omega, rfl, by simp only [go_sem, encP, hcl, hnc]; first | done | rfl, by simp only [go_sem, encP, hcl, hnc]; first | done | rfl, by simp only [go_sem, encP, hcl, hnc]; first | done | rfl, by simp only [go_sem, encP, hcl, hnc]; first | done | rfl⟩
  · rintro k s ⟨i, hk, hr, h1, h9, h10, h11⟩
    by_cases hi : i < ds.length
    · obtain ⟨x, hx, hd⟩ := at_list hi
      have hlt := lt_int hi
      have hw := wrap_next hi hl
      have hle := Int.le_of_lt hlt
      rw [hd] at hr
      (have hNE := True.intro; have hC := True.intro; repeat' first
    | with_reducible refine k_seq ?_
    | with_reducible refine t_seq ?_
    | with_reducible refine t_reg ?_
    | with_reducible refine t_nil ?_
    | with_reducible refine t_skip ?_
    | with_reducible refine t_ret ?_
    | with_reducible refine k_seq_ret ?_
    | with_reducible refine k_blk_ret ?_
    | with_reducible refine k_blk ?_
    | with_reducible refine k_inv_ret ?_
    | with_reducible refine t_block ?_
    | ((with_reducible apply t_val); exact rfl; (intro _ _ _ h; cases h); (focus (simp only [go_sem, hNE, encP, hcl, hnc, h1, h9, h10, h11, hlt, hle, hx, hw]; first | done | exact rfl)))
    | ((with_reducible apply t_callS); (focus (simp only [go_sem, hNE, encP, hcl, hnc, h1, h9, h10, h11, hlt, hle, hx, hw]; first | done | exact rfl)); (focus (simp only [go_sem, hNE, encP, hcl, hnc, h1, h9, h10, h11, hlt, hle, hx, hw]; first | done | exact rfl)); (focus (simp only [go_sem, hNE, encP, hcl, hnc, h1, h9, h10, h11, hlt, hle, hx, hw]; first | done | exact rfl)); (first | exact hg i x hx))
    | ((with_reducible apply t_alloc); (focus (simp only [go_sem, hNE, encP, hcl, hnc, h1, h9, h10, h11, hlt, hle, hx, hw]; first | done | exact rfl)); exact rfl; exact rfl; (intro la ha hn1; have hNE := And.intro hNE hn1))
    | ((with_reducible apply t_store); (focus (simp only [go_sem, hNE, encP, hcl, hnc, h1, h9, h10, h11, hlt, hle, hx, hw]; first | done | exact rfl)); (focus (simp only [go_sem, hNE, encP, hcl, hnc, h1, h9, h10, h11, hlt, hle, hx, hw]; first | done | exact rfl)); (focus (simp only [go_sem, hNE, encP, hcl, hnc, h1, h9, h10, h11, hlt, hle, hx, hw]; first | done | exact rfl)); (focus (simp only [go_sem, hNE, encP, hcl, hnc, h1, h9, h10, h11, hlt, hle, hx, hw]; first | done | exact rfl)); (focus (simp only [go_sem, hNE, encP, hcl, hnc, h1, h9, h10, h11, hlt, hle, hx, hw]; first | done | exact rfl)); (focus (simp only [go_sem, hNE, encP, hcl, hnc, h1, h9, h10, h11, hlt, hle, hx, hw]; first | done | exact rfl)))
    | ((with_reducible apply t_cond); (focus (simp only [go_sem, hNE, encP, hcl, hnc, h1, h9, h10, h11, hlt, hle, hx, hw]; first | done | exact rfl)))
    | (with_reducible intro hc; with_reducible exact Bool.noConfusion hc)
    | (with_reducible intro hc; have hC := And.intro hC hc))
      all_goals (first
          | (apply pend rs63; (focus (simp only [go_sem, encP, hcl, hnc, h1, h9, h10, h11, hlt, hle, hx, hw]; first | done | exact rfl)); (focus (simp only [go_sem, encP, hcl, hnc, h1, h9, h10, h11, hlt, hle, hx, hw]; first | done | (rw [← hr]; clear hr; simp_all [firstBad]))))
          | (apply pendN rs63; (focus (simp only [go_sem, encP, hcl, hnc, h1, h9, h10, h11, hlt, hle, hx, hw]; first | done | exact rfl)); (focus (simp only [go_sem, encP, hcl, hnc, h1, h9, h10, h11, hlt, hle, hx, hw]; first | done | (rw [← hr]; clear hr; simp_all [firstBad]))))
          | (refine k_inv (k - 1) (by omega) ⟨i + 1, by omega, (by first | exact hr | (simpa [firstBad, hc] using hr) | (simp_all [firstBad])), by simp only [go_sem, encP, hcl, hnc, h1, h9, h10, h11, hw]; first | done | rfl, by simp only [go_sem, encP, hcl, hnc, h1, h9, h10, h11, hw]; first | done | rfl, by simp only [go_sem, encP, hcl, hnc, h1, h9, h10, h11, hw]; first | done | rfl, by simp only [go_sem, encP, hcl, hnc, h1, h9, h10, h11, hw]; first | done | rfl⟩))
    · have hlt := nlt_int hi
      rw [at_end hi] at hr
      (have hNE := True.intro; have hC := True.intro; repeat' first
    | with_reducible refine k_seq ?_
    | with_reducible refine t_seq ?_
    | with_reducible refine t_reg ?_
    | with_reducible refine t_nil ?_
    | with_reducible refine t_ret ?_
    | with_reducible refine t_exit ?_
    | with_reducible refine k_seq_exit ?_
    | with_reducible refine k_blk_exit ?_
    | with_reducible refine k_inv_exit ?_
    | ((with_reducible apply t_val); exact rfl; (intro _ _ _ h; cases h); (focus (simp only [go_sem, hNE, encP, hcl, hnc, h1, h9, h10, h11, hlt]; first | done | exact rfl)))
    | ((with_reducible apply t_cond); (focus (simp only [go_sem, hNE, encP, hcl, hnc, h1, h9, h10, h11, hlt]; first | done | exact rfl)))
    | (with_reducible intro hc; with_reducible exact Bool.noConfusion hc)
    | (with_reducible intro hc; have hC := And.intro hC hc))
      all_goals (first
          | (apply pend rs63; (focus (simp only [go_sem, encP, hcl, hnc, h1, h9, h10, h11, hlt]; first | done | exact rfl)); (focus (simp only [go_sem, encP, hcl, hnc, h1, h9, h10, h11, hlt]; first | done | (rw [← hr]; clear hr; simp_all [firstBad]))))
          | (apply pendN rs63; (focus (simp only [go_sem, encP, hcl, hnc, h1, h9, h10, h11, hlt]; first | done | exact rfl)); (focus (simp only [go_sem, encP, hcl, hnc, h1, h9, h10, h11, hlt]; first | done | (rw [← hr]; clear hr; simp_all [firstBad]))))
          | (refine k_inv (k - 1) (by omega) ⟨i + 1, by omega, (by first | exact hr | (simpa [firstBad, hc] using hr) | (simp_all [firstBad])), by simp only [go_sem, encP, hcl, hnc, h1, h9, h10, h11, hw]; first | done | rfl, by simp only [go_sem, encP, hcl, hnc, h1, h9, h10, h11, hw]; first | done | rfl, by simp only [go_sem, encP, hcl, hnc, h1, h9, h10, h11, hw]; first | done | rfl, by simp only [go_sem, encP, hcl, hnc, h1, h9, h10, h11, hw]; first | done | rfl⟩))
theorem p68 (ds : List Act) (f : Nat) (caps : List PV) (g : Nat → Act → Int) (hl : ds.length ≤ 1000) (hcap : capsOK caps) (hg : ∀ i d, ds[i]? = some d → PPure Try.prog f (.int .i64 (i : Nat) :: encA d :: caps) (.int .i64 (g i d))) :
    PPure Try.prog 68 [.list .any (ds.map encA), .fn f caps] (.tup [.int .i64 (firstBad g ds 0).1, .int .i64 (firstBad g ds 0).2]) := by
  obtain ⟨hcl, hnc⟩ := hcap
  (refine ppure_of_T ok68 (by simp only [List.length_cons, List.length_nil]; decide) ?_; refine t_seq ?_)
  (have hNE := True.intro; have hC := True.intro; repeat' first
    | with_reducible refine k_seq ?_
    | with_reducible refine t_seq ?_
    | with_reducible refine t_reg ?_
    | with_reducible refine t_nil ?_
    | with_reducible refine t_block ?_
    | ((with_reducible apply t_val); exact rfl; (intro _ _ _ h; cases h); (focus (simp only [go_sem, hNE]; first | done | exact rfl))))
  refine t_loop (fun k s => ∃ i : Nat, i + k = ds.length ∧ firstBad g (ds.drop i) i = firstBad g ds 0 ∧ s.env 1 = .fn f caps ∧ s.env 9 = .list .any (ds.map encA) ∧ s.env 10 = .int .i64 ds.length ∧ s.env 11 = .int .i64 i) ds.length ?_ ?_
  · exact ⟨0, by omega, rfl, by simp only [go_sem, encA, hcl, hnc]; first | done | rfl, by simp only [go_sem, encA, hcl, hnc]; first | done | rfl, by simp only [go_sem, encA, hcl, hnc]; first | done | rfl, by simp only [go_sem, encA, hcl, hnc]; first | done | rfl⟩
  · rintro k s ⟨i, hk, hr, h1, h9, h10, h11⟩
    by_cases hi : i < ds.length
    · obtain ⟨x, hx, hd⟩ := at_list hi
      have hlt := lt_int hi
      have hw := wrap_next hi hl
      have hle := Int.le_of_lt hlt
      rw [hd] at hr
      (have hNE := True.intro; have hC := True.intro; repeat' first
    | with_reducible refine k_seq ?_
    | with_reducible refine t_seq ?_
    | with_reducible refine t_reg ?_
    | with_reducible refine t_nil ?_
    | with_reducible refine t_skip ?_
    | with_reducible refine t_ret ?_
    | with_reducible refine k_seq_ret ?_
    | with_reducible refine k_blk_ret ?_
    | with_reducible refine k_blk ?_
    | with_reducible refine k_inv_ret ?_
    | with_reducible refine t_block ?_
    | ((with_reducible apply t_val); exact rfl; (intro _ _ _ h; cases h); (focus (simp only [go_sem, hNE, encA, hcl, hnc, h1, h9, h10, h11, hlt, hle, hx, hw]; first | done | exact rfl)))
    | ((with_reducible apply t_callS); (focus (simp only [go_sem, hNE, encA, hcl, hnc, h1, h9, h10, h11, hlt, hle, hx, hw]; first | done | exact rfl)); (focus (simp only [go_sem, hNE, encA, hcl, hnc, h1, h9, h10, h11, hlt, hle, hx, hw]; first | done | exact rfl)); (focus (simp only [go_sem, hNE, encA, hcl, hnc, h1, h9, h10, h11, hlt, hle, hx, hw]; first | done | exact rfl)); (first | exact hg i x hx))
    | ((with_reducible apply t_alloc); (focus (simp only [go_sem, hNE, encA, hcl, hnc, h1, h9, h10, h11, hlt, hle, hx, hw]; first | done | exact rfl)); exact rfl; exact rfl; (intro la ha hn1; have hNE := And.intro hNE hn1))
    | ((with_reducible apply t_store); (focus (simp only [go_sem, hNE, encA, hcl, hnc, h1, h9, h10, h11, hlt, hle, hx, hw]; first | done | exact rfl)); (focus (simp only [go_sem, hNE, encA, hcl, hnc, h1, h9, h10, h11, hlt, hle, hx, hw]; first | done | exact rfl)); (focus (simp only [go_sem, hNE, encA, hcl, hnc, h1, h9, h10, h11, hlt, hle, hx, hw]; first | done | exact rfl)); (focus (simp only [go_sem, hNE, encA, hcl, hnc, h1, h9, h10, h11, hlt, hle, hx, hw]; first | done | exact rfl)); (focus (simp only [go_sem, hNE, encA, hcl, hnc, h1, h9, h10, h11, hlt, hle, hx, hw]; first | done | exact rfl)); (focus (simp only [go_sem, hNE, encA, hcl, hnc, h1, h9, h10, h11, hlt, hle, hx, hw]; first | done | exact rfl)))
    | ((with_reducible apply t_cond); (focus (simp only [go_sem, hNE, encA, hcl, hnc, h1, h9, h10, h11, hlt, hle, hx, hw]; first | done | exact rfl)))
    | (with_reducible intro hc; with_reducible exact Bool.noConfusion hc)
    | (with_reducible intro hc; have hC := And.intro hC hc))
      all_goals (first
          | (apply pend rs68; (focus (simp only [go_sem, encA, hcl, hnc, h1, h9, h10, h11, hlt, hle, hx, hw]; first | done | exact rfl)); (focus (simp only [go_sem, encA, hcl, hnc, h1, h9, h10, h11, hlt, hle, hx, hw]; first | done | (rw [← hr]; clear hr; simp_all [firstBad]))))
          | (apply pendN rs68; (focus (simp only [go_sem, encA, hcl, hnc, h1, h9, h10, h11, hlt, hle, hx, hw]; first | done | exact rfl)); (focus (simp only [go_sem, encA, hcl, hnc, h1, h9, h10, h11, hlt, hle, hx, hw]; first | done | (rw [← hr]; clear hr; simp_all [firstBad]))))
          | (refine k_inv (k - 1) (by omega) ⟨i + 1, by omega, (by first | exact hr | (simpa [firstBad, hc] using hr) | (simp_all [firstBad])), by simp only [go_sem, encA, hcl, hnc, h1, h9, h10, h11, hw]; first | done | rfl, by simp only [go_sem, encA, hcl, hnc, h1, h9, h10, h11, hw]; first | done | rfl, by simp only [go_sem, encA, hcl, hnc, h1, h9, h10, h11, hw]; first | done | rfl, by simp only [go_sem, encA, hcl, hnc, h1, h9, h10, h11, hw]; first | done | rfl⟩))
    · have hlt := nlt_int hi
      rw [at_end hi] at hr
      (have hNE := True.intro; have hC := True.intro; repeat' first
    | with_reducible refine k_seq ?_
    | with_reducible refine t_seq ?_
    | with_reducible refine t_reg ?_
    | with_reducible refine t_nil ?_
    | with_reducible refine t_ret ?_
    | with_reducible refine t_exit ?_
    | with_reducible refine k_seq_exit ?_
    | with_reducible refine k_blk_exit ?_
    | with_reducible refine k_inv_exit ?_
    | ((with_reducible apply t_val); exact rfl; (intro _ _ _ h; cases h); (focus (simp only [go_sem, hNE, encA, hcl, hnc, h1, h9, h10, h11, hlt]; first | done | exact rfl)))
    | ((with_reducible apply t_cond); (focus (simp only [go_sem, hNE, encA, hcl, hnc, h1, h9, h10, h11, hlt]; first | done | exact rfl)))
    | (with_reducible intro hc; with_reducible exact Bool.noConfusion hc)
    | (with_reducible intro hc; have hC := And.intro hC hc))
      all_goals (first
          | (apply pend rs68; (focus (simp only [go_sem, encA, hcl, hnc, h1, h9, h10, h11, hlt]; first | done | exact rfl)); (focus (simp only [go_sem, encA, hcl, hnc, h1, h9, h10, h11, hlt]; first | done | (rw [← hr]; clear hr; simp_all [firstBad]))))
          | (apply pendN rs68; (focus (simp only [go_sem, encA, hcl, hnc, h1, h9, h10, h11, hlt]; first | done | exact rfl)); (focus (simp only [go_sem, encA, hcl, hnc, h1, h9, h10, h11, hlt]; first | done | (rw [← hr]; clear hr; simp_all [firstBad]))))
          | (refine k_inv (k - 1) (by omega) ⟨i + 1, by omega, (by first | exact hr | (simpa [firstBad, hc] using hr) | (simp_all [firstBad])), by simp only [go_sem, encA, hcl, hnc, h1, h9, h10, h11, hw]; first | done | rfl, by simp only [go_sem, encA, hcl, hnc, h1, h9, h10, h11, hw]; first | done | rfl, by simp only [go_sem, encA, hcl, hnc, h1, h9, h10, h11, hw]; first | done | rfl, by simp only [go_sem, encA, hcl, hnc, h1, h9, h10, h11, hw]; first | done | rfl⟩))

def dumErr (d : Dum) : Int := orE [broken [(isCap d.name, 4)], featErr d.f, broken [(!d.elem || decide (d.f.r = 0), 3)]]
theorem p77 (d : Dum) : PPure Try.prog 77 [encD d] (.int .i64 (dumErr d)) := by
  simp only [encD]
  (refine ppure_of_T ok77 (by simp only [List.length_cons, List.length_nil]; decide) ?_; refine t_seq ?_)
  (have hNE := True.intro; have hC := True.intro; repeat' first
    | with_reducible refine k_seq ?_
    | with_reducible refine t_seq ?_
    | with_reducible refine t_reg ?_
    | with_reducible refine t_nil ?_
    | with_reducible refine t_ret ?_
    | with_reducible refine t_drwE (by decide +kernel) ?_
    | with_reducible refine m_nil ?_
    | ((with_reducible apply t_val); exact rfl; (intro _ _ _ h; cases h); (focus (simp only [go_sem, hNE]; first | done | exact rfl)))
    | ((with_reducible apply m_val); exact rfl; exact rfl; (intro _ _ _ h; cases h); (focus (simp only [go_sem, hNE]; first | done | exact rfl)))
    | ((with_reducible apply m_callS); exact rfl; (focus (simp only [go_sem, hNE]; first | done | exact rfl)); (focus (simp only [go_sem, hNE]; first | done | exact rfl)); (focus (simp only [go_sem, hNE]; first | done | exact rfl)); (first | exact p74 _ | exact p57_1 _ _ | exact p73 d.f | exact p53_3 _ _ _))
    | ((with_reducible apply m_gval); exact rfl; exact rfl; (focus (simp only [go_sem, hNE]; first | done | exact rfl)); exact rfl; (intro _ _ _ h; cases h); (focus (intro hG; simp only [go_sem, hNE, hG]; first | done | exact rfl)))
    | ((with_reducible apply t_box); (focus (simp only [go_sem, hNE]; first | done | exact rfl)); exact rfl; (focus (simp only [go_sem, hNE]; first | done | exact rfl))))
  all_goals (apply pend rs77; (focus (simp only [go_sem, dumErr, *]; first | done | exact rfl)); (focus (simp only [go_sem, dumErr, *]; first | done | exact rfl | simp_all)))
def dumBad (p : Prc) (i : Nat) (d : Dum) : Int := orE [dumErr d, broken [(decide (named (p.ds.take i) d.name < 0), 23)]]
theorem take_small {α : Type} {l : List α} {i : Nat} (h : l.length ≤ 1000) : (l.take i).length ≤ 1000 := by rw [List.length_take]; omega
theorem p96 (p : Prc) (i : Nat) (d : Dum) (hi : i ≤ p.ds.length) (hl : p.ds.length ≤ 1000) : PPure Try.prog 96 [.int .i64 (i : Nat), encD d, .cptr [.str p.name, .list .any (p.ds.map encD)]] (.int .i64 (dumBad p i d)) := by
  have hi' : (i : Int) ≤ (p.ds.length : Int) := by omega
  simp only [encD]
  (refine ppure_of_T ok96 (by simp only [List.length_cons, List.length_nil]; decide) ?_; refine t_seq ?_)
  (have hNE := True.intro; have hC := True.intro; repeat' first
    | with_reducible refine k_seq ?_
    | with_reducible refine t_seq ?_
    | with_reducible refine t_reg ?_
    | with_reducible refine t_nil ?_
    | with_reducible refine t_ret ?_
    | with_reducible refine t_drwE (by decide +kernel) ?_
    | with_reducible refine m_nil ?_
    | ((with_reducible apply t_val); exact rfl; (intro _ _ _ h; cases h); (focus (simp only [go_sem, hNE, hi']; first | done | exact rfl)))
    | ((with_reducible apply m_val); exact rfl; exact rfl; (intro _ _ _ h; cases h); (focus (simp only [go_sem, hNE, hi']; first | done | exact rfl)))
    | ((with_reducible apply m_callS); exact rfl; (focus (simp only [go_sem, hNE, hi']; first | done | exact rfl)); (focus (simp only [go_sem, hNE, hi']; first | done | exact rfl)); (focus (simp only [go_sem, hNE, hi']; first | done | exact rfl)); (first | exact p77 d | exact p91 (p.ds.take i) d.name (take_small hl) | exact p57_1 _ _ | exact p53_2 _ _))
    | ((with_reducible apply t_box); (focus (simp only [go_sem, hNE, hi']; first | done | exact rfl)); exact rfl; (focus (simp only [go_sem, hNE, hi']; first | done | exact rfl))))
  all_goals (apply pend rs96; (focus (simp only [go_sem, dumBad, *]; first | done | exact rfl)); (focus (simp only [go_sem, dumBad, *]; first | done | exact rfl | simp_all)))
def prcErr (p : Prc) : Int := if broken [(isCap p.name, 4), (decide ((p.ds.length : Int) ≤ 8), 8)] = 0 then (firstBad (dumBad p) p.ds 0).2 else broken [(isCap p.name, 4), (decide ((p.ds.length : Int) ≤ 8), 8)]
theorem lt_of_get {α : Type} {l : List α} {i : Nat} {x : α} (h : l[i]? = some x) : i ≤ l.length := Nat.le_of_lt (List.getElem?_eq_some_iff.1 h).1
theorem capsP (p : Prc) : capsOK [.cptr [.str p.name, .list .any (p.ds.map encD)]] := capsOK_of (by simp only [go_sem])
theorem p67 (p : Prc) (hl : p.ds.length ≤ 1000) : PPure Try.prog 67 [encP p] (.int .i64 (prcErr p)) := by
  simp only [encP]
  (refine ppure_of_T ok67 (by simp only [List.length_cons, List.length_nil]; decide) ?_; refine t_seq ?_)
  (have hNE := True.intro; have hC := True.intro; repeat' first
    | with_reducible refine k_seq ?_
    | with_reducible refine t_seq ?_
    | with_reducible refine t_reg ?_
    | with_reducible refine t_nil ?_
    | with_reducible refine t_skip ?_
    | with_reducible refine t_ret ?_
    | with_reducible refine k_seq_ret ?_
    | with_reducible refine t_drwE (by decide +kernel) ?_
    | with_reducible refine m_nil ?_
    | ((with_reducible apply t_val); exact rfl; (intro _ _ _ h; cases h); (focus (simp only [go_sem, hNE]; first | done | exact rfl)))
    | ((with_reducible apply t_callS); (focus (simp only [go_sem, hNE]; first | done | exact rfl)); (focus (simp only [go_sem, hNE]; first | done | exact rfl)); (focus (simp only [go_sem, hNE]; first | done | exact rfl)); (first | exact p74 _ | exact p57_2 _ _ _ _ | exact p95 p.ds 96 [.cptr [.str p.name, .list .any (p.ds.map encD)]] (dumBad p) hl (capsP p) (fun i d h => p96 p i d (lt_of_get h) hl)))
    | ((with_reducible apply m_val); exact rfl; exact rfl; (intro _ _ _ h; cases h); (focus (simp only [go_sem, hNE]; first | done | exact rfl)))
    | ((with_reducible apply m_callS); exact rfl; (focus (simp only [go_sem, hNE]; first | done | exact rfl)); (focus (simp only [go_sem, hNE]; first | done | exact rfl)); (focus (simp only [go_sem, hNE]; first | done | exact rfl)); (first | exact p74 _ | exact p57_2 _ _ _ _ | exact p95 p.ds 96 [.cptr [.str p.name, .list .any (p.ds.map encD)]] (dumBad p) hl (capsP p) (fun i d h => p96 p i d (lt_of_get h) hl)))
    | ((with_reducible apply t_box); (focus (simp only [go_sem, hNE]; first | done | exact rfl)); exact rfl; (focus (simp only [go_sem, hNE]; first | done | exact rfl)))
    | ((with_reducible apply t_cond); (focus (simp only [go_sem, hNE]; first | done | exact rfl)))
    | (with_reducible intro hc; have hC := And.intro hC hc))
  all_goals (apply pend rs67; (focus (simp only [go_sem, prcErr, *]; first | done | exact rfl)); (focus (simp only [go_sem, prcErr, *]; first | done | exact rfl | simp_all)))
def prcBad (l : List Prc) (i : Nat) (p : Prc) : Int := orE [prcErr p, broken [(!decide (0 ≤ idx (fun q : Prc => q.name == p.name) (l.take i) 0), 5)]]
theorem capsL (l : List Prc) : capsOK [.cptr [.list .any (l.map encP)]] := capsOK_of (by simp only [go_sem])
theorem p64 (l : List Prc) (i : Nat) (p : Prc) (hi : i ≤ l.length) (hl : l.length ≤ 1000) (hp : p.ds.length ≤ 1000) : PPure Try.prog 64 [.int .i64 (i : Nat), encP p, .cptr [.list .any (l.map encP)]] (.int .i64 (prcBad l i p)) := by
  have hi' : (i : Int) ≤ (l.length : Int) := by omega
  simp only [encP]
  (refine ppure_of_T ok64 (by simp only [List.length_cons, List.length_nil]; decide) ?_; refine t_seq ?_)
  (have hNE := True.intro; have hC := True.intro; repeat' first
    | with_reducible refine k_seq ?_
    | with_reducible refine t_seq ?_
    | with_reducible refine t_reg ?_
    | with_reducible refine t_nil ?_
    | with_reducible refine t_ret ?_
    | ((with_reducible apply t_val); exact rfl; (intro _ _ _ h; cases h); (focus (simp only [go_sem, hNE, hi']; first | done | exact rfl)))
    | ((with_reducible apply t_callS); (focus (simp only [go_sem, hNE, hi']; first | done | exact rfl)); (focus (simp only [go_sem, hNE, hi']; first | done | exact rfl)); (focus (simp only [go_sem, hNE, hi']; first | done | exact rfl)); (first | exact p67 p hp | exact p65 (l.take i) 66 [.cptr [.str p.name, .list .any (p.ds.map encD)]] (fun q => q.name == p.name) (take_small hl) (capsP p) (fun q => p66 q p) | exact p57_1 _ _ | exact p53_2 _ _))
    | ((with_reducible apply t_box); (focus (simp only [go_sem, hNE, hi']; first | done | exact rfl)); exact rfl; (focus (simp only [go_sem, hNE, hi']; first | done | exact rfl))))
  all_goals (apply pend rs64; (focus (simp only [go_sem, prcBad, *]; first | done | exact rfl)); (focus (simp only [go_sem, prcBad, *]; first | done | exact rfl | simp_all)))
def itfBad (l : List Prc) : Int × Int := if decide ((8 : Int) < l.length) = true then (0, 8) else firstBad (prcBad l) l 0
def Small (l : List Prc) : Prop := l.length ≤ 1000 ∧ ∀ p ∈ l, p.ds.length ≤ 1000
theorem Small.at {l : List Prc} (h : Small l) {i : Nat} {p : Prc} (e : l[i]? = some p) : p.ds.length ≤ 1000 := h.2 p (List.mem_of_getElem? e)
theorem p29 (l : List Prc) (h : Small l) : PPure Try.prog 29 [.list .any (l.map encP)] (.tup [.int .i64 (itfBad l).1, .int .i64 (itfBad l).2]) := by
  have hl := h.1
  (refine ppure_of_T ok29 (by simp only [List.length_cons, List.length_nil]; decide) ?_; refine t_seq ?_)
  (have hNE := True.intro; have hC := True.intro; repeat' first
    | with_reducible refine k_seq ?_
    | with_reducible refine t_seq ?_
    | with_reducible refine t_reg ?_
    | with_reducible refine t_nil ?_
    | with_reducible refine t_skip ?_
    | with_reducible refine t_ret ?_
    | with_reducible refine k_seq_ret ?_
    | ((with_reducible apply t_val); exact rfl; (intro _ _ _ h; cases h); (focus (simp only [go_sem, hNE]; first | done | exact rfl)))
    | ((with_reducible apply t_callS); (focus (simp only [go_sem, hNE]; first | done | exact rfl)); (focus (simp only [go_sem, hNE]; first | done | exact rfl)); (focus (simp only [go_sem, hNE]; first | done | exact rfl)); (first | exact p63 l 64 [.cptr [.list .any (l.map encP)]] (prcBad l) hl (capsL l) (fun i d e => p64 l i d (lt_of_get e) hl (h.at e))))
    | ((with_reducible apply t_box); (focus (simp only [go_sem, hNE]; first | done | exact rfl)); exact rfl; (focus (simp only [go_sem, hNE]; first | done | exact rfl)))
    | ((with_reducible apply t_cond); (focus (simp only [go_sem, hNE]; first | done | exact rfl)))
    | (with_reducible intro hc; have hC := And.intro hC hc))
  all_goals (apply pend rs29; (focus (simp only [go_sem, itfBad, *]; first | done | exact rfl)); (focus (simp only [go_sem, itfBad, *]; first | done | exact rfl | simp_all)))
def itfErr (l : List Prc) : Int := (itfBad l).2
theorem p54 (l : List Prc) (h : Small l) : PPure Try.prog 54 [.list .any (l.map encP)] (.int .i64 (itfErr l)) := by
  (refine ppure_of_T ok54 (by simp only [List.length_cons, List.length_nil]; decide) ?_; refine t_seq ?_)
  (have hNE := True.intro; have hC := True.intro; repeat' first
    | with_reducible refine k_seq ?_
    | with_reducible refine t_seq ?_
    | with_reducible refine t_reg ?_
    | with_reducible refine t_nil ?_
    | with_reducible refine t_ret ?_
    | ((with_reducible apply t_val); exact rfl; (intro _ _ _ h; cases h); (focus (simp only [go_sem, hNE]; first | done | exact rfl)))
    | ((with_reducible apply t_callS); (focus (simp only [go_sem, hNE]; first | done | exact rfl)); (focus (simp only [go_sem, hNE]; first | done | exact rfl)); (focus (simp only [go_sem, hNE]; first | done | exact rfl)); (first | exact p29 l h)))
  all_goals (apply pend rs54; (focus (simp only [go_sem, itfErr, *]; first | done | exact rfl)); (focus (simp only [go_sem, itfErr, *]; first | done | exact rfl | simp_all)))
def actBad (c : List Act) (i : Nat) (x : Act) : Int :=
  orE [featErr x.f, broken [(x.kw == [] || isCap x.kw, 4), (!(x.kw == []) || !decide (0 ≤ idx (fun y : Act => !(y.kw == [])) (c.take i) 0), 9),
    (!decide (0 ≤ idx (fun y : Act => !(x.kw == []) && (y.kw == x.kw)) (c.take i) 0), 23)]]
theorem capsA (x : Act) : capsOK [.cptr [.str x.kw, .int .i64 x.f.t, .int .i64 x.f.k, .int .i64 x.f.r]] := capsOK_of rfl
theorem capsC (c : List Act) : capsOK [.cptr [.list .any (c.map encA)]] := capsOK_of (by simp only [go_sem])
theorem p69 (c : List Act) (i : Nat) (x : Act) (hi : i ≤ c.length) (hl : c.length ≤ 1000) : PPure Try.prog 69 [.int .i64 (i : Nat), encA x, .cptr [.list .any (c.map encA)]] (.int .i64 (actBad c i x)) := by
  have hi' : (i : Int) ≤ (c.length : Int) := by omega
  simp only [encA]
  (refine ppure_of_T ok69 (by simp only [List.length_cons, List.length_nil]; decide) ?_; refine t_seq ?_)
  (have hNE := True.intro; have hC := True.intro; repeat' first
    | with_reducible refine k_seq ?_
    | with_reducible refine t_seq ?_
    | with_reducible refine t_reg ?_
    | with_reducible refine t_nil ?_
    | with_reducible refine t_ret ?_
    | with_reducible refine t_drwE (by decide +kernel) ?_
    | with_reducible refine m_nil ?_
    | ((with_reducible apply t_val); exact rfl; (intro _ _ _ h; cases h); (focus (simp only [go_sem, hNE, hi']; first | done | exact rfl)))
    | ((with_reducible apply t_callS); (focus (simp only [go_sem, hNE, hi']; first | done | exact rfl)); (focus (simp only [go_sem, hNE, hi']; first | done | exact rfl)); (focus (simp only [go_sem, hNE, hi']; first | done | exact rfl)); (first | exact p70 (c.take i) 71 [] (fun y => !(y.kw == [])) (take_small hl) (capsOK_of rfl) (fun q => p71 q) | exact p70 (c.take i) 72 [.cptr [.str x.kw, .int .i64 x.f.t, .int .i64 x.f.k, .int .i64 x.f.r]] (fun y => !(x.kw == []) && (y.kw == x.kw)) (take_small hl) (capsA x) (fun q => p72 q x) | exact p73 x.f | exact p74 _ | exact p57_3 _ _ _ _ _ _ | exact p53_2 _ _))
    | ((with_reducible apply m_val); exact rfl; exact rfl; (intro _ _ _ h; cases h); (focus (simp only [go_sem, hNE, hi']; first | done | exact rfl)))
    | ((with_reducible apply m_callS); exact rfl; (focus (simp only [go_sem, hNE, hi']; first | done | exact rfl)); (focus (simp only [go_sem, hNE, hi']; first | done | exact rfl)); (focus (simp only [go_sem, hNE, hi']; first | done | exact rfl)); (first | exact p70 (c.take i) 71 [] (fun y => !(y.kw == [])) (take_small hl) (capsOK_of rfl) (fun q => p71 q) | exact p70 (c.take i) 72 [.cptr [.str x.kw, .int .i64 x.f.t, .int .i64 x.f.k, .int .i64 x.f.r]] (fun y => !(x.kw == []) && (y.kw == x.kw)) (take_small hl) (capsA x) (fun q => p72 q x) | exact p73 x.f | exact p74 _ | exact p57_3 _ _ _ _ _ _ | exact p53_2 _ _))
    | ((with_reducible apply m_gval); exact rfl; exact rfl; (focus (simp only [go_sem, hNE, hi']; first | done | exact rfl)); exact rfl; (intro _ _ _ h; cases h); (focus (intro hG; simp only [go_sem, hNE, hi', hG]; first | done | exact rfl)))
    | ((with_reducible apply m_gcallS); exact rfl; exact rfl; (focus (simp only [go_sem, hNE, hi']; first | done | exact rfl)); (focus (simp only [go_sem, hNE, hi']; first | done | exact rfl)); (focus (intro hG; simp only [go_sem, hNE, hi', hG]; first | done | exact rfl)); (focus (simp only [go_sem, hNE, hi']; done)); (intro hG; first | exact p70 (c.take i) 71 [] (fun y => !(y.kw == [])) (take_small hl) (capsOK_of rfl) (fun q => p71 q) | exact p70 (c.take i) 72 [.cptr [.str x.kw, .int .i64 x.f.t, .int .i64 x.f.k, .int .i64 x.f.r]] (fun y => !(x.kw == []) && (y.kw == x.kw)) (take_small hl) (capsA x) (fun q => p72 q x) | exact p73 x.f | exact p74 _ | exact p57_3 _ _ _ _ _ _ | exact p53_2 _ _))
    | ((with_reducible apply t_box); (focus (simp only [go_sem, hNE, hi']; first | done | exact rfl)); exact rfl; (focus (simp only [go_sem, hNE, hi']; first | done | exact rfl))))
  all_goals (apply pend rs69; (focus (simp only [go_sem, actBad, *]; first | done | exact rfl)); (focus (simp only [go_sem, actBad, *]; first | done | exact rfl | simp_all)))
def callBad (c : List Act) : Int × Int := if decide ((8 : Int) < c.length) = true then (0, 8) else firstBad (actBad c) c 0
theorem p30 (c : List Act) (hl : c.length ≤ 1000) : PPure Try.prog 30 [.list .any (c.map encA)] (.tup [.int .i64 (callBad c).1, .int .i64 (callBad c).2]) := by
  (refine ppure_of_T ok30 (by simp only [List.length_cons, List.length_nil]; decide) ?_; refine t_seq ?_)
  (have hNE := True.intro; have hC := True.intro; repeat' first
    | with_reducible refine k_seq ?_
    | with_reducible refine t_seq ?_
    | with_reducible refine t_reg ?_
    | with_reducible refine t_nil ?_
    | with_reducible refine t_skip ?_
    | with_reducible refine t_ret ?_
    | with_reducible refine k_seq_ret ?_
    | ((with_reducible apply t_val); exact rfl; (intro _ _ _ h; cases h); (focus (simp only [go_sem, hNE]; first | done | exact rfl)))
    | ((with_reducible apply t_callS); (focus (simp only [go_sem, hNE]; first | done | exact rfl)); (focus (simp only [go_sem, hNE]; first | done | exact rfl)); (focus (simp only [go_sem, hNE]; first | done | exact rfl)); (first | exact p68 c 69 [.cptr [.list .any (c.map encA)]] (actBad c) hl (capsC c) (fun i d e => p69 c i d (lt_of_get e) hl)))
    | ((with_reducible apply t_box); (focus (simp only [go_sem, hNE]; first | done | exact rfl)); exact rfl; (focus (simp only [go_sem, hNE]; first | done | exact rfl)))
    | ((with_reducible apply t_cond); (focus (simp only [go_sem, hNE]; first | done | exact rfl)))
    | (with_reducible intro hc; have hC := And.intro hC hc))
  all_goals (apply pend rs30; (focus (simp only [go_sem, callBad, *]; first | done | exact rfl)); (focus (simp only [go_sem, callBad, *]; first | done | exact rfl | simp_all)))
def callErr (c : List Act) : Int := (callBad c).2
theorem p55 (c : List Act) (hl : c.length ≤ 1000) : PPure Try.prog 55 [.list .any (c.map encA)] (.int .i64 (callErr c)) := by
  (refine ppure_of_T ok55 (by simp only [List.length_cons, List.length_nil]; decide) ?_; refine t_seq ?_)
  (have hNE := True.intro; have hC := True.intro; repeat' first
    | with_reducible refine k_seq ?_
    | with_reducible refine t_seq ?_
    | with_reducible refine t_reg ?_
    | with_reducible refine t_nil ?_
    | with_reducible refine t_ret ?_
    | ((with_reducible apply t_val); exact rfl; (intro _ _ _ h; cases h); (focus (simp only [go_sem, hNE]; first | done | exact rfl)))
    | ((with_reducible apply t_callS); (focus (simp only [go_sem, hNE]; first | done | exact rfl)); (focus (simp only [go_sem, hNE]; first | done | exact rfl)); (focus (simp only [go_sem, hNE]; first | done | exact rfl)); (first | exact p30 c hl)))
  all_goals (apply pend rs55; (focus (simp only [go_sem, callErr, *]; first | done | exact rfl)); (focus (simp only [go_sem, callErr, *]; first | done | exact rfl | simp_all)))
def bothErr (a b : Prc) : Int := orE [prcErr a, prcErr b]
theorem p59 (a b : Prc) (ha : a.ds.length ≤ 1000) (hb : b.ds.length ≤ 1000) : PPure Try.prog 59 [encP a, encP b] (.int .i64 (bothErr a b)) := by
  simp only [encP]
  (refine ppure_of_T ok59 (by simp only [List.length_cons, List.length_nil]; decide) ?_; refine t_seq ?_)
  (have hNE := True.intro; have hC := True.intro; repeat' first
    | with_reducible refine k_seq ?_
    | with_reducible refine t_seq ?_
    | with_reducible refine t_reg ?_
    | with_reducible refine t_nil ?_
    | with_reducible refine t_ret ?_
    | with_reducible refine t_drwE (by decide +kernel) ?_
    | with_reducible refine m_nil ?_
    | ((with_reducible apply t_val); exact rfl; (intro _ _ _ h; cases h); (focus (simp only [go_sem, hNE]; first | done | exact rfl)))
    | ((with_reducible apply m_val); exact rfl; exact rfl; (intro _ _ _ h; cases h); (focus (simp only [go_sem, hNE]; first | done | exact rfl)))
    | ((with_reducible apply m_callS); exact rfl; (focus (simp only [go_sem, hNE]; first | done | exact rfl)); (focus (simp only [go_sem, hNE]; first | done | exact rfl)); (focus (simp only [go_sem, hNE]; first | done | exact rfl)); (first | exact p67 a ha | exact p67 b hb | exact p53_2 _ _))
    | ((with_reducible apply t_box); (focus (simp only [go_sem, hNE]; first | done | exact rfl)); exact rfl; (focus (simp only [go_sem, hNE]; first | done | exact rfl))))
  all_goals (apply pend rs59; (focus (simp only [go_sem, bothErr, *]; first | done | exact rfl)); (focus (simp only [go_sem, bothErr, *]; first | done | exact rfl | simp_all)))
end Go.Proofs.Ytloecggdboingaa
