/- Part 3 of the proof: what the claim needs of the framework, the contracts of functions, and the laws. No conditions. -/
import Derived.Test.YthdgdngdfijfhaaUO2
import Derived.Test.YthdgdngdfijfhaaProg
import Derived.KernelRfl
import Derived.Shelf.Strings.BuilderF
import Derived.Shelf.Strings.BuilderK
import Derived.Shelf.Strings.Repeat
namespace Go.Proofs.Ythdgdngdfijfhaa
open Go.RowKit Go.Proofs
theorem u_2 : Try.prog.underlying 2 = some (.int .i64) := by kernel_rfl
theorem k_2 : kindT Try.prog 2 = some false := by kernel_rfl
theorem c_2 : Try.prog.cellsOf 2 = 1 := by kernel_rfl
theorem b_2 : Try.prog.bytesOf 2 = 8 := by kernel_rfl
theorem z_2 : tzero Try.prog 2 = some (.int .i64 0) := by kernel_rfl
theorem u_3 : Try.prog.underlying 3 = some (.int .i64) := by kernel_rfl
theorem k_3 : kindT Try.prog 3 = some false := by kernel_rfl
theorem c_3 : Try.prog.cellsOf 3 = 1 := by kernel_rfl
theorem b_3 : Try.prog.bytesOf 3 = 8 := by kernel_rfl
theorem z_3 : tzero Try.prog 3 = some (.int .i64 0) := by kernel_rfl
theorem u_4 : Try.prog.underlying 4 = some .bool := by kernel_rfl
theorem k_4 : kindT Try.prog 4 = some false := by kernel_rfl
theorem c_4 : Try.prog.cellsOf 4 = 1 := by kernel_rfl
theorem b_4 : Try.prog.bytesOf 4 = 1 := by kernel_rfl
theorem z_4 : tzero Try.prog 4 = some (.bool false) := by kernel_rfl
theorem u_5 : Try.prog.underlying 5 = some (.int .u8) := by kernel_rfl
theorem k_5 : kindT Try.prog 5 = some false := by kernel_rfl
theorem c_5 : Try.prog.cellsOf 5 = 1 := by kernel_rfl
theorem b_5 : Try.prog.bytesOf 5 = 1 := by kernel_rfl
theorem z_5 : tzero Try.prog 5 = some (.int .u8 0) := by kernel_rfl
theorem u_6 : Try.prog.underlying 6 = some (.int .u8) := by kernel_rfl
theorem k_6 : kindT Try.prog 6 = some false := by kernel_rfl
theorem c_6 : Try.prog.cellsOf 6 = 1 := by kernel_rfl
theorem b_6 : Try.prog.bytesOf 6 = 1 := by kernel_rfl
theorem z_6 : tzero Try.prog 6 = some (.int .u8 0) := by kernel_rfl
theorem k_7 : kindT Try.prog 7 = some true := by kernel_rfl
theorem c_7 : Try.prog.cellsOf 7 = 4 := by kernel_rfl
theorem b_7 : Try.prog.bytesOf 7 = 24 := by kernel_rfl
theorem z_7 : tzero Try.prog 7 = some (.agg [.int .i64 0, .int .i64 0, .bool false, .int .u8 0]) := by kernel_rfl
theorem s_7 : structT Try.prog 7 = true := by kernel_rfl
theorem g_7 : goodT Try.prog 7 = true := by kernel_rfl
theorem f_7_0 : fieldP Try.prog 7 0 = some (2, 0) := by kernel_rfl
theorem f_7_1 : fieldP Try.prog 7 1 = some (3, 1) := by kernel_rfl
theorem f_7_2 : fieldP Try.prog 7 2 = some (4, 2) := by kernel_rfl
theorem f_7_3 : fieldP Try.prog 7 3 = some (6, 3) := by kernel_rfl
theorem k_8 : kindT Try.prog 8 = some true := by kernel_rfl
theorem c_8 : Try.prog.cellsOf 8 = 4 := by kernel_rfl
theorem b_8 : Try.prog.bytesOf 8 = 24 := by kernel_rfl
theorem z_8 : tzero Try.prog 8 = some (.agg [.int .i64 0, .int .i64 0, .bool false, .int .u8 0]) := by kernel_rfl
theorem s_8 : structT Try.prog 8 = true := by kernel_rfl
theorem g_8 : goodT Try.prog 8 = true := by kernel_rfl
theorem f_8_0 : fieldP Try.prog 8 0 = some (2, 0) := by kernel_rfl
theorem f_8_1 : fieldP Try.prog 8 1 = some (3, 1) := by kernel_rfl
theorem f_8_2 : fieldP Try.prog 8 2 = some (4, 2) := by kernel_rfl
theorem f_8_3 : fieldP Try.prog 8 3 = some (6, 3) := by kernel_rfl
theorem u_9 : Try.prog.underlying 9 = some .string := by kernel_rfl
theorem k_9 : kindT Try.prog 9 = some false := by kernel_rfl
theorem c_9 : Try.prog.cellsOf 9 = 1 := by kernel_rfl
theorem b_9 : Try.prog.bytesOf 9 = 16 := by kernel_rfl
theorem z_9 : tzero Try.prog 9 = some (.str []) := by kernel_rfl
theorem u_10 : Try.prog.underlying 10 = some .string := by kernel_rfl
theorem k_10 : kindT Try.prog 10 = some false := by kernel_rfl
theorem c_10 : Try.prog.cellsOf 10 = 1 := by kernel_rfl
theorem b_10 : Try.prog.bytesOf 10 = 16 := by kernel_rfl
theorem z_10 : tzero Try.prog 10 = some (.str []) := by kernel_rfl
theorem u_11 : Try.prog.underlying 11 = some .string := by kernel_rfl
theorem k_11 : kindT Try.prog 11 = some false := by kernel_rfl
theorem c_11 : Try.prog.cellsOf 11 = 1 := by kernel_rfl
theorem b_11 : Try.prog.bytesOf 11 = 16 := by kernel_rfl
theorem z_11 : tzero Try.prog 11 = some (.str []) := by kernel_rfl
theorem u_12 : Try.prog.underlying 12 = some (.int .u64) := by kernel_rfl
theorem k_12 : kindT Try.prog 12 = some false := by kernel_rfl
theorem c_12 : Try.prog.cellsOf 12 = 1 := by kernel_rfl
theorem b_12 : Try.prog.bytesOf 12 = 8 := by kernel_rfl
theorem z_12 : tzero Try.prog 12 = some (.int .u64 0) := by kernel_rfl
theorem k_13 : kindT Try.prog 13 = some true := by kernel_rfl
theorem c_13 : Try.prog.cellsOf 13 = 2 := by kernel_rfl
theorem b_13 : Try.prog.bytesOf 13 = 24 := by kernel_rfl
theorem z_13 : tzero Try.prog 13 = some (.agg [.str [], .int .u64 0]) := by kernel_rfl
theorem s_13 : structT Try.prog 13 = true := by kernel_rfl
theorem g_13 : goodT Try.prog 13 = true := by kernel_rfl
theorem f_13_0 : fieldP Try.prog 13 0 = some (9, 0) := by kernel_rfl
theorem f_13_1 : fieldP Try.prog 13 1 = some (12, 1) := by kernel_rfl
theorem k_14 : kindT Try.prog 14 = some true := by kernel_rfl
theorem c_14 : Try.prog.cellsOf 14 = 2 := by kernel_rfl
theorem b_14 : Try.prog.bytesOf 14 = 24 := by kernel_rfl
theorem z_14 : tzero Try.prog 14 = some (.agg [.str [], .int .u64 0]) := by kernel_rfl
theorem s_14 : structT Try.prog 14 = true := by kernel_rfl
theorem g_14 : goodT Try.prog 14 = true := by kernel_rfl
theorem f_14_0 : fieldP Try.prog 14 0 = some (9, 0) := by kernel_rfl
theorem f_14_1 : fieldP Try.prog 14 1 = some (12, 1) := by kernel_rfl
theorem u_15 : Try.prog.underlying 15 = some (.pointer 174) := by kernel_rfl
theorem k_15 : kindT Try.prog 15 = some false := by kernel_rfl
theorem c_15 : Try.prog.cellsOf 15 = 1 := by kernel_rfl
theorem b_15 : Try.prog.bytesOf 15 = 8 := by kernel_rfl
theorem z_15 : tzero Try.prog 15 = some (.nilp) := by kernel_rfl
theorem u_16 : Try.prog.underlying 16 = some (.pointer 177) := by kernel_rfl
theorem k_16 : kindT Try.prog 16 = some false := by kernel_rfl
theorem c_16 : Try.prog.cellsOf 16 = 1 := by kernel_rfl
theorem b_16 : Try.prog.bytesOf 16 = 8 := by kernel_rfl
theorem z_16 : tzero Try.prog 16 = some (.nilp) := by kernel_rfl
theorem u_17 : Try.prog.underlying 17 = some (.pointer 184) := by kernel_rfl
theorem k_17 : kindT Try.prog 17 = some false := by kernel_rfl
theorem c_17 : Try.prog.cellsOf 17 = 1 := by kernel_rfl
theorem b_17 : Try.prog.bytesOf 17 = 8 := by kernel_rfl
theorem z_17 : tzero Try.prog 17 = some (.nilp) := by kernel_rfl
theorem k_18 : kindT Try.prog 18 = some true := by kernel_rfl
theorem c_18 : Try.prog.cellsOf 18 = 1 := by kernel_rfl
theorem b_18 : Try.prog.bytesOf 18 = 8 := by kernel_rfl
theorem z_18 : tzero Try.prog 18 = some (.agg [.nilp]) := by kernel_rfl
theorem s_18 : structT Try.prog 18 = true := by kernel_rfl
theorem g_18 : goodT Try.prog 18 = true := by kernel_rfl
theorem f_18_0 : fieldP Try.prog 18 0 = some (17, 0) := by kernel_rfl
theorem k_19 : kindT Try.prog 19 = some true := by kernel_rfl
theorem c_19 : Try.prog.cellsOf 19 = 1 := by kernel_rfl
theorem b_19 : Try.prog.bytesOf 19 = 8 := by kernel_rfl
theorem z_19 : tzero Try.prog 19 = some (.agg [.nilp]) := by kernel_rfl
theorem s_19 : structT Try.prog 19 = true := by kernel_rfl
theorem g_19 : goodT Try.prog 19 = true := by kernel_rfl
theorem f_19_0 : fieldP Try.prog 19 0 = some (17, 0) := by kernel_rfl
theorem u_21 : Try.prog.underlying 21 = some (.int .i32) := by kernel_rfl
theorem k_21 : kindT Try.prog 21 = some false := by kernel_rfl
theorem c_21 : Try.prog.cellsOf 21 = 1 := by kernel_rfl
theorem b_21 : Try.prog.bytesOf 21 = 4 := by kernel_rfl
theorem z_21 : tzero Try.prog 21 = some (.int .i32 0) := by kernel_rfl
theorem u_22 : Try.prog.underlying 22 = some (.slice 9) := by kernel_rfl
theorem k_22 : kindT Try.prog 22 = some false := by kernel_rfl
theorem c_22 : Try.prog.cellsOf 22 = 1 := by kernel_rfl
theorem b_22 : Try.prog.bytesOf 22 = 24 := by kernel_rfl
theorem z_22 : tzero Try.prog 22 = some (.list .nil []) := by kernel_rfl
theorem g_22 : goodT Try.prog 22 = true := by kernel_rfl
theorem u_23 : Try.prog.underlying 23 = some (.slice 4) := by kernel_rfl
theorem k_23 : kindT Try.prog 23 = some false := by kernel_rfl
theorem c_23 : Try.prog.cellsOf 23 = 1 := by kernel_rfl
theorem b_23 : Try.prog.bytesOf 23 = 24 := by kernel_rfl
theorem z_23 : tzero Try.prog 23 = some (.list .nil []) := by kernel_rfl
theorem g_23 : goodT Try.prog 23 = true := by kernel_rfl
theorem k_24 : kindT Try.prog 24 = some true := by kernel_rfl
theorem c_24 : Try.prog.cellsOf 24 = 7 := by kernel_rfl
theorem b_24 : Try.prog.bytesOf 24 = 96 := by kernel_rfl
theorem z_24 : tzero Try.prog 24 = some (.agg [.int .i64 0, .int .i64 0, .list .nil [], .list .nil [], .str [], .bool false, .int .i64 0]) := by kernel_rfl
theorem s_24 : structT Try.prog 24 = true := by kernel_rfl
theorem g_24 : goodT Try.prog 24 = true := by kernel_rfl
theorem f_24_0 : fieldP Try.prog 24 0 = some (3, 0) := by kernel_rfl
theorem f_24_1 : fieldP Try.prog 24 1 = some (3, 1) := by kernel_rfl
theorem f_24_2 : fieldP Try.prog 24 2 = some (22, 2) := by kernel_rfl
theorem f_24_3 : fieldP Try.prog 24 3 = some (23, 3) := by kernel_rfl
theorem f_24_4 : fieldP Try.prog 24 4 = some (9, 4) := by kernel_rfl
theorem f_24_5 : fieldP Try.prog 24 5 = some (4, 5) := by kernel_rfl
theorem f_24_6 : fieldP Try.prog 24 6 = some (3, 6) := by kernel_rfl
theorem k_25 : kindT Try.prog 25 = some true := by kernel_rfl
theorem c_25 : Try.prog.cellsOf 25 = 7 := by kernel_rfl
theorem b_25 : Try.prog.bytesOf 25 = 96 := by kernel_rfl
theorem z_25 : tzero Try.prog 25 = some (.agg [.int .i64 0, .int .i64 0, .list .nil [], .list .nil [], .str [], .bool false, .int .i64 0]) := by kernel_rfl
theorem s_25 : structT Try.prog 25 = true := by kernel_rfl
theorem g_25 : goodT Try.prog 25 = true := by kernel_rfl
theorem f_25_0 : fieldP Try.prog 25 0 = some (3, 0) := by kernel_rfl
theorem f_25_1 : fieldP Try.prog 25 1 = some (3, 1) := by kernel_rfl
theorem f_25_2 : fieldP Try.prog 25 2 = some (22, 2) := by kernel_rfl
theorem f_25_3 : fieldP Try.prog 25 3 = some (23, 3) := by kernel_rfl
theorem f_25_4 : fieldP Try.prog 25 4 = some (9, 4) := by kernel_rfl
theorem f_25_5 : fieldP Try.prog 25 5 = some (4, 5) := by kernel_rfl
theorem f_25_6 : fieldP Try.prog 25 6 = some (3, 6) := by kernel_rfl
theorem u_28 : Try.prog.underlying 28 = some (.int .i64) := by kernel_rfl
theorem k_28 : kindT Try.prog 28 = some false := by kernel_rfl
theorem c_28 : Try.prog.cellsOf 28 = 1 := by kernel_rfl
theorem b_28 : Try.prog.bytesOf 28 = 8 := by kernel_rfl
theorem z_28 : tzero Try.prog 28 = some (.int .i64 0) := by kernel_rfl
theorem u_44 : Try.prog.underlying 44 = some (.slice 57) := by kernel_rfl
theorem k_44 : kindT Try.prog 44 = some false := by kernel_rfl
theorem c_44 : Try.prog.cellsOf 44 = 1 := by kernel_rfl
theorem b_44 : Try.prog.bytesOf 44 = 24 := by kernel_rfl
theorem z_44 : tzero Try.prog 44 = some (.list .nil []) := by kernel_rfl
theorem g_44 : goodT Try.prog 44 = true := by kernel_rfl
theorem u_46 : Try.prog.underlying 46 = some (.slice 59) := by kernel_rfl
theorem k_46 : kindT Try.prog 46 = some false := by kernel_rfl
theorem c_46 : Try.prog.cellsOf 46 = 1 := by kernel_rfl
theorem b_46 : Try.prog.bytesOf 46 = 24 := by kernel_rfl
theorem z_46 : tzero Try.prog 46 = some (.list .nil []) := by kernel_rfl
theorem g_46 : goodT Try.prog 46 = true := by kernel_rfl
theorem k_56 : kindT Try.prog 56 = some true := by kernel_rfl
theorem c_56 : Try.prog.cellsOf 56 = 3 := by kernel_rfl
theorem b_56 : Try.prog.bytesOf 56 = 32 := by kernel_rfl
theorem z_56 : tzero Try.prog 56 = some (.agg [.int .i64 0, .int .i64 0, .str []]) := by kernel_rfl
theorem s_56 : structT Try.prog 56 = true := by kernel_rfl
theorem g_56 : goodT Try.prog 56 = true := by kernel_rfl
theorem f_56_0 : fieldP Try.prog 56 0 = some (3, 0) := by kernel_rfl
theorem f_56_1 : fieldP Try.prog 56 1 = some (3, 1) := by kernel_rfl
theorem f_56_2 : fieldP Try.prog 56 2 = some (9, 2) := by kernel_rfl
theorem k_57 : kindT Try.prog 57 = some true := by kernel_rfl
theorem c_57 : Try.prog.cellsOf 57 = 3 := by kernel_rfl
theorem b_57 : Try.prog.bytesOf 57 = 32 := by kernel_rfl
theorem z_57 : tzero Try.prog 57 = some (.agg [.int .i64 0, .int .i64 0, .str []]) := by kernel_rfl
theorem s_57 : structT Try.prog 57 = true := by kernel_rfl
theorem g_57 : goodT Try.prog 57 = true := by kernel_rfl
theorem f_57_0 : fieldP Try.prog 57 0 = some (3, 0) := by kernel_rfl
theorem f_57_1 : fieldP Try.prog 57 1 = some (3, 1) := by kernel_rfl
theorem f_57_2 : fieldP Try.prog 57 2 = some (9, 2) := by kernel_rfl
theorem k_58 : kindT Try.prog 58 = some true := by kernel_rfl
theorem c_58 : Try.prog.cellsOf 58 = 3 := by kernel_rfl
theorem b_58 : Try.prog.bytesOf 58 = 32 := by kernel_rfl
theorem z_58 : tzero Try.prog 58 = some (.agg [.int .i64 0, .str [], .int .i64 0]) := by kernel_rfl
theorem s_58 : structT Try.prog 58 = true := by kernel_rfl
theorem g_58 : goodT Try.prog 58 = true := by kernel_rfl
theorem f_58_0 : fieldP Try.prog 58 0 = some (3, 0) := by kernel_rfl
theorem f_58_1 : fieldP Try.prog 58 1 = some (9, 1) := by kernel_rfl
theorem f_58_2 : fieldP Try.prog 58 2 = some (3, 2) := by kernel_rfl
theorem k_59 : kindT Try.prog 59 = some true := by kernel_rfl
theorem c_59 : Try.prog.cellsOf 59 = 3 := by kernel_rfl
theorem b_59 : Try.prog.bytesOf 59 = 32 := by kernel_rfl
theorem z_59 : tzero Try.prog 59 = some (.agg [.int .i64 0, .str [], .int .i64 0]) := by kernel_rfl
theorem s_59 : structT Try.prog 59 = true := by kernel_rfl
theorem g_59 : goodT Try.prog 59 = true := by kernel_rfl
theorem f_59_0 : fieldP Try.prog 59 0 = some (3, 0) := by kernel_rfl
theorem f_59_1 : fieldP Try.prog 59 1 = some (9, 1) := by kernel_rfl
theorem f_59_2 : fieldP Try.prog 59 2 = some (3, 2) := by kernel_rfl
theorem u_67 : Try.prog.underlying 67 = some (.slice 71) := by kernel_rfl
theorem k_67 : kindT Try.prog 67 = some false := by kernel_rfl
theorem c_67 : Try.prog.cellsOf 67 = 1 := by kernel_rfl
theorem b_67 : Try.prog.bytesOf 67 = 24 := by kernel_rfl
theorem z_67 : tzero Try.prog 67 = some (.list .nil []) := by kernel_rfl
theorem g_67 : goodT Try.prog 67 = true := by kernel_rfl
theorem k_68 : kindT Try.prog 68 = some true := by kernel_rfl
theorem c_68 : Try.prog.cellsOf 68 = 3 := by kernel_rfl
theorem b_68 : Try.prog.bytesOf 68 = 24 := by kernel_rfl
theorem z_68 : tzero Try.prog 68 = some (.agg [.int .i64 0, .int .i64 0, .int .i64 0]) := by kernel_rfl
theorem s_68 : structT Try.prog 68 = true := by kernel_rfl
theorem g_68 : goodT Try.prog 68 = true := by kernel_rfl
theorem f_68_0 : fieldP Try.prog 68 0 = some (3, 0) := by kernel_rfl
theorem f_68_1 : fieldP Try.prog 68 1 = some (3, 1) := by kernel_rfl
theorem f_68_2 : fieldP Try.prog 68 2 = some (3, 2) := by kernel_rfl
theorem k_69 : kindT Try.prog 69 = some true := by kernel_rfl
theorem c_69 : Try.prog.cellsOf 69 = 3 := by kernel_rfl
theorem b_69 : Try.prog.bytesOf 69 = 24 := by kernel_rfl
theorem z_69 : tzero Try.prog 69 = some (.agg [.int .i64 0, .int .i64 0, .int .i64 0]) := by kernel_rfl
theorem s_69 : structT Try.prog 69 = true := by kernel_rfl
theorem g_69 : goodT Try.prog 69 = true := by kernel_rfl
theorem f_69_0 : fieldP Try.prog 69 0 = some (3, 0) := by kernel_rfl
theorem f_69_1 : fieldP Try.prog 69 1 = some (3, 1) := by kernel_rfl
theorem f_69_2 : fieldP Try.prog 69 2 = some (3, 2) := by kernel_rfl
theorem k_70 : kindT Try.prog 70 = some true := by kernel_rfl
theorem c_70 : Try.prog.cellsOf 70 = 3 := by kernel_rfl
theorem b_70 : Try.prog.bytesOf 70 = 32 := by kernel_rfl
theorem z_70 : tzero Try.prog 70 = some (.agg [.int .i64 0, .int .i64 0, .str []]) := by kernel_rfl
theorem s_70 : structT Try.prog 70 = true := by kernel_rfl
theorem g_70 : goodT Try.prog 70 = true := by kernel_rfl
theorem f_70_0 : fieldP Try.prog 70 0 = some (3, 0) := by kernel_rfl
theorem f_70_1 : fieldP Try.prog 70 1 = some (3, 1) := by kernel_rfl
theorem f_70_2 : fieldP Try.prog 70 2 = some (9, 2) := by kernel_rfl
theorem k_71 : kindT Try.prog 71 = some true := by kernel_rfl
theorem c_71 : Try.prog.cellsOf 71 = 3 := by kernel_rfl
theorem b_71 : Try.prog.bytesOf 71 = 32 := by kernel_rfl
theorem z_71 : tzero Try.prog 71 = some (.agg [.int .i64 0, .int .i64 0, .str []]) := by kernel_rfl
theorem s_71 : structT Try.prog 71 = true := by kernel_rfl
theorem g_71 : goodT Try.prog 71 = true := by kernel_rfl
theorem f_71_0 : fieldP Try.prog 71 0 = some (3, 0) := by kernel_rfl
theorem f_71_1 : fieldP Try.prog 71 1 = some (3, 1) := by kernel_rfl
theorem f_71_2 : fieldP Try.prog 71 2 = some (9, 2) := by kernel_rfl
theorem u_81 : Try.prog.underlying 81 = some (.slice 3) := by kernel_rfl
theorem k_81 : kindT Try.prog 81 = some false := by kernel_rfl
theorem c_81 : Try.prog.cellsOf 81 = 1 := by kernel_rfl
theorem b_81 : Try.prog.bytesOf 81 = 24 := by kernel_rfl
theorem z_81 : tzero Try.prog 81 = some (.list .nil []) := by kernel_rfl
theorem g_81 : goodT Try.prog 81 = true := by kernel_rfl
theorem u_88 : Try.prog.underlying 88 = some (.int .u16) := by kernel_rfl
theorem k_88 : kindT Try.prog 88 = some false := by kernel_rfl
theorem c_88 : Try.prog.cellsOf 88 = 1 := by kernel_rfl
theorem b_88 : Try.prog.bytesOf 88 = 2 := by kernel_rfl
theorem z_88 : tzero Try.prog 88 = some (.int .u16 0) := by kernel_rfl
theorem k_89 : kindT Try.prog 89 = some true := by kernel_rfl
theorem c_89 : Try.prog.cellsOf 89 = 3 := by kernel_rfl
theorem b_89 : Try.prog.bytesOf 89 = 6 := by kernel_rfl
theorem z_89 : tzero Try.prog 89 = some (.agg [.int .u16 0, .int .u16 0, .int .u16 0]) := by kernel_rfl
theorem s_89 : structT Try.prog 89 = true := by kernel_rfl
theorem g_89 : goodT Try.prog 89 = true := by kernel_rfl
theorem f_89_0 : fieldP Try.prog 89 0 = some (88, 0) := by kernel_rfl
theorem f_89_1 : fieldP Try.prog 89 1 = some (88, 1) := by kernel_rfl
theorem f_89_2 : fieldP Try.prog 89 2 = some (88, 2) := by kernel_rfl
theorem k_90 : kindT Try.prog 90 = some true := by kernel_rfl
theorem c_90 : Try.prog.cellsOf 90 = 3 := by kernel_rfl
theorem b_90 : Try.prog.bytesOf 90 = 6 := by kernel_rfl
theorem z_90 : tzero Try.prog 90 = some (.agg [.int .u16 0, .int .u16 0, .int .u16 0]) := by kernel_rfl
theorem s_90 : structT Try.prog 90 = true := by kernel_rfl
theorem g_90 : goodT Try.prog 90 = true := by kernel_rfl
theorem f_90_0 : fieldP Try.prog 90 0 = some (88, 0) := by kernel_rfl
theorem f_90_1 : fieldP Try.prog 90 1 = some (88, 1) := by kernel_rfl
theorem f_90_2 : fieldP Try.prog 90 2 = some (88, 2) := by kernel_rfl
theorem u_95 : Try.prog.underlying 95 = some (.slice 5) := by kernel_rfl
theorem k_95 : kindT Try.prog 95 = some false := by kernel_rfl
theorem c_95 : Try.prog.cellsOf 95 = 1 := by kernel_rfl
theorem b_95 : Try.prog.bytesOf 95 = 24 := by kernel_rfl
theorem z_95 : tzero Try.prog 95 = some (.list .nil []) := by kernel_rfl
theorem g_95 : goodT Try.prog 95 = true := by kernel_rfl
theorem k_99 : kindT Try.prog 99 = some true := by kernel_rfl
theorem c_99 : Try.prog.cellsOf 99 = 7 := by kernel_rfl
theorem b_99 : Try.prog.bytesOf 99 = 96 := by kernel_rfl
theorem z_99 : tzero Try.prog 99 = some (.agg [.int .i64 0, .int .i64 0, .list .nil [], .list .nil [], .str [], .bool false, .int .i64 0]) := by kernel_rfl
theorem s_99 : structT Try.prog 99 = true := by kernel_rfl
theorem g_99 : goodT Try.prog 99 = true := by kernel_rfl
theorem f_99_0 : fieldP Try.prog 99 0 = some (25, 0) := by kernel_rfl
theorem k_100 : kindT Try.prog 100 = some true := by kernel_rfl
theorem c_100 : Try.prog.cellsOf 100 = 7 := by kernel_rfl
theorem b_100 : Try.prog.bytesOf 100 = 96 := by kernel_rfl
theorem z_100 : tzero Try.prog 100 = some (.agg [.int .i64 0, .int .i64 0, .list .nil [], .list .nil [], .str [], .bool false, .int .i64 0]) := by kernel_rfl
theorem s_100 : structT Try.prog 100 = true := by kernel_rfl
theorem g_100 : goodT Try.prog 100 = true := by kernel_rfl
theorem f_100_0 : fieldP Try.prog 100 0 = some (25, 0) := by kernel_rfl
theorem u_132 : Try.prog.underlying 132 = some (.pointer 134) := by kernel_rfl
theorem k_132 : kindT Try.prog 132 = some false := by kernel_rfl
theorem c_132 : Try.prog.cellsOf 132 = 1 := by kernel_rfl
theorem b_132 : Try.prog.bytesOf 132 = 8 := by kernel_rfl
theorem z_132 : tzero Try.prog 132 = some (.nilp) := by kernel_rfl
theorem k_133 : kindT Try.prog 133 = some true := by kernel_rfl
theorem c_133 : Try.prog.cellsOf 133 = 2 := by kernel_rfl
theorem b_133 : Try.prog.bytesOf 133 = 32 := by kernel_rfl
theorem z_133 : tzero Try.prog 133 = some (.agg [.nilp, .list .nil []]) := by kernel_rfl
theorem s_133 : structT Try.prog 133 = true := by kernel_rfl
theorem g_133 : goodT Try.prog 133 = true := by kernel_rfl
theorem f_133_0 : fieldP Try.prog 133 0 = some (132, 0) := by kernel_rfl
theorem f_133_1 : fieldP Try.prog 133 1 = some (95, 1) := by kernel_rfl
theorem k_134 : kindT Try.prog 134 = some true := by kernel_rfl
theorem c_134 : Try.prog.cellsOf 134 = 2 := by kernel_rfl
theorem b_134 : Try.prog.bytesOf 134 = 32 := by kernel_rfl
theorem z_134 : tzero Try.prog 134 = some (.agg [.nilp, .list .nil []]) := by kernel_rfl
theorem s_134 : structT Try.prog 134 = true := by kernel_rfl
theorem g_134 : goodT Try.prog 134 = true := by kernel_rfl
theorem f_134_0 : fieldP Try.prog 134 0 = some (132, 0) := by kernel_rfl
theorem f_134_1 : fieldP Try.prog 134 1 = some (95, 1) := by kernel_rfl
theorem u_139 : Try.prog.underlying 139 = some (.slice 28) := by kernel_rfl
theorem k_139 : kindT Try.prog 139 = some false := by kernel_rfl
theorem c_139 : Try.prog.cellsOf 139 = 1 := by kernel_rfl
theorem b_139 : Try.prog.bytesOf 139 = 24 := by kernel_rfl
theorem z_139 : tzero Try.prog 139 = some (.list .nil []) := by kernel_rfl
theorem g_139 : goodT Try.prog 139 = true := by kernel_rfl
theorem u_150 : Try.prog.underlying 150 = some (.array 3 149) := by kernel_rfl
theorem k_150 : kindT Try.prog 150 = some true := by kernel_rfl
theorem c_150 : Try.prog.cellsOf 150 = 3 := by kernel_rfl
theorem b_150 : Try.prog.bytesOf 150 = 24 := by kernel_rfl
theorem z_150 : tzero Try.prog 150 = some (.agg [.nilf, .nilf, .nilf]) := by kernel_rfl
theorem g_150 : goodT Try.prog 150 = true := by kernel_rfl
theorem u_153 : Try.prog.underlying 153 = some (.pointer 5) := by kernel_rfl
theorem k_153 : kindT Try.prog 153 = some false := by kernel_rfl
theorem c_153 : Try.prog.cellsOf 153 = 1 := by kernel_rfl
theorem b_153 : Try.prog.bytesOf 153 = 8 := by kernel_rfl
theorem z_153 : tzero Try.prog 153 = some (.nilp) := by kernel_rfl
theorem u_154 : Try.prog.underlying 154 = some (.pointer 100) := by kernel_rfl
theorem k_154 : kindT Try.prog 154 = some false := by kernel_rfl
theorem c_154 : Try.prog.cellsOf 154 = 1 := by kernel_rfl
theorem b_154 : Try.prog.bytesOf 154 = 8 := by kernel_rfl
theorem z_154 : tzero Try.prog 154 = some (.nilp) := by kernel_rfl
theorem u_155 : Try.prog.underlying 155 = some (.int .u64) := by kernel_rfl
theorem k_155 : kindT Try.prog 155 = some false := by kernel_rfl
theorem c_155 : Try.prog.cellsOf 155 = 1 := by kernel_rfl
theorem b_155 : Try.prog.bytesOf 155 = 8 := by kernel_rfl
theorem z_155 : tzero Try.prog 155 = some (.int .u64 0) := by kernel_rfl
theorem k_156 : kindT Try.prog 156 = some false := by kernel_rfl
theorem c_156 : Try.prog.cellsOf 156 = 1 := by kernel_rfl
theorem b_156 : Try.prog.bytesOf 156 = 8 := by kernel_rfl
theorem z_156 : tzero Try.prog 156 = some (.nilp) := by kernel_rfl
theorem u_165 : Try.prog.underlying 165 = some (.int .u32) := by kernel_rfl
theorem k_165 : kindT Try.prog 165 = some false := by kernel_rfl
theorem c_165 : Try.prog.cellsOf 165 = 1 := by kernel_rfl
theorem b_165 : Try.prog.bytesOf 165 = 4 := by kernel_rfl
theorem z_165 : tzero Try.prog 165 = some (.int .u32 0) := by kernel_rfl
theorem u_168 : Try.prog.underlying 168 = some (.int .u64) := by kernel_rfl
theorem k_168 : kindT Try.prog 168 = some false := by kernel_rfl
theorem c_168 : Try.prog.cellsOf 168 = 1 := by kernel_rfl
theorem b_168 : Try.prog.bytesOf 168 = 8 := by kernel_rfl
theorem z_168 : tzero Try.prog 168 = some (.int .u64 0) := by kernel_rfl
theorem k_173 : kindT Try.prog 173 = some true := by kernel_rfl
theorem c_173 : Try.prog.cellsOf 173 = 4 := by kernel_rfl
theorem b_173 : Try.prog.bytesOf 173 = 40 := by kernel_rfl
theorem z_173 : tzero Try.prog 173 = some (.agg [.nilp, .nilp, .nilp, .str []]) := by kernel_rfl
theorem s_173 : structT Try.prog 173 = true := by kernel_rfl
theorem g_173 : goodT Try.prog 173 = true := by kernel_rfl
theorem f_173_0 : fieldP Try.prog 173 0 = some (17, 0) := by kernel_rfl
theorem f_173_1 : fieldP Try.prog 173 1 = some (17, 1) := by kernel_rfl
theorem f_173_2 : fieldP Try.prog 173 2 = some (17, 2) := by kernel_rfl
theorem f_173_3 : fieldP Try.prog 173 3 = some (9, 3) := by kernel_rfl
theorem k_174 : kindT Try.prog 174 = some true := by kernel_rfl
theorem c_174 : Try.prog.cellsOf 174 = 4 := by kernel_rfl
theorem b_174 : Try.prog.bytesOf 174 = 40 := by kernel_rfl
theorem z_174 : tzero Try.prog 174 = some (.agg [.nilp, .nilp, .nilp, .str []]) := by kernel_rfl
theorem s_174 : structT Try.prog 174 = true := by kernel_rfl
theorem g_174 : goodT Try.prog 174 = true := by kernel_rfl
theorem f_174_0 : fieldP Try.prog 174 0 = some (17, 0) := by kernel_rfl
theorem f_174_1 : fieldP Try.prog 174 1 = some (17, 1) := by kernel_rfl
theorem f_174_2 : fieldP Try.prog 174 2 = some (17, 2) := by kernel_rfl
theorem f_174_3 : fieldP Try.prog 174 3 = some (9, 3) := by kernel_rfl
theorem u_175 : Try.prog.underlying 175 = some (.array 0 16) := by kernel_rfl
theorem k_175 : kindT Try.prog 175 = some true := by kernel_rfl
theorem c_175 : Try.prog.cellsOf 175 = 0 := by kernel_rfl
theorem b_175 : Try.prog.bytesOf 175 = 0 := by kernel_rfl
theorem z_175 : tzero Try.prog 175 = some (.agg []) := by kernel_rfl
theorem g_175 : goodT Try.prog 175 = true := by kernel_rfl
theorem k_176 : kindT Try.prog 176 = some true := by kernel_rfl
theorem c_176 : Try.prog.cellsOf 176 = 0 := by kernel_rfl
theorem b_176 : Try.prog.bytesOf 176 = 0 := by kernel_rfl
theorem z_176 : tzero Try.prog 176 = some (.agg []) := by kernel_rfl
theorem s_176 : structT Try.prog 176 = true := by kernel_rfl
theorem g_176 : goodT Try.prog 176 = true := by kernel_rfl
theorem f_176_0 : fieldP Try.prog 176 0 = some (175, 0) := by kernel_rfl
theorem k_177 : kindT Try.prog 177 = some true := by kernel_rfl
theorem c_177 : Try.prog.cellsOf 177 = 0 := by kernel_rfl
theorem b_177 : Try.prog.bytesOf 177 = 0 := by kernel_rfl
theorem z_177 : tzero Try.prog 177 = some (.agg []) := by kernel_rfl
theorem s_177 : structT Try.prog 177 = true := by kernel_rfl
theorem g_177 : goodT Try.prog 177 = true := by kernel_rfl
theorem f_177_0 : fieldP Try.prog 177 0 = some (175, 0) := by kernel_rfl
theorem u_178 : Try.prog.underlying 178 = some (.int .u8) := by kernel_rfl
theorem k_178 : kindT Try.prog 178 = some false := by kernel_rfl
theorem c_178 : Try.prog.cellsOf 178 = 1 := by kernel_rfl
theorem b_178 : Try.prog.bytesOf 178 = 1 := by kernel_rfl
theorem z_178 : tzero Try.prog 178 = some (.int .u8 0) := by kernel_rfl
theorem u_179 : Try.prog.underlying 179 = some (.int .u8) := by kernel_rfl
theorem k_179 : kindT Try.prog 179 = some false := by kernel_rfl
theorem c_179 : Try.prog.cellsOf 179 = 1 := by kernel_rfl
theorem b_179 : Try.prog.bytesOf 179 = 1 := by kernel_rfl
theorem z_179 : tzero Try.prog 179 = some (.int .u8 0) := by kernel_rfl
theorem u_181 : Try.prog.underlying 181 = some (.int .i32) := by kernel_rfl
theorem k_181 : kindT Try.prog 181 = some false := by kernel_rfl
theorem c_181 : Try.prog.cellsOf 181 = 1 := by kernel_rfl
theorem b_181 : Try.prog.bytesOf 181 = 4 := by kernel_rfl
theorem z_181 : tzero Try.prog 181 = some (.int .i32 0) := by kernel_rfl
theorem u_182 : Try.prog.underlying 182 = some (.int .i32) := by kernel_rfl
theorem k_182 : kindT Try.prog 182 = some false := by kernel_rfl
theorem c_182 : Try.prog.cellsOf 182 = 1 := by kernel_rfl
theorem b_182 : Try.prog.bytesOf 182 = 4 := by kernel_rfl
theorem z_182 : tzero Try.prog 182 = some (.int .i32 0) := by kernel_rfl
theorem k_183 : kindT Try.prog 183 = some true := by kernel_rfl
theorem c_183 : Try.prog.cellsOf 183 = 11 := by kernel_rfl
theorem b_183 : Try.prog.bytesOf 183 = 48 := by kernel_rfl
theorem z_183 : tzero Try.prog 183 = some (.agg [.int .u64 0, .int .u64 0, .int .u32 0, .int .u8 0, .int .u8 0, .int .u8 0, .int .u8 0, .nilf, .nilp, .int .i32 0, .int .i32 0]) := by kernel_rfl
theorem s_183 : structT Try.prog 183 = true := by kernel_rfl
theorem g_183 : goodT Try.prog 183 = true := by kernel_rfl
theorem f_183_0 : fieldP Try.prog 183 0 = some (12, 0) := by kernel_rfl
theorem f_183_1 : fieldP Try.prog 183 1 = some (12, 1) := by kernel_rfl
theorem f_183_2 : fieldP Try.prog 183 2 = some (165, 2) := by kernel_rfl
theorem f_183_3 : fieldP Try.prog 183 3 = some (178, 3) := by kernel_rfl
theorem f_183_4 : fieldP Try.prog 183 4 = some (5, 4) := by kernel_rfl
theorem f_183_5 : fieldP Try.prog 183 5 = some (5, 5) := by kernel_rfl
theorem f_183_6 : fieldP Try.prog 183 6 = some (179, 6) := by kernel_rfl
theorem f_183_7 : fieldP Try.prog 183 7 = some (180, 7) := by kernel_rfl
theorem f_183_8 : fieldP Try.prog 183 8 = some (153, 8) := by kernel_rfl
theorem f_183_9 : fieldP Try.prog 183 9 = some (181, 9) := by kernel_rfl
theorem f_183_10 : fieldP Try.prog 183 10 = some (182, 10) := by kernel_rfl
theorem k_184 : kindT Try.prog 184 = some true := by kernel_rfl
theorem c_184 : Try.prog.cellsOf 184 = 11 := by kernel_rfl
theorem b_184 : Try.prog.bytesOf 184 = 48 := by kernel_rfl
theorem z_184 : tzero Try.prog 184 = some (.agg [.int .u64 0, .int .u64 0, .int .u32 0, .int .u8 0, .int .u8 0, .int .u8 0, .int .u8 0, .nilf, .nilp, .int .i32 0, .int .i32 0]) := by kernel_rfl
theorem s_184 : structT Try.prog 184 = true := by kernel_rfl
theorem g_184 : goodT Try.prog 184 = true := by kernel_rfl
theorem f_184_0 : fieldP Try.prog 184 0 = some (12, 0) := by kernel_rfl
theorem f_184_1 : fieldP Try.prog 184 1 = some (12, 1) := by kernel_rfl
theorem f_184_2 : fieldP Try.prog 184 2 = some (165, 2) := by kernel_rfl
theorem f_184_3 : fieldP Try.prog 184 3 = some (178, 3) := by kernel_rfl
theorem f_184_4 : fieldP Try.prog 184 4 = some (5, 4) := by kernel_rfl
theorem f_184_5 : fieldP Try.prog 184 5 = some (5, 5) := by kernel_rfl
theorem f_184_6 : fieldP Try.prog 184 6 = some (179, 6) := by kernel_rfl
theorem f_184_7 : fieldP Try.prog 184 7 = some (180, 7) := by kernel_rfl
theorem f_184_8 : fieldP Try.prog 184 8 = some (153, 8) := by kernel_rfl
theorem f_184_9 : fieldP Try.prog 184 9 = some (181, 9) := by kernel_rfl
theorem f_184_10 : fieldP Try.prog 184 10 = some (182, 10) := by kernel_rfl
theorem ok10 : FnOK Try.prog 10 Try.f10 (bodyOf Try.f10) := FnOK.mk' Try.func10 (by kernel_rfl)
theorem rs10 : Try.f10.results = #[.tmp 6] := rfl
theorem ok11 : FnOK Try.prog 11 Try.f11 (bodyOf Try.f11) := FnOK.mk' Try.func11 (by kernel_rfl)
theorem rs11 : Try.f11.results = #[.tmp 0] := rfl
theorem ok13 : FnOK Try.prog 13 Try.f13 (bodyOf Try.f13) := FnOK.mk' Try.func13 (by kernel_rfl)
theorem rs13 : Try.f13.results = #[.tmp 2, .tmp 3] := rfl
theorem ok14 : FnOK Try.prog 14 Try.f14 (bodyOf Try.f14) := FnOK.mk' Try.func14 (by kernel_rfl)
theorem rs14 : Try.f14.results = #[.cell 2 25] := rfl
theorem ok15 : FnOK Try.prog 15 Try.f15 (bodyOf Try.f15) := FnOK.mk' Try.func15 (by kernel_rfl)
theorem rs15 : Try.f15.results = #[.tmp 2] := rfl
theorem ok16 : FnOK Try.prog 16 Try.f16 (bodyOf Try.f16) := FnOK.mk' Try.func16 (by kernel_rfl)
theorem rs16 : Try.f16.results = #[.tmp 2] := rfl
theorem ok17 : FnOK Try.prog 17 Try.f17 (bodyOf Try.f17) := FnOK.mk' Try.func17 (by kernel_rfl)
theorem rs17 : Try.f17.results = #[.cell 6 25, .tmp 7, .tmp 8] := rfl
theorem ok21 : FnOK Try.prog 21 Try.f21 (bodyOf Try.f21) := FnOK.mk' Try.func21 (by kernel_rfl)
theorem rs21 : Try.f21.results = #[.tmp 2, .tmp 3] := rfl
theorem ok24 : FnOK Try.prog 24 Try.f24 (bodyOf Try.f24) := FnOK.mk' Try.func24 (by kernel_rfl)
theorem rs24 : Try.f24.results = #[.cell 4 25, .tmp 5, .tmp 6, .tmp 7] := rfl
theorem ok25 : FnOK Try.prog 25 Try.f25 (bodyOf Try.f25) := FnOK.mk' Try.func25 (by kernel_rfl)
theorem rs25 : Try.f25.results = #[.tmp 2] := rfl
theorem ok29 : FnOK Try.prog 29 Try.f29 (bodyOf Try.f29) := FnOK.mk' Try.func29 (by kernel_rfl)
theorem rs29 : Try.f29.results = #[.cell 4 25, .cell 5 59, .tmp 6] := rfl
theorem ok33 : FnOK Try.prog 33 Try.f33 (bodyOf Try.f33) := FnOK.mk' Try.func33 (by kernel_rfl)
theorem rs33 : Try.f33.results = #[.tmp 4, .tmp 5] := rfl
theorem ok34 : FnOK Try.prog 34 Try.f34 (bodyOf Try.f34) := FnOK.mk' Try.func34 (by kernel_rfl)
theorem rs34 : Try.f34.results = #[.tmp 2] := rfl
theorem ok36 : FnOK Try.prog 36 Try.f36 (bodyOf Try.f36) := FnOK.mk' Try.func36 (by kernel_rfl)
theorem rs36 : Try.f36.results = #[.tmp 6, .tmp 7] := rfl
theorem ok37 : FnOK Try.prog 37 Try.f37 (bodyOf Try.f37) := FnOK.mk' Try.func37 (by kernel_rfl)
theorem rs37 : Try.f37.results = #[.tmp 4, .tmp 5] := rfl
theorem ok41 : FnOK Try.prog 41 Try.f41 (bodyOf Try.f41) := FnOK.mk' Try.func41 (by kernel_rfl)
theorem rs41 : Try.f41.results = #[.tmp 4, .tmp 5, .tmp 6] := rfl
theorem ok45 : FnOK Try.prog 45 Try.f45 (bodyOf Try.f45) := FnOK.mk' Try.func45 (by kernel_rfl)
theorem rs45 : Try.f45.results = #[.tmp 4] := rfl
theorem ok46 : FnOK Try.prog 46 Try.f46 (bodyOf Try.f46) := FnOK.mk' Try.func46 (by kernel_rfl)
theorem rs46 : Try.f46.results = #[.cell 4 69] := rfl
theorem ok47 : FnOK Try.prog 47 Try.f47 (bodyOf Try.f47) := FnOK.mk' Try.func47 (by kernel_rfl)
theorem rs47 : Try.f47.results = #[.tmp 4] := rfl
theorem ok48 : FnOK Try.prog 48 Try.f48 (bodyOf Try.f48) := FnOK.mk' Try.func48 (by kernel_rfl)
theorem rs48 : Try.f48.results = #[.tmp 4] := rfl
theorem ok49 : FnOK Try.prog 49 Try.f49 (bodyOf Try.f49) := FnOK.mk' Try.func49 (by kernel_rfl)
theorem rs49 : Try.f49.results = #[.tmp 0] := rfl
theorem ok50 : FnOK Try.prog 50 Try.f50 (bodyOf Try.f50) := FnOK.mk' Try.func50 (by kernel_rfl)
theorem rs50 : Try.f50.results = #[.tmp 2] := rfl
theorem ok51 : FnOK Try.prog 51 Try.f51 (bodyOf Try.f51) := FnOK.mk' Try.func51 (by kernel_rfl)
theorem rs51 : Try.f51.results = #[.tmp 2] := rfl
theorem ok52 : FnOK Try.prog 52 Try.f52 (bodyOf Try.f52) := FnOK.mk' Try.func52 (by kernel_rfl)
theorem rs52 : Try.f52.results = #[.tmp 4] := rfl
theorem ok53 : FnOK Try.prog 53 Try.f53 (bodyOf Try.f53) := FnOK.mk' Try.func53 (by kernel_rfl)
theorem rs53 : Try.f53.results = #[.tmp 6] := rfl
theorem ok54 : FnOK Try.prog 54 Try.f54 (bodyOf Try.f54) := FnOK.mk' Try.func54 (by kernel_rfl)
theorem rs54 : Try.f54.results = #[.tmp 2] := rfl
theorem ok55 : FnOK Try.prog 55 Try.f55 (bodyOf Try.f55) := FnOK.mk' Try.func55 (by kernel_rfl)
theorem rs55 : Try.f55.results = #[.tmp 4] := rfl
theorem ok56 : FnOK Try.prog 56 Try.f56 (bodyOf Try.f56) := FnOK.mk' Try.func56 (by kernel_rfl)
theorem rs56 : Try.f56.results = #[.tmp 4] := rfl
theorem ok57 : FnOK Try.prog 57 Try.f57 (bodyOf Try.f57) := FnOK.mk' Try.func57 (by kernel_rfl)
theorem rs57 : Try.f57.results = #[.tmp 2] := rfl
theorem ok58 : FnOK Try.prog 58 Try.f58 (bodyOf Try.f58) := FnOK.mk' Try.func58 (by kernel_rfl)
theorem rs58 : Try.f58.results = #[.tmp 6] := rfl
theorem ok59 : FnOK Try.prog 59 Try.f59 (bodyOf Try.f59) := FnOK.mk' Try.func59 (by kernel_rfl)
theorem rs59 : Try.f59.results = #[.tmp 2] := rfl
theorem ok60 : FnOK Try.prog 60 Try.f60 (bodyOf Try.f60) := FnOK.mk' Try.func60 (by kernel_rfl)
theorem rs60 : Try.f60.results = #[.cell 2 25, .tmp 3, .tmp 4] := rfl
theorem ok61 : FnOK Try.prog 61 Try.f61 (bodyOf Try.f61) := FnOK.mk' Try.func61 (by kernel_rfl)
theorem rs61 : Try.f61.results = #[.cell 4 25] := rfl
theorem ok62 : FnOK Try.prog 62 Try.f62 (bodyOf Try.f62) := FnOK.mk' Try.func62 (by kernel_rfl)
theorem rs62 : Try.f62.results = #[.tmp 2] := rfl
theorem ok67 : FnOK Try.prog 67 Try.f67 (bodyOf Try.f67) := FnOK.mk' Try.func67 (by kernel_rfl)
theorem rs67 : Try.f67.results = #[.tmp 2] := rfl
theorem ok68 : FnOK Try.prog 68 Try.f68 (bodyOf Try.f68) := FnOK.mk' Try.func68 (by kernel_rfl)
theorem rs68 : Try.f68.results = #[.tmp 2, .tmp 3] := rfl
theorem ok69 : FnOK Try.prog 69 Try.f69 (bodyOf Try.f69) := FnOK.mk' Try.func69 (by kernel_rfl)
theorem rs69 : Try.f69.results = #[.cell 2 100] := rfl
theorem ok70 : FnOK Try.prog 70 Try.f70 (bodyOf Try.f70) := FnOK.mk' Try.func70 (by kernel_rfl)
theorem rs70 : Try.f70.results = #[.cell 4 100, .cell 5 59] := rfl
theorem ok71 : FnOK Try.prog 71 Try.f71 (bodyOf Try.f71) := FnOK.mk' Try.func71 (by kernel_rfl)
theorem rs71 : Try.f71.results = #[.tmp 2] := rfl
theorem ok76 : FnOK Try.prog 76 Try.f76 (bodyOf Try.f76) := FnOK.mk' Try.func76 (by kernel_rfl)
theorem rs76 : Try.f76.results = #[.tmp 4, .tmp 5] := rfl
theorem ok77 : FnOK Try.prog 77 Try.f77 (bodyOf Try.f77) := FnOK.mk' Try.func77 (by kernel_rfl)
theorem rs77 : Try.f77.results = #[.tmp 4] := rfl
theorem ok78 : FnOK Try.prog 78 Try.f78 (bodyOf Try.f78) := FnOK.mk' Try.func78 (by kernel_rfl)
theorem rs78 : Try.f78.results = #[.tmp 4] := rfl
theorem ok79 : FnOK Try.prog 79 Try.f79 (bodyOf Try.f79) := FnOK.mk' Try.func79 (by kernel_rfl)
theorem rs79 : Try.f79.results = #[.tmp 4, .tmp 5] := rfl
theorem ok80 : FnOK Try.prog 80 Try.f80 (bodyOf Try.f80) := FnOK.mk' Try.func80 (by kernel_rfl)
theorem rs80 : Try.f80.results = #[.tmp 4] := rfl
theorem ok81 : FnOK Try.prog 81 Try.f81 (bodyOf Try.f81) := FnOK.mk' Try.func81 (by kernel_rfl)
theorem rs81 : Try.f81.results = #[.tmp 6] := rfl
theorem ok84 : FnOK Try.prog 84 Try.f84 (bodyOf Try.f84) := FnOK.mk' Try.func84 (by kernel_rfl)
theorem rs84 : Try.f84.results = #[.tmp 4] := rfl
theorem ok85 : FnOK Try.prog 85 Try.f85 (bodyOf Try.f85) := FnOK.mk' Try.func85 (by kernel_rfl)
theorem rs85 : Try.f85.results = #[.tmp 2] := rfl
theorem ok86 : FnOK Try.prog 86 Try.f86 (bodyOf Try.f86) := FnOK.mk' Try.func86 (by kernel_rfl)
theorem rs86 : Try.f86.results = #[.tmp 4] := rfl
theorem ok88 : FnOK Try.prog 88 Try.f88 (bodyOf Try.f88) := FnOK.mk' Try.func88 (by kernel_rfl)
theorem rs88 : Try.f88.results = #[.tmp 4] := rfl
theorem ok89 : FnOK Try.prog 89 Try.f89 (bodyOf Try.f89) := FnOK.mk' Try.func89 (by kernel_rfl)
theorem rs89 : Try.f89.results = #[.tmp 2] := rfl
theorem ok91 : FnOK Try.prog 91 Try.f91 (bodyOf Try.f91) := FnOK.mk' Try.func91 (by kernel_rfl)
theorem rs91 : Try.f91.results = #[.tmp 4] := rfl
theorem ok92 : FnOK Try.prog 92 Try.f92 (bodyOf Try.f92) := FnOK.mk' Try.func92 (by kernel_rfl)
theorem rs92 : Try.f92.results = #[.tmp 2] := rfl
theorem ok93 : FnOK Try.prog 93 Try.f93 (bodyOf Try.f93) := FnOK.mk' Try.func93 (by kernel_rfl)
theorem rs93 : Try.f93.results = #[.tmp 4] := rfl
theorem ok94 : FnOK Try.prog 94 Try.f94 (bodyOf Try.f94) := FnOK.mk' Try.func94 (by kernel_rfl)
theorem rs94 : Try.f94.results = #[.tmp 2, .tmp 3, .tmp 4, .tmp 5] := rfl
theorem ok97 : FnOK Try.prog 97 Try.f97 (bodyOf Try.f97) := FnOK.mk' Try.func97 (by kernel_rfl)
theorem rs97 : Try.f97.results = #[.tmp 2] := rfl
theorem ok98 : FnOK Try.prog 98 Try.f98 (bodyOf Try.f98) := FnOK.mk' Try.func98 (by kernel_rfl)
theorem rs98 : Try.f98.results = #[.tmp 2] := rfl
theorem ok99 : FnOK Try.prog 99 Try.f99 (bodyOf Try.f99) := FnOK.mk' Try.func99 (by kernel_rfl)
theorem rs99 : Try.f99.results = #[.tmp 4] := rfl
theorem ok100 : FnOK Try.prog 100 Try.f100 (bodyOf Try.f100) := FnOK.mk' Try.func100 (by kernel_rfl)
theorem rs100 : Try.f100.results = #[.cell 2 59] := rfl
theorem ok101 : FnOK Try.prog 101 Try.f101 (bodyOf Try.f101) := FnOK.mk' Try.func101 (by kernel_rfl)
theorem rs101 : Try.f101.results = #[.cell 4 59] := rfl
theorem ok102 : FnOK Try.prog 102 Try.f102 (bodyOf Try.f102) := FnOK.mk' Try.func102 (by kernel_rfl)
theorem rs102 : Try.f102.results = #[.cell 4 59] := rfl
theorem ok103 : FnOK Try.prog 103 Try.f103 (bodyOf Try.f103) := FnOK.mk' Try.func103 (by kernel_rfl)
theorem rs103 : Try.f103.results = #[.cell 4 59] := rfl
theorem ok104 : FnOK Try.prog 104 Try.f104 (bodyOf Try.f104) := FnOK.mk' Try.func104 (by kernel_rfl)
theorem rs104 : Try.f104.results = #[.cell 4 71] := rfl
theorem ok105 : FnOK Try.prog 105 Try.f105 (bodyOf Try.f105) := FnOK.mk' Try.func105 (by kernel_rfl)
theorem rs105 : Try.f105.results = #[.tmp 4] := rfl
theorem ok106 : FnOK Try.prog 106 Try.f106 (bodyOf Try.f106) := FnOK.mk' Try.func106 (by kernel_rfl)
theorem rs106 : Try.f106.results = #[.tmp 4] := rfl
theorem ok110 : FnOK Try.prog 110 Try.f110 (bodyOf Try.f110) := FnOK.mk' Try.func110 (by kernel_rfl)
theorem rs110 : Try.f110.results = #[.tmp 2] := rfl
attribute [go_sem] u_2 k_2 c_2 b_2 z_2 u_3 k_3 c_3 b_3 z_3 u_4 k_4 c_4 b_4 z_4 u_5 k_5 c_5 b_5 z_5
attribute [go_sem] u_6 k_6 c_6 b_6 z_6 k_7 c_7 b_7 z_7 s_7 g_7 f_7_0 f_7_1 f_7_2 f_7_3 k_8 c_8 b_8 z_8 s_8
attribute [go_sem] g_8 f_8_0 f_8_1 f_8_2 f_8_3 u_9 k_9 c_9 b_9 z_9 u_10 k_10 c_10 b_10 z_10 u_11 k_11 c_11 b_11 z_11
attribute [go_sem] u_12 k_12 c_12 b_12 z_12 k_13 c_13 b_13 z_13 s_13 g_13 f_13_0 f_13_1 k_14 c_14 b_14 z_14 s_14 g_14 f_14_0
attribute [go_sem] f_14_1 u_15 k_15 c_15 b_15 z_15 u_16 k_16 c_16 b_16 z_16 u_17 k_17 c_17 b_17 z_17 k_18 c_18 b_18 z_18
attribute [go_sem] s_18 g_18 f_18_0 k_19 c_19 b_19 z_19 s_19 g_19 f_19_0 u_21 k_21 c_21 b_21 z_21 u_22 k_22 c_22 b_22 z_22
attribute [go_sem] g_22 u_23 k_23 c_23 b_23 z_23 g_23 k_24 c_24 b_24 z_24 s_24 g_24 f_24_0 f_24_1 f_24_2 f_24_3 f_24_4 f_24_5 f_24_6
attribute [go_sem] k_25 c_25 b_25 z_25 s_25 g_25 f_25_0 f_25_1 f_25_2 f_25_3 f_25_4 f_25_5 f_25_6 u_28 k_28 c_28 b_28 z_28 u_44 k_44
attribute [go_sem] c_44 b_44 z_44 g_44 u_46 k_46 c_46 b_46 z_46 g_46 k_56 c_56 b_56 z_56 s_56 g_56 f_56_0 f_56_1 f_56_2 k_57
attribute [go_sem] c_57 b_57 z_57 s_57 g_57 f_57_0 f_57_1 f_57_2 k_58 c_58 b_58 z_58 s_58 g_58 f_58_0 f_58_1 f_58_2 k_59 c_59 b_59
attribute [go_sem] z_59 s_59 g_59 f_59_0 f_59_1 f_59_2 u_67 k_67 c_67 b_67 z_67 g_67 k_68 c_68 b_68 z_68 s_68 g_68 f_68_0 f_68_1
attribute [go_sem] f_68_2 k_69 c_69 b_69 z_69 s_69 g_69 f_69_0 f_69_1 f_69_2 k_70 c_70 b_70 z_70 s_70 g_70 f_70_0 f_70_1 f_70_2 k_71
attribute [go_sem] c_71 b_71 z_71 s_71 g_71 f_71_0 f_71_1 f_71_2 u_81 k_81 c_81 b_81 z_81 g_81 u_88 k_88 c_88 b_88 z_88 k_89
attribute [go_sem] c_89 b_89 z_89 s_89 g_89 f_89_0 f_89_1 f_89_2 k_90 c_90 b_90 z_90 s_90 g_90 f_90_0 f_90_1 f_90_2 u_95 k_95 c_95
attribute [go_sem] b_95 z_95 g_95 k_99 c_99 b_99 z_99 s_99 g_99 f_99_0 k_100 c_100 b_100 z_100 s_100 g_100 f_100_0 u_132 k_132 c_132
attribute [go_sem] b_132 z_132 k_133 c_133 b_133 z_133 s_133 g_133 f_133_0 f_133_1 k_134 c_134 b_134 z_134 s_134 g_134 f_134_0 f_134_1 u_139 k_139
attribute [go_sem] c_139 b_139 z_139 g_139 u_150 k_150 c_150 b_150 z_150 g_150 u_153 k_153 c_153 b_153 z_153 u_154 k_154 c_154 b_154 z_154
attribute [go_sem] u_155 k_155 c_155 b_155 z_155 k_156 c_156 b_156 z_156 u_165 k_165 c_165 b_165 z_165 u_168 k_168 c_168 b_168 z_168 k_173
attribute [go_sem] c_173 b_173 z_173 s_173 g_173 f_173_0 f_173_1 f_173_2 f_173_3 k_174 c_174 b_174 z_174 s_174 g_174 f_174_0 f_174_1 f_174_2 f_174_3 u_175
attribute [go_sem] k_175 c_175 b_175 z_175 g_175 k_176 c_176 b_176 z_176 s_176 g_176 f_176_0 k_177 c_177 b_177 z_177 s_177 g_177 f_177_0 u_178
attribute [go_sem] k_178 c_178 b_178 z_178 u_179 k_179 c_179 b_179 z_179 u_181 k_181 c_181 b_181 z_181 u_182 k_182 c_182 b_182 z_182 k_183
attribute [go_sem] c_183 b_183 z_183 s_183 g_183 f_183_0 f_183_1 f_183_2 f_183_3 f_183_4 f_183_5 f_183_6 f_183_7 f_183_8 f_183_9 f_183_10 k_184 c_184 b_184 z_184
attribute [go_sem] s_184 g_184 f_184_0 f_184_1 f_184_2 f_184_3 f_184_4 f_184_5 f_184_6 f_184_7 f_184_8 f_184_9 f_184_10
end Go.Proofs.Ythdgdngdfijfhaa
namespace Go.Proofs.Ythdgdngdfijfhaa
open Go.RowKit Go.Proofs
set_option linter.unusedVariables false
set_option linter.unusedSimpArgs false
attribute [local irreducible] PPure Tops TopsDm T
theorem p58 (n lo hi : Int) : PPure Try.prog 58 [.int .i64 n, .int .i64 lo, .int .i64 hi] (.bool (decide (lo ≤ n) && decide (n ≤ hi))) := by
  (refine ppure_of_T ok58 (by simp only [List.length_cons, List.length_nil]; decide) ?_; refine t_seq ?_)
  (have hA := True.intro; have hP := True.intro; have hNE := True.intro; have hC := True.intro; repeat' first
      | with_reducible first | refine k_seq ?_ | refine t_seq ?_ | refine t_reg ?_ | refine t_nil ?_ | refine t_ret ?_
      | refine ae_val ?_
      | refine ae_gval ?_)
  (first | apply pend rs58 | apply pendN rs58); (focus (simp only [go_sem]; first | done | exact rfl)); (focus (simp only [go_sem]; first | done | exact rfl))
def rfs (b : Bool) (e : Int) : Int := if b = true then e else 0
theorem p56 (b : Bool) (e : Int) : PPure Try.prog 56 [.bool b, .int .i64 e] (.int .i64 (rfs b e)) := by
  cases b with
  | true =>
    (refine ppure_of_T ok56 (by simp only [List.length_cons, List.length_nil]; decide) ?_; refine t_seq ?_)
    (have hA := True.intro; have hP := True.intro; have hNE := True.intro; have hC := True.intro; repeat' first
        | with_reducible first | refine k_seq ?_ | refine t_seq ?_ | refine t_reg ?_ | refine t_nil ?_ | refine t_ret ?_ | refine k_seq_ret ?_
        | refine ae_val ?_
        | refine a_cond ?_ ?_
        | (with_reducible intro hc; with_reducible exact Bool.noConfusion hc)
        | (with_reducible intro hc; have hC := And.intro hC hc))
    (first | apply pend rs56 | apply pendN rs56); (focus (simp only [go_sem, rfs]; first | done | exact rfl)); (focus (simp only [go_sem, rfs]; first | done | exact rfl))
  | false =>
    (refine ppure_of_T ok56 (by simp only [List.length_cons, List.length_nil]; decide) ?_; refine t_seq ?_)
    (have hA := True.intro; have hP := True.intro; have hNE := True.intro; have hC := True.intro; repeat' first
        | with_reducible first | refine k_seq ?_ | refine t_seq ?_ | refine t_reg ?_ | refine t_nil ?_ | refine t_skip ?_ | refine t_ret ?_
        | refine ae_val ?_
        | refine a_cond ?_ ?_
        | (with_reducible intro hc; with_reducible exact Bool.noConfusion hc)
        | (with_reducible intro hc; have hC := And.intro hC hc))
    (first | apply pend rs56 | apply pendN rs56); (focus (simp only [go_sem, rfs]; first | done | exact rfl)); (focus (simp only [go_sem, rfs]; first | done | exact rfl))
theorem p92 (e : Int) : PPure Try.prog 92 [.int .i64 e] (.bool (decide (¬ e = 0))) := by
  (refine ppure_of_T ok92 (by simp only [List.length_cons, List.length_nil]; decide) ?_; refine t_seq ?_)
  (have hA := True.intro; have hP := True.intro; have hNE := True.intro; have hC := True.intro; repeat' first
      | with_reducible first | refine k_seq ?_ | refine t_seq ?_ | refine t_reg ?_ | refine t_nil ?_ | refine t_ret ?_
      | refine ae_val ?_)
  (first | apply pend rs92 | apply pendN rs92); (focus (simp only [go_sem]; first | done | exact rfl)); (focus (simp only [go_sem]; first | done | exact rfl))
end Go.Proofs.Ythdgdngdfijfhaa
namespace Go.Proofs.Ythdgdngdfijfhaa
open Go.RowKit Go.Proofs
set_option linter.unusedVariables false
set_option linter.unusedSimpArgs false
attribute [local irreducible] PPure
structure Un where
  (access width : Int)
  recs : List (List UInt8)
  there : List Bool
  bytes : List UInt8
  ended : Bool
  pos : Int
structure Ac where
  (kind number : Int)
  bytes : List UInt8
structure An where
  status : Int
  bytes : List UInt8
  number : Int
structure Ev where
  (kind pos : Int)
  bytes : List UInt8
def encI (n : Int) : PV := .int .i64 n
def encS (s : List UInt8) : PV := .str s
def encB (b : Bool) : PV := .bool b
def encU (u : Un) : PV := .agg [.int .i64 u.access, .int .i64 u.width, .list .any (u.recs.map encS), .list .any (u.there.map encB), .str u.bytes, .bool u.ended, .int .i64 u.pos]
def encAc (a : Ac) : PV := .agg [.int .i64 a.kind, .int .i64 a.number, .str a.bytes]
def encAn (a : An) : PV := .agg [.int .i64 a.status, .str a.bytes, .int .i64 a.number]
def encEv (a : Ev) : PV := .agg [.int .i64 a.kind, .int .i64 a.pos, .str a.bytes]
theorem cl_map {α : Type} {e : α → PV} (he : ∀ x, closedB false (e x) = true) (xs : List α) : xs.all (closedB false ∘ e) = true := by
  rw [List.all_eq_true]; intro x _; exact he x
theorem clIs (xs : List Int) : xs.all (closedB false ∘ encI) = true := cl_map (fun _ => rfl) xs
theorem clSs (xs : List (List UInt8)) : xs.all (closedB false ∘ encS) = true := cl_map (fun _ => rfl) xs
theorem clBs (xs : List Bool) : xs.all (closedB false ∘ encB) = true := cl_map (fun _ => rfl) xs
theorem clAcs (xs : List Ac) : xs.all (closedB false ∘ encAc) = true := cl_map (fun _ => rfl) xs
theorem clAns (xs : List An) : xs.all (closedB false ∘ encAn) = true := cl_map (fun _ => rfl) xs
theorem clEvs (xs : List Ev) : xs.all (closedB false ∘ encEv) = true := cl_map (fun _ => rfl) xs
attribute [go_sem] clIs clSs clBs clAcs clAns clEvs
theorem wdI (xs : List Int) : widthB 1 (xs.map encI) = true := width_map (e := encI) (fun _ => rfl) xs
theorem wdS (xs : List (List UInt8)) : widthB 1 (xs.map encS) = true := width_map (e := encS) (fun _ => rfl) xs
theorem wdB (xs : List Bool) : widthB 1 (xs.map encB) = true := width_map (e := encB) (fun _ => rfl) xs
theorem wdAc (xs : List Ac) : widthB 3 (xs.map encAc) = true := width_map (e := encAc) (fun _ => rfl) xs
theorem wdAn (xs : List An) : widthB 3 (xs.map encAn) = true := width_map (e := encAn) (fun _ => rfl) xs
theorem wdEv (xs : List Ev) : widthB 3 (xs.map encEv) = true := width_map (e := encEv) (fun _ => rfl) xs
attribute [go_sem] wdI wdS wdB wdAc wdAn wdEv
theorem cast0 : ((0 : Nat) : Int) = 0 := rfl
theorem cast1 : ((1 : Nat) : Int) = 1 := rfl
theorem at_list {α : Type} {xs : List α} {i : Nat} (h : i < xs.length) : ∃ x, xs[i]? = some x ∧ xs.drop i = x :: xs.drop (i + 1) :=
  ⟨xs[i], List.getElem?_eq_getElem h, (List.drop_eq_getElem_cons h)⟩
theorem at_end {α : Type} {xs : List α} {i : Nat} (h : ¬ i < xs.length) : xs.drop i = [] := List.drop_eq_nil_of_le (by omega)
theorem lt_int {a b : Nat} (h : a < b) : (a : Int) < (b : Int) := by omega
theorem nlt_int {a b : Nat} (h : ¬ a < b) : ((a : Int) < (b : Int)) = False := by simp; omega
theorem wrap_next {a b : Nat} (h : a < b) (hb : b ≤ 1000) : IntKind.i64.wrap ((a : Int) + 1) = ((a + 1 : Nat) : Int) := by rw [IntKind.wrap_i64]; omega
def idx {α : Type} (g : α → Bool) : List α → Int → Int
  | [], _ => -1
  | x :: r, i => if g x = true then i else idx g r (i + 1)
def nz (e : Int) : Bool := decide (¬ e = 0)
theorem p91 (ds : List Int) (hl : ds.length ≤ 1000) :
    PPure Try.prog 91 [.list .any (ds.map encI), .fn 92 []] (.int .i64 (idx nz ds 0)) := by
  (refine ppure_of_T ok91 (by simp only [List.length_cons, List.length_nil]; decide) ?_; refine t_seq ?_)
  (have hNE := True.intro; have hC := True.intro; repeat' first
    | with_reducible first | refine k_seq ?_ | refine t_seq ?_ | refine t_reg ?_ | refine t_nil ?_ | refine t_block ?_
    | ((with_reducible apply t_val); exact rfl; (intro _ _ _ h; cases h); (focus (simp only [go_sem, hNE]; first | done | exact rfl))))
  refine t_loop (fun k s => ∃ i : Nat, i + k = ds.length ∧ idx nz (ds.drop i) i = idx nz ds 0 ∧ s.env 0 = .list .any (ds.map encI) ∧ s.env 1 = .fn 92 [] ∧ s.env 7 = .int .i64 ds.length ∧ s.env 8 = .int .i64 i) ds.length ?_ ?_
  · exact ⟨0, by omega, rfl, by simp only [go_sem, encI]; first | done | rfl, by simp only [go_sem, encI]; first | done | rfl, by simp only [go_sem, encI]; first | done | rfl, by simp only [go_sem, encI]; first | done | rfl⟩
  · rintro k s ⟨i, hk, hr, h0, h1, h7, h8⟩
    by_cases hi : i < ds.length
    · obtain ⟨x, hx, hd⟩ := at_list hi
      have hlt := lt_int hi
      have hw := wrap_next hi hl
      have hle := Int.le_of_lt hlt
      rw [hd] at hr
      (have hNE := True.intro; have hC := True.intro; repeat' first
    | with_reducible first | refine k_seq ?_ | refine t_seq ?_ | refine t_reg ?_ | refine t_nil ?_ | refine t_skip ?_ | refine t_ret ?_ | refine k_seq_ret ?_ | refine k_blk_ret ?_ | refine k_blk ?_ | refine k_inv_ret ?_ | refine t_block ?_
    | ((with_reducible apply t_val); exact rfl; (intro _ _ _ h; cases h); (focus (simp only [go_sem, hNE, encI, h0, h1, h7, h8, hlt, hle, hx, hw]; first | done | exact rfl)))
    | ((with_reducible apply t_callS); (focus (simp only [go_sem, hNE, encI, h0, h1, h7, h8, hlt, hle, hx, hw]; first | done | exact rfl)); (focus (simp only [go_sem, hNE, encI, h0, h1, h7, h8, hlt, hle, hx, hw]; first | done | exact rfl)); (focus (simp only [go_sem, hNE, encI, h0, h1, h7, h8, hlt, hle, hx, hw]; first | done | exact rfl)); (first | exact p92 x))
    | ((with_reducible apply t_cond); (focus (simp only [go_sem, hNE, encI, h0, h1, h7, h8, hlt, hle, hx, hw]; first | done | exact rfl)))
    | (with_reducible intro hc; with_reducible exact Bool.noConfusion hc)
    | (with_reducible intro hc; have hC := And.intro hC hc))
      all_goals (first
          | (apply pend rs91; (focus (simp only [go_sem, encI, h0, h1, h7, h8, hlt, hle, hx, hw]; first | done | exact rfl)); (focus (simp only [go_sem, encI, h0, h1, h7, h8, hlt, hle, hx, hw]; first | done | (rw [← hr]; clear hr; simp_all [nz, idx]))))
          | (apply pendN rs91; (focus (simp only [go_sem, encI, h0, h1, h7, h8, hlt, hle, hx, hw]; first | done | exact rfl)); (focus (simp only [go_sem, encI, h0, h1, h7, h8, hlt, hle, hx, hw]; first | done | (rw [← hr]; clear hr; simp_all [nz, idx]))))
          | (refine k_inv (k - 1) (by omega) ⟨i + 1, by omega, (by first | exact hr | (simpa [nz, idx, hc] using hr) | (simp_all [nz, idx])), by simp only [go_sem, encI, h0, h1, h7, h8, hw]; first | done | rfl, by simp only [go_sem, encI, h0, h1, h7, h8, hw]; first | done | rfl, by simp only [go_sem, encI, h0, h1, h7, h8, hw]; first | done | rfl, by simp only [go_sem, encI, h0, h1, h7, h8, hw]; first | done | rfl⟩))
    · have hlt := nlt_int hi
      rw [at_end hi] at hr
      (have hNE := True.intro; have hC := True.intro; repeat' first
    | with_reducible first | refine k_seq ?_ | refine t_seq ?_ | refine t_reg ?_ | refine t_nil ?_ | refine t_ret ?_ | refine t_exit ?_ | refine k_seq_exit ?_ | refine k_blk_exit ?_ | refine k_inv_exit ?_
    | ((with_reducible apply t_val); exact rfl; (intro _ _ _ h; cases h); (focus (simp only [go_sem, hNE, encI, h0, h1, h7, h8, hlt]; first | done | exact rfl)))
    | ((with_reducible apply t_cond); (focus (simp only [go_sem, hNE, encI, h0, h1, h7, h8, hlt]; first | done | exact rfl)))
    | (with_reducible intro hc; with_reducible exact Bool.noConfusion hc)
    | (with_reducible intro hc; have hC := And.intro hC hc))
      all_goals (first
          | (apply pend rs91; (focus (simp only [go_sem, encI, h0, h1, h7, h8, hlt]; first | done | exact rfl)); (focus (simp only [go_sem, encI, h0, h1, h7, h8, hlt]; first | done | (rw [← hr]; clear hr; simp_all [nz, idx]))))
          | (apply pendN rs91; (focus (simp only [go_sem, encI, h0, h1, h7, h8, hlt]; first | done | exact rfl)); (focus (simp only [go_sem, encI, h0, h1, h7, h8, hlt]; first | done | (rw [← hr]; clear hr; simp_all [nz, idx]))))
          | (refine k_inv (k - 1) (by omega) ⟨i + 1, by omega, (by first | exact hr | (simpa [nz, idx, hc] using hr) | (simp_all [nz, idx])), by simp only [go_sem, encI, h0, h1, h7, h8, hw]; first | done | rfl, by simp only [go_sem, encI, h0, h1, h7, h8, hw]; first | done | rfl, by simp only [go_sem, encI, h0, h1, h7, h8, hw]; first | done | rfl, by simp only [go_sem, encI, h0, h1, h7, h8, hw]; first | done | rfl⟩))
end Go.Proofs.Ythdgdngdfijfhaa
namespace Go.Proofs
open Go.Shelf
def Try.lays105_ren : Go.Shelf.Ren := ⟨fun | 105 => 108 | 212 => 112 | 99 => 113 | 165 => 114 | 166 => 87 | 170 => 115 | 169 => 90 | 263 => 117 | 264 => 118 | 206 => 119 | 240 => 107 | 241 => 120 | 276 => 111 | 277 => 122 | n => n, fun | 9 => 9 | 3 => 3 | 4 => 4 | 20 => 20 | 0 => 0 | 46 => 155 | 109 => 158 | 5 => 5 | 72 => 134 | 76 => 137 | 51 => 165 | 146 => 166 | 53 => 168 | 148 => 169 | 70 => 132 | 37 => 95 | 75 => 136 | 127 => 153 | 164 => 156 | 80 => 101 | n => n, fun | n => n⟩
theorem Try.lays105 : Go.Proofs.Lays.n105 Try.prog Try.lays105_ren := {
  mixed := by kernel_rfl
  f99 := Try.func113.trans (congrArg some (by kernel_rfl))
  f105 := Try.func108.trans (congrArg some (by kernel_rfl))
  f165 := Try.func114.trans (congrArg some (by kernel_rfl))
  f166 := Try.func87.trans (congrArg some (by kernel_rfl))
  f169 := Try.func90.trans (congrArg some (by kernel_rfl))
  f170 := Try.func115.trans (congrArg some (by kernel_rfl))
  f206 := Try.func119.trans (congrArg some (by kernel_rfl))
  f212 := Try.func112.trans (congrArg some (by kernel_rfl))
  f240 := Try.func107.trans (congrArg some (by kernel_rfl))
  f241 := Try.func120.trans (congrArg some (by kernel_rfl))
  f263 := Try.func117.trans (congrArg some (by kernel_rfl))
  f264 := Try.func118.trans (congrArg some (by kernel_rfl))
  f276 := Try.func111.trans (congrArg some (by kernel_rfl))
  f277 := Try.func122.trans (congrArg some (by kernel_rfl))
  t0 := Try.underlying0
  a0 := Try.isAgg0
  z0 := Try.sizeOf0
  v0 := Try.zeroValue0
  t3 := Try.underlying3
  a3 := Try.isAgg3
  z3 := Try.sizeOf3
  v3 := Try.zeroValue3
  t4 := Try.underlying4
  a4 := Try.isAgg4
  z4 := Try.sizeOf4
  v4 := Try.zeroValue4
  t5 := Try.underlying5
  a5 := Try.isAgg5
  z5 := Try.sizeOf5
  v5 := Try.zeroValue5
  t9 := Try.underlying9
  a9 := Try.isAgg9
  z9 := Try.sizeOf9
  v9 := Try.zeroValue9
  t20 := Try.underlying20
  a20 := Try.isAgg20
  z20 := Try.sizeOf20
  v20 := Try.zeroValue20
  t37 := Try.underlying95
  a37 := Try.isAgg95
  z37 := Try.sizeOf95
  v37 := Try.zeroValue95
  t46 := Try.underlying155
  a46 := Try.isAgg155
  z46 := Try.sizeOf155
  v46 := Try.zeroValue155
  t51 := Try.underlying165
  a51 := Try.isAgg165
  z51 := Try.sizeOf165
  v51 := Try.zeroValue165
  t53 := Try.underlying168
  a53 := Try.isAgg168
  z53 := Try.sizeOf168
  v53 := Try.zeroValue168
  t70 := Try.underlying132
  a70 := Try.isAgg132
  z70 := Try.sizeOf132
  v70 := Try.zeroValue132
  t72 := Try.underlying134
  a72 := Try.isAgg134
  z72 := Try.sizeOf134
  v72 := Try.zeroValue134
  t75 := Try.underlying136
  a75 := Try.isAgg136
  z75 := Try.sizeOf136
  v75 := Try.zeroValue136
  t76 := Try.underlying137
  a76 := Try.isAgg137
  z76 := Try.sizeOf137
  v76 := Try.zeroValue137
  t109 := Try.underlying158
  a109 := Try.isAgg158
  z109 := Try.sizeOf158
  v109 := Try.zeroValue158
  t127 := Try.underlying153
  a127 := Try.isAgg153
  z127 := Try.sizeOf153
  v127 := Try.zeroValue153
  t146 := Try.underlying166
  a146 := Try.isAgg166
  z146 := Try.sizeOf166
  v146 := Try.zeroValue166
  t148 := Try.underlying169
  a148 := Try.isAgg169
  z148 := Try.sizeOf169
  v148 := Try.zeroValue169
  t164 := Try.underlying156
  a164 := Try.isAgg156
  z164 := Try.sizeOf156
  v164 := Try.zeroValue156 }
theorem Try.Builder_Extra_105 : Builder.Extra Try.prog Try.lays105_ren := {
  sizeBuilder := by kernel_rfl
  liesBuilder := by kernel_rfl
  t5 := Try.underlying5
  a5 := Try.isAgg5
  z5 := Try.sizeOf5
  v5 := Try.zeroValue5
  infoByte := by kernel_rfl
  cellsByte := by kernel_rfl
  sizeByte := by kernel_rfl
  neB5 := by decide }
end Go.Proofs
namespace Go.Proofs.Ythdgdngdfijfhaa
open Go.RowKit Go.Proofs
set_option linter.unusedVariables false
set_option linter.unusedSimpArgs false
theorem repeat_one (x : UInt8) : ∀ c : Nat, Lib.repeatL [x] c = List.replicate c x := by
  intro c
  induction c with
  | zero => rfl
  | succ c ih => simp [Lib.repeatL, ih, List.replicate_succ]
theorem p108 (x : UInt8) (c : Nat) (hc : c ≤ 1000000) : PPure Try.prog 108 [.str [x], .int .i64 (c : Int)] (.str (List.replicate c x)) := by
  refine ⟨by kernel_rfl, fun w X vs hX hv => ?_⟩
  obtain ⟨v0, v1, rfl⟩ : ∃ v0 v1, vs = #[v0, v1] := by
    have h := hv.1
    refine ⟨vs[0]'(by rw [h]; exact Nat.zero_lt_succ _), vs[1]'(by rw [h]; exact Nat.lt_succ_self _), ?_⟩
    apply Array.ext
    · exact h
    · intro i h1 h2
      have : i = 0 ∨ i = 1 := by simp at h2; omega
      rcases this with rfl | rfl <;> rfl
  have h0 := (hv.2 0 v0 _ rfl rfl).str_inv
  have h1 := (hv.2 1 v1 _ rfl rfl).int_inv
  subst h0; subst h1
  have h := Any.strings_Repeat Try.lays105 Try.Builder_Extra_105 ⟨#[x]⟩ c w (by omega) (by show 1 * c ≤ _; omega)
  refine Calls.mono h ?_
  rintro e w' ⟨rfl, hb⟩
  refine ⟨_, rfl, hb, ?_⟩
  have e : Lib.repeatL (ByteArray.data ⟨#[x]⟩).toList c = List.replicate c x := repeat_one x c
  rw [e]
  exact .str _
end Go.Proofs.Ythdgdngdfijfhaa
namespace Go.Proofs.Ythdgdngdfijfhaa
open Go.RowKit Go.Proofs
set_option linter.unusedVariables false
set_option linter.unusedSimpArgs false
attribute [local irreducible] PPure CallN Tops TopsDm T
theorem app_22 : appB Try.prog 22 22 9 = true := by kernel_rfl
theorem app_23 : appB Try.prog 23 23 4 = true := by kernel_rfl
theorem app_44 : appB Try.prog 44 44 57 = true := by kernel_rfl
theorem app_46 : appB Try.prog 46 46 59 = true := by kernel_rfl
theorem app_67 : appB Try.prog 67 67 71 = true := by kernel_rfl
theorem app_95 : appB Try.prog 95 95 5 = true := by kernel_rfl
theorem app_81 : appB Try.prog 81 81 3 = true := by kernel_rfl
def sumN : List UInt8 → Nat → Nat → Nat
  | [], _, n => n
  | c :: r, i, n => sumN r (i + 1) ((n + (c.toNat + 1) * (i + 1)) % 65521)
def sumF (s : List UInt8) : Nat := sumN s 0 0
theorem sumN_lt : ∀ (s : List UInt8) (i n : Nat), n < 65521 → sumN s i n < 65521
  | [], _, _, h => h
  | c :: r, i, n, _ => sumN_lt r (i + 1) _ (Nat.mod_lt _ (by decide))
theorem sumF_lt (s : List UInt8) : sumF s < 65521 := sumN_lt s 0 0 (by decide)
theorem wrap_at {a b : Nat} (h : a < b) (hb : b ≤ 1000000) : IntKind.i64.wrap ((a : Int) + 1) = ((a + 1 : Nat) : Int) := by rw [IntKind.wrap_i64]; omega
attribute [local go_sem] Int.toNat_natCast List.getElem?_map Option.map_some in
theorem p67 (s : List UInt8) (hl : s.length ≤ 100000) : PPure Try.prog 67 [.str s] (.int .i64 ((sumF s : Nat) : Int)) := by
  (refine ppure_of_T ok67 (by simp only [List.length_cons, List.length_nil]; decide) ?_; refine t_seq ?_)
  (have hA := True.intro; have hP := True.intro; have hNE := True.intro; have hC := True.intro; repeat' first
      | with_reducible first | refine k_seq ?_ | refine t_seq ?_ | refine t_reg ?_ | refine t_nil ?_ | refine t_block ?_
      | refine ae_val ?_)
  refine t_loopE (fun (k0 : Nat) (E0 : Nat → PV) (H0 : Hp) => ∃ (i : Nat) (n : Nat), i + k0 = s.length ∧ n < 65521 ∧ sumN (s.drop i) i n = sumF s ∧ E0 9 = .int .i64 i ∧ E0 3 = .int .i64 (n : Int)) (s.length) ⟨0, 0, (by first | omega | rfl | assumption | (simp only [go_sem, cast0]; first | done | rfl | assumption | omega)), (by first | omega | rfl | assumption | (simp only [go_sem, cast0]; first | done | rfl | assumption | omega)), (by first | omega | rfl | assumption | (simp only [go_sem, cast0]; first | done | rfl | assumption | omega)), (by simp only [go_sem, cast0]; first | done | rfl), (by simp only [go_sem, cast0]; first | done | rfl)⟩ ?_
  rintro k0 E0 H0 hfr0 ⟨i, n, hk, hn, hr, h0_9, h0_3⟩
  have e0_2 := hfr0 2 rfl; have e0_7 := hfr0 7 rfl; have e0_8 := hfr0 8 rfl
  simp only [go_sem, cast0] at e0_2 e0_7 e0_8
  clear hfr0
  by_cases hi : i < s.length
  · obtain ⟨c, hx, hdr⟩ := at_list hi
    have hlt := lt_int hi
    have hge : (0 : Int) ≤ (i : Int) := by omega
    have hw := wrap_at hi (by omega)
    have hc := c.toNat_lt
    rw [hdr, sumN] at hr
    obtain ⟨m, hm⟩ : ∃ m, (c.toNat + 1) * (i + 1) = m := ⟨_, rfl⟩
    have hmb : m ≤ 256 * 100000 := by rw [← hm]; exact Nat.mul_le_mul (by omega) (by omega)
    have w0 : IntKind.i64.wrap (c.toNat : Int) = (c.toNat : Int) := by rw [IntKind.wrap_i64]; omega
    have w1 : IntKind.i64.wrap ((c.toNat : Int) + 1) = ((c.toNat + 1 : Nat) : Int) := by rw [IntKind.wrap_i64]; omega
    have w2 : IntKind.i64.wrap (((c.toNat + 1 : Nat) : Int) * ((i + 1 : Nat) : Int)) = (m : Int) := by rw [← Int.natCast_mul, hm, IntKind.wrap_i64]; omega
    have w3 : IntKind.i64.wrap ((n : Int) + (m : Int)) = ((n + m : Nat) : Int) := by rw [IntKind.wrap_i64]; omega
    have w4 : Int.tmod ((n + m : Nat) : Int) 65521 = (((n + m) % 65521 : Nat) : Int) := by rw [Int.tmod_eq_emod_of_nonneg (by omega)]; omega
    rw [hm] at hr
    (have hA := And.intro e0_2 (And.intro e0_7 (And.intro e0_8 (And.intro h0_9 (And.intro h0_3 (And.intro hlt (And.intro hge (And.intro hx (And.intro w0 (And.intro w1 (And.intro w2 (And.intro w3 (And.intro w4 (hw))))))))))))); have hP := True.intro; have hNE := True.intro; have hC := True.intro; repeat' first
        | with_reducible first | refine k_seq ?_ | refine t_seq ?_ | refine t_reg ?_ | refine t_nil ?_ | refine t_skip ?_ | refine k_blk ?_ | refine t_block ?_
        | refine ae_val ?_
        | refine a_cond ?_ ?_
        | (with_reducible intro hc; with_reducible exact Bool.noConfusion hc)
        | (with_reducible intro hc; have hC := And.intro hC hc))
    refine k_invE (k0 - 1) (by omega) ⟨i + 1, (n + m) % 65521, (by omega), (by omega), ?_, (by simp only [go_sem, e0_2, e0_7, e0_8, h0_9, h0_3, hw, w4]; first | done | rfl), (by simp only [go_sem, e0_2, e0_7, e0_8, h0_9, h0_3, hw, w4]; first | done | rfl)⟩
    exact hr
  · have hlt := nlt_int hi
    rw [at_end hi, sumN] at hr
    (have hA := And.intro e0_2 (And.intro e0_7 (And.intro e0_8 (And.intro h0_9 (And.intro h0_3 (hlt))))); have hP := True.intro; have hNE := True.intro; have hC := True.intro; repeat' first
        | with_reducible first | refine k_seq ?_ | refine t_seq ?_ | refine t_reg ?_ | refine t_nil ?_ | refine t_ret ?_ | refine t_exit ?_ | refine k_seq_exit ?_ | refine k_blk_exit ?_ | refine k_invE_exit ?_
        | refine ae_val ?_
        | refine a_cond ?_ ?_
        | (with_reducible intro hc; with_reducible exact Bool.noConfusion hc)
        | (with_reducible intro hc; have hC := And.intro hC hc))
    (first | apply pend rs67 | apply pendN rs67); (focus (simp only [go_sem, e0_2, e0_7, e0_8, h0_9, h0_3, ← hr]; first | done | exact rfl)); (focus (simp only [go_sem, e0_2, e0_7, e0_8, h0_9, h0_3, ← hr]; first | done | exact rfl))
theorem p21 (s : List UInt8) (hl : s.length ≤ 100000) : PPure Try.prog 21 [.str s] (.tup [.int .i64 (if s.length ≤ 20000 then ((sumF s : Nat) : Int) else 0), .int .i64 (if s.length ≤ 20000 then 0 else 8)]) := by
  by_cases h : s.length ≤ 20000
  · have e : decide ((20000 : Int) < (s.length : Int)) = false := by simp; omega
    (refine ppure_of_T ok21 (by simp only [List.length_cons, List.length_nil]; decide) ?_; refine t_seq ?_)
    (have hA := e; have hP := And.intro (p67 _ hl) (True.intro); have hNE := True.intro; have hC := True.intro; repeat' first
        | with_reducible first | refine k_seq ?_ | refine t_seq ?_ | refine t_reg ?_ | refine t_nil ?_ | refine t_skip ?_ | refine t_ret ?_
        | refine ae_val ?_
        | refine ae_callS ?_
        | refine a_cond ?_ ?_
        | (with_reducible intro hc; with_reducible exact Bool.noConfusion hc)
        | (with_reducible intro hc; have hC := And.intro hC hc))
    (first | apply pend rs21 | apply pendN rs21); (focus (simp only [go_sem, h]; first | done | exact rfl)); (focus (simp only [go_sem, h]; first | done | exact rfl))
  · have e : decide ((20000 : Int) < (s.length : Int)) = true := by simp; omega
    (refine ppure_of_T ok21 (by simp only [List.length_cons, List.length_nil]; decide) ?_; refine t_seq ?_)
    (have hA := e; have hP := True.intro; have hNE := True.intro; have hC := True.intro; repeat' first
        | with_reducible first | refine k_seq ?_ | refine t_seq ?_ | refine t_reg ?_ | refine t_nil ?_ | refine t_ret ?_ | refine k_seq_ret ?_
        | refine ae_val ?_
        | refine a_cond ?_ ?_
        | (with_reducible intro hc; with_reducible exact Bool.noConfusion hc)
        | (with_reducible intro hc; have hC := And.intro hC hc))
    (first | apply pend rs21 | apply pendN rs21); (focus (simp only [go_sem, h]; first | done | exact rfl)); (focus (simp only [go_sem, h]; first | done | exact rfl))
theorem p89 (n : Nat) (hn : n ≤ 1000000) : PPure Try.prog 89 [.int .i64 (n : Int)] (.str (List.replicate n 0)) := by
  have h := p108 0 n hn
  (refine ppure_of_T ok89 (by simp only [List.length_cons, List.length_nil]; decide) ?_; refine t_seq ?_)
  (have hA := True.intro; have hP := And.intro h (True.intro); have hNE := True.intro; have hC := True.intro; repeat' first
      | with_reducible first | refine k_seq ?_ | refine t_seq ?_ | refine t_reg ?_ | refine t_nil ?_ | refine t_ret ?_
      | refine ae_val ?_
      | refine ae_callS ?_)
  (first | apply pend rs89 | apply pendN rs89); (focus (simp only [go_sem]; first | done | exact rfl)); (focus (simp only [go_sem]; first | done | exact rfl))
end Go.Proofs.Ythdgdngdfijfhaa
namespace Go.Proofs.Ythdgdngdfijfhaa
open Go.RowKit Go.Proofs
set_option linter.unusedVariables false
set_option linter.unusedSimpArgs false
attribute [local irreducible] PPure CallN Tops TopsDm T
def leB : Nat → Nat → List UInt8
  | _, 0 => []
  | n, k + 1 => UInt8.ofNat (n % 256) :: leB (n / 256) k
theorem leB_len : ∀ (k n : Nat), (leB n k).length = k
  | 0, n => rfl
  | k + 1, n => by simp [leB, leB_len k]
theorem leB_snoc : ∀ (k n : Nat), leB n (k + 1) = leB n k ++ [UInt8.ofNat (n / 256 ^ k % 256)]
  | 0, n => by simp [leB]
  | k + 1, n => by
    rw [leB, leB_snoc k (n / 256), leB]
    simp only [List.cons_append]
    rw [Nat.div_div_eq_div_mul, ← Nat.pow_succ']
attribute [local go_sem] leB_len in
set_option maxHeartbeats 1000000 in
theorem p106 (n k : Nat) (hn : n ≤ 1000000000) (hk8 : k ≤ 8) : PPure Try.prog 106 [.int .i64 (n : Int), .int .i64 (k : Int)] (.str (leB n k)) := by
  (refine ppure_of_T ok106 (by simp only [List.length_cons, List.length_nil]; decide) ?_; refine t_seq ?_)
  (have hA := True.intro; have hP := True.intro; have hNE := True.intro; have hC := True.intro; repeat' first
      | with_reducible first | refine k_seq ?_ | refine t_seq ?_ | refine t_reg ?_ | refine t_nil ?_ | refine t_block ?_
      | refine ae_val ?_)
  refine t_loopE (fun (k0 : Nat) (E0 : Nat → PV) (H0 : Hp) => ∃ (i : Nat) (v : PV), i + k0 = k ∧ Acc H0 v 1 ((leB n i).map encY) ∧ E0 0 = .int .i64 ((n / 256 ^ i : Nat) : Int) ∧ E0 1 = .int .i64 ((k - i : Nat) : Int) ∧ E0 5 = v) (k) ⟨0, .list .nil [], (by first | omega | rfl | assumption | (simp only [go_sem, cast0, Nat.pow_zero, Nat.div_one, Nat.sub_zero]; first | done | rfl | assumption | omega)), ?_, (by simp only [go_sem, cast0, Nat.pow_zero, Nat.div_one, Nat.sub_zero]; first | done | rfl), (by simp only [go_sem, cast0, Nat.pow_zero, Nat.div_one, Nat.sub_zero]; first | done | rfl), (by simp only [go_sem, cast0, Nat.pow_zero, Nat.div_one, Nat.sub_zero]; first | done | rfl)⟩ ?_
  · exact Acc.nil _ _
  rintro k0 E0 H0 hfr0 ⟨i, v, hk, hacc, h0_0, h0_1, h0_5⟩
  have e0_4 := hfr0 4 rfl
  simp only [go_sem, cast0, Nat.pow_zero, Nat.div_one, Nat.sub_zero] at e0_4
  clear hfr0
  obtain ⟨q, hq⟩ : ∃ q, n / 256 ^ i = q := ⟨_, rfl⟩
  have hqn : q ≤ n := by rw [← hq]; exact Nat.div_le_self _ _
  by_cases hi : i < k
  · have e1 : decide ((0 : Int) < ((k - i : Nat) : Int)) = true := by simp; omega
    have w1 : IntKind.u8.wrap (q : Int) = ((UInt8.ofNat (q % 256)).toNat : Int) := by
      rw [show IntKind.u8.wrap (q : Int) = (q : Int) % 256 from by rfl]
      rw [UInt8.toNat_ofNat_of_lt' (by have : UInt8.size = 256 := rfl; omega)]
      omega
    have w2 : Int.fdiv (q : Int) (2 ^ min 8 64) = ((n / 256 ^ (i + 1) : Nat) : Int) := by
      rw [show (2 : Int) ^ min 8 64 = 256 from rfl, Int.fdiv_eq_ediv_of_nonneg _ (by decide), Nat.pow_succ, ← Nat.div_div_eq_div_mul, hq]
      omega
    have w3 : IntKind.i64.wrap (((k - i : Nat) : Int) - 1) = ((k - (i + 1) : Nat) : Int) := by rw [IntKind.wrap_i64]; omega
    (have hA := And.intro e0_4 (And.intro h0_0 (And.intro h0_1 (And.intro h0_5 (And.intro hq (And.intro e1 (And.intro w1 (And.intro w2 (w3)))))))); have hP := True.intro; have hNE := True.intro; have hC := True.intro; repeat' first
        | with_reducible first | refine k_seq ?_ | refine t_seq ?_ | refine t_reg ?_ | refine t_nil ?_ | refine t_skip ?_ | refine k_blk ?_ | refine t_block ?_
        | refine ae_val ?_
        | ((with_reducible apply te_appendG); (with_reducible exact app_95; with_reducible exact c_5); (focus (simp (maxDischargeDepth := 8) only [go_sem, hNE, hA]; first | done | exact rfl)); (first | exact hacc | exact hacc.upd2 (by assumption) | exact hacc.upd1 (by assumption) | (focus (refine Acc.sub hacc (fun l c hl => ?_); simp (maxDischargeDepth := 8) only [go_sem, hNE, hA, hl]))); (focus (simp (maxDischargeDepth := 8) only [go_sem, hNE, hA]; first | done | exact rfl)); exact rfl; (focus (simp (maxDischargeDepth := 8) only [go_sem, hNE, hA]; done)); (focus (simp (maxDischargeDepth := 8) only [go_sem, hNE, hA, roomB, List.length_take, List.length_append]; first | done | omega)); (intro u Hn hacc))
        | refine a_cond ?_ ?_
        | (with_reducible intro hc; with_reducible exact Bool.noConfusion hc)
        | (with_reducible intro hc; have hC := And.intro hC hc))
    refine k_invE (k0 - 1) (by omega) ⟨i + 1, u, (by omega), ?_, (by simp only [go_sem, e0_4, h0_0, h0_1, h0_5, w2, w3]; first | done | rfl), (by simp only [go_sem, e0_4, h0_0, h0_1, h0_5, w2, w3]; first | done | rfl), (by simp only [go_sem, e0_4, h0_0, h0_1, h0_5, w2, w3]; first | done | rfl)⟩
    rw [leB_snoc, hq, List.map_append]
    exact hacc
  · have e1 : decide ((0 : Int) < ((k - i : Nat) : Int)) = false := by simp; omega
    have hik : i = k := by omega
    subst hik
    rcases hacc with ⟨h, k', hk', rfl⟩ | ⟨l, rfl, hl⟩
    · have h0 : leB n i = [] := by simpa using h
      (have hA := And.intro e0_4 (And.intro h0_0 (And.intro h0_1 (And.intro h0_5 (e1)))); have hP := True.intro; have hNE := True.intro; have hC := True.intro; repeat' first
          | with_reducible first | refine k_seq ?_ | refine t_seq ?_ | refine t_reg ?_ | refine t_nil ?_ | refine t_ret ?_ | refine t_exit ?_ | refine k_seq_exit ?_ | refine k_blk_exit ?_ | refine k_invE_exit ?_
          | refine ae_conv ?_
          | refine ae_val ?_
          | refine a_cond ?_ ?_
          | (with_reducible intro hc; with_reducible exact Bool.noConfusion hc)
          | (with_reducible intro hc; have hC := And.intro hC hc))
      (first | apply pend rs106 | apply pendN rs106); (focus (simp only [go_sem, e0_4, h0_0, h0_1, h0_5, h0]; first | done | exact rfl)); (focus (simp only [go_sem, e0_4, h0_0, h0_1, h0_5, h0]; first | done | exact rfl))
    · have t1 : List.take ((leB n i).map encY).length ((leB n i).map encY) = (leB n i).map encY := List.take_length
      have t2 : List.take i (leB n i) = leB n i := List.take_of_length_le (by rw [leB_len]; exact Nat.le_refl _)
      (have hA := And.intro e0_4 (And.intro h0_0 (And.intro h0_1 (And.intro h0_5 (And.intro e1 (And.intro hl (t1)))))); have hP := True.intro; have hNE := True.intro; have hC := True.intro; repeat' first
          | with_reducible first | refine k_seq ?_ | refine t_seq ?_ | refine t_reg ?_ | refine t_nil ?_ | refine t_ret ?_ | refine t_exit ?_ | refine k_seq_exit ?_ | refine k_blk_exit ?_ | refine k_invE_exit ?_
          | refine ae_conv ?_
          | refine ae_val ?_
          | refine a_cond ?_ ?_
          | (with_reducible intro hc; with_reducible exact Bool.noConfusion hc)
          | (with_reducible intro hc; have hC := And.intro hC hc))
      (first | apply pend rs106 | apply pendN rs106); (focus (simp only [go_sem, e0_4, h0_0, h0_1, h0_5, t2]; first | done | exact rfl)); (focus (simp only [go_sem, e0_4, h0_0, h0_1, h0_5, t2]; first | done | exact rfl))
theorem p62 (u : Un) (hw : -1000000 ≤ u.width ∧ u.width ≤ 1000000) : PPure Try.prog 62 [encU u] (.int .i64 (u.width + 4)) := by
  have w : IntKind.i64.wrap (u.width + 4) = u.width + 4 := by rw [IntKind.wrap_i64]; omega
  simp only [encU]
  (refine ppure_of_T ok62 (by simp only [List.length_cons, List.length_nil]; decide) ?_; refine t_seq ?_)
  (have hA := w; have hP := True.intro; have hNE := True.intro; have hC := True.intro; repeat' first
      | with_reducible first | refine k_seq ?_ | refine t_seq ?_ | refine t_reg ?_ | refine t_nil ?_ | refine t_ret ?_
      | refine ae_val ?_
      | refine ae_box ?_)
  (first | apply pend rs62 | apply pendN rs62); (focus (simp only [go_sem]; first | done | exact rfl)); (focus (simp only [go_sem]; first | done | exact rfl))
def smdF (b s : List UInt8) : List UInt8 := s ++ leB (sumF (b ++ s)) 4
theorem p105 (b s : List UInt8) (hb : b.length ≤ 10000) (hs : s.length ≤ 30000) : PPure Try.prog 105 [.str b, .str s] (.str (smdF b s)) := by
  have h1 := p67 (b ++ s) (by simp; omega)
  have h2 := p106 (sumF (b ++ s)) 4 (by have := sumF_lt (b ++ s); omega) (by omega)
  have s1 : (((b.length + s.length : Nat) : Int) ≤ 9223372036854775807) = True := eq_true (by omega)
  have s2 : (((s.length + (leB (sumF (b ++ s)) 4).length : Nat) : Int) ≤ 9223372036854775807) = True := eq_true (by rw [leB_len]; omega)
  (refine ppure_of_T ok105 (by simp only [List.length_cons, List.length_nil]; decide) ?_; refine t_seq ?_)
  (have hA := And.intro s1 (s2); have hP := And.intro h1 (And.intro h2 (True.intro)); have hNE := True.intro; have hC := True.intro; repeat' first
      | with_reducible first | refine k_seq ?_ | refine t_seq ?_ | refine t_reg ?_ | refine t_nil ?_ | refine t_ret ?_
      | refine ae_val ?_
      | refine ae_callS ?_)
  (first | apply pend rs105 | apply pendN rs105); (focus (simp only [go_sem, smdF]; first | done | exact rfl)); (focus (simp only [go_sem, smdF]; first | done | exact rfl))
def frmF (k : UInt8) (s : List UInt8) : List UInt8 := smdF [] ([k] ++ leB s.length 3 ++ s)
theorem p86 (k : UInt8) (s : List UInt8) (hk : k.toNat < 128) (hs : s.length ≤ 20000) : PPure Try.prog 86 [.int .u8 (k.toNat : Int), .str s] (.str (frmF k s)) := by
  have h1 := p106 s.length 3 (by omega) (by omega)
  have h2 : PPure Try.prog 105 [.str [], .str (k :: (leB s.length 3 ++ s))] (.str (frmF k s)) := p105 [] ([k] ++ leB s.length 3 ++ s) (by simp) (by simp [leB_len]; omega)
  have k1 : ((k.toNat : Int) < 128) = True := eq_true (by omega)
  have kk : UInt8.ofNat k.toNat = k := by simp
  have s1 : (((1 + (leB s.length 3).length : Nat) : Int) ≤ 9223372036854775807) = True := eq_true (by rw [leB_len]; omega)
  have s2 : ((((leB s.length 3).length + 1 + s.length : Nat) : Int) ≤ 9223372036854775807) = True := eq_true (by rw [leB_len]; omega)
  (refine ppure_of_T ok86 (by simp only [List.length_cons, List.length_nil]; decide) ?_; refine t_seq ?_)
  (have hA := And.intro k1 (And.intro kk (And.intro s1 (s2))); have hP := And.intro h1 (And.intro h2 (True.intro)); have hNE := True.intro; have hC := True.intro; repeat' first
      | with_reducible first | refine k_seq ?_ | refine t_seq ?_ | refine t_reg ?_ | refine t_nil ?_ | refine t_ret ?_
      | refine ae_conv ?_
      | refine ae_val ?_
      | refine ae_callS ?_)
  (first | apply pend rs86 | apply pendN rs86); (focus (simp only [go_sem]; first | done | exact rfl)); (focus (simp only [go_sem]; first | done | exact rfl))
def sltF (n : Nat) (s : List UInt8) : List UInt8 := smdF [UInt8.ofNat n] s
theorem p88 (n : Nat) (s : List UInt8) (hn : n < 256) (hs : s.length ≤ 20000) : PPure Try.prog 88 [.int .i64 (n : Int), .str s] (.str (sltF n s)) := by
  have h2 : PPure Try.prog 105 [.str [UInt8.ofNat n], .str s] (.str (sltF n s)) := p105 [UInt8.ofNat n] s (by simp) (by omega)
  have w1 : IntKind.u8.wrap (n : Int) = (n : Int) := by
    rw [show IntKind.u8.wrap (n : Int) = (n : Int) % 256 from by rfl]; omega
  have b1 : pvBytes [.int .u8 (n : Int)] = some [UInt8.ofNat n] := by
    simp only [pvBytes]
    rw [if_pos ⟨Int.natCast_nonneg _, by omega⟩]
    simp
  (refine ppure_of_T ok88 (by simp only [List.length_cons, List.length_nil]; decide) ?_; refine t_seq ?_)
  (have hA := And.intro w1 (b1); have hP := And.intro h2 (True.intro); have hNE := True.intro; have hC := True.intro; repeat' first
      | with_reducible first | refine k_seq ?_ | refine t_seq ?_ | refine t_reg ?_ | refine t_nil ?_ | refine t_ret ?_
      | refine ae_conv ?_
      | refine ae_val ?_
      | refine ae_callS ?_)
  (first | apply pend rs88 | apply pendN rs88); (focus (simp only [go_sem]; first | done | exact rfl)); (focus (simp only [go_sem]; first | done | exact rfl))
end Go.Proofs.Ythdgdngdfijfhaa
namespace Go.Proofs.Ythdgdngdfijfhaa
open Go.RowKit Go.Proofs
set_option linter.unusedVariables false
set_option linter.unusedSimpArgs false
attribute [local irreducible] PPure Tops TopsDm T
def orE : List Int → Int
  | [] => 0
  | c :: rest => if c = 0 then orE rest else c
theorem idx_nz : ∀ (ds : List Int) (k : Int), (idx nz ds k = -1 ∧ orE ds = 0) ∨ (∃ (i : Nat) (x : Int), ds[i]? = some x ∧ idx nz ds k = k + i ∧ orE ds = x)
  | [], k => Or.inl ⟨rfl, rfl⟩
  | x :: r, k => by
    by_cases h : x = 0
    · subst h
      rcases idx_nz r (k + 1) with ⟨h1, h2⟩ | ⟨i, y, h1, h2, h3⟩
      · left; simp [idx, nz, orE]; simpa using ⟨h1, h2⟩
      · right; refine ⟨i + 1, y, by simpa using h1, ?_, ?_⟩
        · simp only [idx, nz]; simp [h2]; omega
        · simpa [orE] using h3
    · right; exact ⟨0, x, rfl, by simp [idx, nz, h], by simp [orE, h]⟩
attribute [local go_sem] encI Int.toNat_natCast List.getElem?_map Option.map_some in
theorem p54 (ds : List Int) (hl : ds.length ≤ 1000) : PPure Try.prog 54 [.list .any (ds.map encI)] (.int .i64 (orE ds)) := by
  have hp := p91 ds hl
  rcases idx_nz ds 0 with ⟨h1, h2⟩ | ⟨i, x, h1, h2, h3⟩
  · rw [h1] at hp
    rw [h2]
    (refine ppure_of_T ok54 (by simp only [List.length_cons, List.length_nil]; decide) ?_; refine t_seq ?_)
    (have hA := True.intro; have hP := And.intro hp (True.intro); have hNE := True.intro; have hC := True.intro; repeat' first
        | with_reducible first | refine k_seq ?_ | refine t_seq ?_ | refine t_reg ?_ | refine t_nil ?_ | refine t_ret ?_ | refine k_seq_ret ?_
        | refine ae_val ?_
        | refine ae_callS ?_
        | refine a_cond ?_ ?_
        | (with_reducible intro hc; with_reducible exact Bool.noConfusion hc)
        | (with_reducible intro hc; have hC := And.intro hC hc))
    (first | apply pend rs54 | apply pendN rs54); (focus (simp only [go_sem]; first | done | exact rfl)); (focus (simp only [go_sem]; first | done | exact rfl))
  · rw [h2, Int.zero_add] at hp
    rw [h3]
    have hi : i < ds.length := by
      rcases Nat.lt_or_ge i ds.length with h | h
      · exact h
      · rw [List.getElem?_eq_none h] at h1; cases h1
    have hneg : ((i : Int) < 0) = False := by simp
    have hlt := lt_int hi
    have hge : (0 : Int) ≤ (i : Int) := by omega
    (refine ppure_of_T ok54 (by simp only [List.length_cons, List.length_nil]; decide) ?_; refine t_seq ?_)
    (have hA := And.intro hneg (And.intro h1 (And.intro hi (And.intro hlt (hge)))); have hP := And.intro hp (True.intro); have hNE := True.intro; have hC := True.intro; repeat' first
        | with_reducible first | refine k_seq ?_ | refine t_seq ?_ | refine t_reg ?_ | refine t_nil ?_ | refine t_skip ?_ | refine t_ret ?_
        | refine ae_val ?_
        | refine ae_callS ?_
        | refine a_cond ?_ ?_
        | (with_reducible intro hc; with_reducible exact Bool.noConfusion hc)
        | (with_reducible intro hc; have hC := And.intro hC hc))
    (first | apply pend rs54 | apply pendN rs54); (focus (simp only [go_sem]; first | done | exact rfl)); (focus (simp only [go_sem]; first | done | exact rfl))
theorem p54_2 (n m : Int) : PPure Try.prog 54 [.list .any [.int .i64 n, .int .i64 m]] (.int .i64 (orE [n, m])) := p54 [n, m] (by simp)
theorem p54_3 (n m k : Int) : PPure Try.prog 54 [.list .any [.int .i64 n, .int .i64 m, .int .i64 k]] (.int .i64 (orE [n, m, k])) := p54 [n, m, k] (by simp)
end Go.Proofs.Ythdgdngdfijfhaa
namespace Go.Proofs.Ythdgdngdfijfhaa
open Go.RowKit Go.Proofs
set_option linter.unusedVariables false
set_option linter.unusedSimpArgs false
attribute [local irreducible] PPure Tops TopsDm T
def btw (n lo hi : Int) : Bool := decide (lo ≤ n) && decide (n ≤ hi)
def accF (a w : Int) : Int := orE [rfs (!btw a 0 2) 15, rfs (!(if a = 1 then btw w 1 200 else decide (w = 0))) 2]
theorem p55 (a w : Int) : PPure Try.prog 55 [.int .i64 a, .int .i64 w] (.int .i64 (accF a w)) := by
  by_cases h : a = 1
  · subst h
    (refine ppure_of_T ok55 (by simp only [List.length_cons, List.length_nil]; decide) ?_; refine t_seq ?_)
    (have hA := True.intro; have hP := And.intro @p58 (And.intro @p56 (And.intro @p54_2 (True.intro))); have hNE := True.intro; have hC := True.intro; repeat' first
        | with_reducible first | refine k_seq ?_ | refine t_seq ?_ | refine t_reg ?_ | refine t_nil ?_ | refine t_ret ?_
        | refine ae_val ?_
        | refine ae_callS ?_
        | refine a_cond ?_ ?_
        | (with_reducible intro hc; with_reducible exact Bool.noConfusion hc)
        | (with_reducible intro hc; have hC := And.intro hC hc))
    (first | apply pend rs55 | apply pendN rs55); (focus (simp only [go_sem, accF, btw]; first | done | exact rfl)); (focus (simp only [go_sem, accF, btw]; first | done | exact rfl))
  · have hf : decide (a = 1) = false := by simp [h]
    (refine ppure_of_T ok55 (by simp only [List.length_cons, List.length_nil]; decide) ?_; refine t_seq ?_)
    (have hA := And.intro hf (h); have hP := And.intro @p58 (And.intro @p56 (And.intro @p54_2 (True.intro))); have hNE := True.intro; have hC := True.intro; repeat' first
        | with_reducible first | refine k_seq ?_ | refine t_seq ?_ | refine t_reg ?_ | refine t_nil ?_ | refine t_skip ?_ | refine t_ret ?_
        | refine ae_val ?_
        | refine ae_callS ?_
        | refine a_cond ?_ ?_
        | (with_reducible intro hc; with_reducible exact Bool.noConfusion hc)
        | (with_reducible intro hc; have hC := And.intro hC hc))
    (first | apply pend rs55 | apply pendN rs55); (focus (simp only [go_sem, accF, btw, h]; first | done | exact rfl)); (focus (simp only [go_sem, accF, btw, h]; first | done | exact rfl))
theorem p110 (u : Un) (hl : u.recs.length ≤ 1000) : PPure Try.prog 110 [encU u] (.bool (decide ((u.recs.length : Int) < u.pos))) := by
  simp only [encU]
  (refine ppure_of_T ok110 (by simp only [List.length_cons, List.length_nil]; decide) ?_; refine t_seq ?_)
  (have hA := True.intro; have hP := True.intro; have hNE := True.intro; have hC := True.intro; repeat' first
      | with_reducible first | refine k_seq ?_ | refine t_seq ?_ | refine t_reg ?_ | refine t_nil ?_ | refine t_ret ?_
      | refine ae_val ?_
      | refine ae_box ?_)
  (first | apply pend rs110 | apply pendN rs110); (focus (simp only [go_sem]; first | done | exact rfl)); (focus (simp only [go_sem]; first | done | exact rfl))
def roomF (u : Un) : Int := if u.access = 0 then (u.recs.length : Int) + 1 else if u.access = 2 then (u.bytes.length : Int) else 0
theorem p59 (u : Un) (hl : u.recs.length ≤ 1000) : PPure Try.prog 59 [encU u] (.int .i64 (roomF u)) := by
  have hw : IntKind.i64.wrap ((u.recs.length : Int) + 1) = (u.recs.length : Int) + 1 := by rw [IntKind.wrap_i64]; omega
  by_cases h0 : u.access = 0
  · have e0 : decide (u.access = 0) = true := by simp [h0]
    simp only [encU]
    (refine ppure_of_T ok59 (by simp only [List.length_cons, List.length_nil]; decide) ?_; refine t_seq ?_)
    (have hA := And.intro hw (e0); have hP := True.intro; have hNE := True.intro; have hC := True.intro; repeat' first
        | with_reducible first | refine k_seq ?_ | refine t_seq ?_ | refine t_reg ?_ | refine t_nil ?_ | refine t_ret ?_ | refine k_seq_ret ?_ | refine k_blk_ret ?_ | refine t_block ?_
        | refine ae_val ?_
        | refine ae_box ?_
        | refine a_cond ?_ ?_
        | (with_reducible intro hc; with_reducible exact Bool.noConfusion hc)
        | (with_reducible intro hc; have hC := And.intro hC hc))
    (first | apply pend rs59 | apply pendN rs59); (focus (simp only [go_sem, roomF, h0]; first | done | exact rfl)); (focus (simp only [go_sem, roomF, h0]; first | done | exact rfl))
  · have e0 : decide (u.access = 0) = false := by simp [h0]
    by_cases h2 : u.access = 2
    · have e2 : decide (u.access = 2) = true := by simp [h2]
      simp only [encU]
      (refine ppure_of_T ok59 (by simp only [List.length_cons, List.length_nil]; decide) ?_; refine t_seq ?_)
      (have hA := And.intro e0 (e2); have hP := True.intro; have hNE := True.intro; have hC := True.intro; repeat' first
          | with_reducible first | refine k_seq ?_ | refine t_seq ?_ | refine t_reg ?_ | refine t_nil ?_ | refine t_ret ?_ | refine k_seq_ret ?_ | refine k_blk_ret ?_ | refine t_block ?_
          | refine ae_val ?_
          | refine ae_box ?_
          | refine a_cond ?_ ?_
          | (with_reducible intro hc; with_reducible exact Bool.noConfusion hc)
          | (with_reducible intro hc; have hC := And.intro hC hc))
      (first | apply pend rs59 | apply pendN rs59); (focus (simp only [go_sem, roomF, h0, h2]; first | done | exact rfl)); (focus (simp only [go_sem, roomF, h0, h2]; first | done | exact rfl))
    · have e2 : decide (u.access = 2) = false := by simp [h2]
      simp only [encU]
      (refine ppure_of_T ok59 (by simp only [List.length_cons, List.length_nil]; decide) ?_; refine t_seq ?_)
      (have hA := And.intro e0 (e2); have hP := True.intro; have hNE := True.intro; have hC := True.intro; repeat' first
          | with_reducible first | refine k_seq ?_ | refine t_seq ?_ | refine t_reg ?_ | refine t_nil ?_ | refine t_skip ?_ | refine t_ret ?_ | refine k_blk ?_ | refine t_block ?_
          | refine ae_val ?_
          | refine ae_box ?_
          | refine a_cond ?_ ?_
          | (with_reducible intro hc; with_reducible exact Bool.noConfusion hc)
          | (with_reducible intro hc; have hC := And.intro hC hc))
      (first | apply pend rs59 | apply pendN rs59); (focus (simp only [go_sem, roomF, h0, h2]; first | done | exact rfl)); (focus (simp only [go_sem, roomF, h0, h2]; first | done | exact rfl))
end Go.Proofs.Ythdgdngdfijfhaa
namespace Go.Proofs.Ythdgdngdfijfhaa
open Go.RowKit Go.Proofs
set_option linter.unusedVariables false
set_option linter.unusedSimpArgs false
attribute [local irreducible] PPure Tops TopsDm T
def recE (u : Un) (s : List UInt8) (t : Bool) : Int :=
  if u.access = 1 then rfs (decide (¬ (s.length : Int) = (if t = true then u.width else 0))) 10 else rfs (decide (200 < (s.length : Int))) 8
attribute [local go_sem] encS encB Int.toNat_natCast List.getElem?_map Option.map_some in
theorem p93 (u : Un) (i : Nat) (s : List UInt8) (t : Bool) (hl : u.recs.length ≤ 1000) (hi : i < u.recs.length) (hs : u.recs[i]? = some s)
    (ht : u.access = 1 → u.there[i]? = some t ∧ i < u.there.length) : PPure Try.prog 93 [encU u, .int .i64 (i : Int)] (.int .i64 (recE u s t)) := by
  have hlt := lt_int hi
  have hge : (0 : Int) ≤ (i : Int) := by omega
  by_cases h1 : u.access = 1
  · have e1 : decide (¬ u.access = 1) = false := by simp [h1]
    obtain ⟨ht, hti⟩ := ht h1
    have hlt2 := lt_int hti
    simp only [encU]
    cases t with
    | true =>
      (refine ppure_of_T ok93 (by simp only [List.length_cons, List.length_nil]; decide) ?_; refine t_seq ?_)
      (have hA := And.intro e1 (And.intro hlt (And.intro hlt2 (And.intro hge (And.intro hs (ht))))); have hP := And.intro @p56 (True.intro); have hNE := True.intro; have hC := True.intro; repeat' first
          | with_reducible first | refine k_seq ?_ | refine t_seq ?_ | refine t_reg ?_ | refine t_nil ?_ | refine t_skip ?_ | refine t_ret ?_
          | refine ae_val ?_
          | refine ae_callS ?_
          | refine ae_box ?_
          | refine a_cond ?_ ?_
          | (with_reducible intro hc; with_reducible exact Bool.noConfusion hc)
          | (with_reducible intro hc; have hC := And.intro hC hc))
      (first | apply pend rs93 | apply pendN rs93); (focus (simp only [go_sem, recE, h1]; first | done | exact rfl)); (focus (simp only [go_sem, recE, h1]; first | done | exact rfl))
    | false =>
      (refine ppure_of_T ok93 (by simp only [List.length_cons, List.length_nil]; decide) ?_; refine t_seq ?_)
      (have hA := And.intro e1 (And.intro hlt (And.intro hlt2 (And.intro hge (And.intro hs (ht))))); have hP := And.intro @p56 (True.intro); have hNE := True.intro; have hC := True.intro; repeat' first
          | with_reducible first | refine k_seq ?_ | refine t_seq ?_ | refine t_reg ?_ | refine t_nil ?_ | refine t_skip ?_ | refine t_ret ?_
          | refine ae_val ?_
          | refine ae_callS ?_
          | refine ae_box ?_
          | refine a_cond ?_ ?_
          | (with_reducible intro hc; with_reducible exact Bool.noConfusion hc)
          | (with_reducible intro hc; have hC := And.intro hC hc))
      (first | apply pend rs93 | apply pendN rs93); (focus (simp only [go_sem, recE, h1]; first | done | exact rfl)); (focus (simp only [go_sem, recE, h1]; first | done | exact rfl))
  · have e1 : decide (¬ u.access = 1) = true := by simp [h1]
    simp only [encU]
    (refine ppure_of_T ok93 (by simp only [List.length_cons, List.length_nil]; decide) ?_; refine t_seq ?_)
    (have hA := And.intro e1 (And.intro hlt (And.intro hge (hs))); have hP := And.intro @p56 (True.intro); have hNE := True.intro; have hC := True.intro; repeat' first
        | with_reducible first | refine k_seq ?_ | refine t_seq ?_ | refine t_reg ?_ | refine t_nil ?_ | refine t_ret ?_ | refine k_seq_ret ?_
        | refine ae_val ?_
        | refine ae_callS ?_
        | refine ae_box ?_
        | refine a_cond ?_ ?_
        | (with_reducible intro hc; with_reducible exact Bool.noConfusion hc)
        | (with_reducible intro hc; have hC := And.intro hC hc))
    (first | apply pend rs93 | apply pendN rs93); (focus (simp only [go_sem, recE, h1]; first | done | exact rfl)); (focus (simp only [go_sem, recE, h1]; first | done | exact rfl))
end Go.Proofs.Ythdgdngdfijfhaa
namespace Go.Proofs.Ythdgdngdfijfhaa
open Go.RowKit Go.Proofs
set_option linter.unusedVariables false
set_option linter.unusedSimpArgs false
attribute [local irreducible] PPure Tops TopsDm T
def recsL (u : Un) : List (List UInt8) → Nat → Int
  | [], _ => 0
  | s :: r, i => if recE u s ((u.there[i]?).getD false) = 0 then recsL u r (i + 1) else recE u s ((u.there[i]?).getD false)
def thereE (u : Un) : Int := if u.there.getLast? = some false then 21 else 0
def recsE (u : Un) : Int :=
  if u.access = 1 ∧ u.there.length ≠ u.recs.length then 10 else if recsL u u.recs 0 = 0 then thereE u else recsL u u.recs 0
theorem p57a (u : Un) (h1 : u.access = 1) (h2 : u.there.length ≠ u.recs.length) (hl : u.recs.length ≤ 1000) (hl2 : u.there.length ≤ 1000) :
    PPure Try.prog 57 [encU u] (.int .i64 (recsE u)) := by
  have e1 : decide (u.access = 1) = true := by simp [h1]
  have e2 : decide (¬ (u.there.length : Int) = (u.recs.length : Int)) = true := by simp; omega
  have e3 : (u.access = 1 ∧ u.there.length ≠ u.recs.length) = True := by simp [h1, h2]
  simp only [encU]
  (refine ppure_of_T ok57 (by simp only [List.length_cons, List.length_nil]; decide) ?_; refine t_seq ?_)
  (have hA := And.intro e1 (e2); have hP := True.intro; have hNE := True.intro; have hC := True.intro; repeat' first
      | with_reducible first | refine k_seq ?_ | refine t_seq ?_ | refine t_reg ?_ | refine t_nil ?_ | refine t_ret ?_ | refine k_seq_ret ?_
      | refine ae_val ?_
      | refine ae_gval ?_
      | refine ae_box ?_
      | refine a_cond ?_ ?_
      | (with_reducible intro hc; with_reducible exact Bool.noConfusion hc)
      | (with_reducible intro hc; have hC := And.intro hC hc))
  (first | apply pend rs57 | apply pendN rs57); (focus (simp only [go_sem, recsE, e3]; first | done | exact rfl)); (focus (simp only [go_sem, recsE, e3]; first | done | exact rfl))
attribute [local go_sem] encB Int.toNat_natCast List.getElem?_map Option.map_some in
theorem p57b (u : Un) (h2 : u.access = 1 → u.there.length = u.recs.length) (hl : u.recs.length ≤ 1000) (hl2 : u.there.length ≤ 1000) :
    PPure Try.prog 57 [encU u] (.int .i64 (recsE u)) := by
  have e3 : (u.access = 1 ∧ u.there.length ≠ u.recs.length) = False := by simp; exact h2
  have e1 : (decide (u.access = 1) && decide (¬ (u.there.length : Int) = (u.recs.length : Int))) = false := by
    by_cases h : u.access = 1
    · simp [h, h2 h]
    · simp [h]
  (refine ppure_of_T ok57 (by simp only [List.length_cons, List.length_nil]; decide) ?_; refine t_seq ?_)
  simp only [encU]
  (have hA := e1; have hP := True.intro; have hNE := True.intro; have hC := True.intro; repeat' first
      | with_reducible first | refine k_seq ?_ | refine t_seq ?_ | refine t_reg ?_ | refine t_nil ?_ | refine t_skip ?_ | refine t_block ?_
      | refine ae_val ?_
      | refine ae_gval ?_
      | refine ae_box ?_
      | refine a_cond ?_ ?_
      | (with_reducible intro hc; with_reducible exact Bool.noConfusion hc)
      | (with_reducible intro hc; have hC := And.intro hC hc))
  refine t_loopE (fun (k0 : Nat) (E0 : Nat → PV) (H0 : Hp) => ∃ (i : Nat), i + k0 = u.recs.length ∧ recsL u (u.recs.drop i) i = recsL u u.recs 0 ∧ E0 25 = .int .i64 i) (u.recs.length) ⟨0, (by first | omega | rfl | assumption | (simp only [go_sem, cast0]; first | done | rfl | assumption | omega)), (by first | omega | rfl | assumption | (simp only [go_sem, cast0]; first | done | rfl | assumption | omega)), (by simp only [go_sem, cast0]; first | done | rfl)⟩ ?_
  rintro k0 E0 H0 hfr0 ⟨i, hk, hr, h0_25⟩
  have e0_1 := hfr0 1 rfl; have e0_24 := hfr0 24 rfl
  simp only [go_sem, cast0] at e0_1 e0_24
  clear hfr0
  by_cases hi : i < u.recs.length
  · obtain ⟨x, hx, hdr⟩ := at_list hi
    have hlt := lt_int hi
    have hw := wrap_next hi hl
    have hp := p93 u i x ((u.there[i]?).getD false) hl hi hx (fun h => by
      have := h2 h
      rw [List.getElem?_eq_getElem (by omega)]
      exact ⟨rfl, by omega⟩)
    simp only [encU] at hp
    rw [hdr, recsL] at hr
    by_cases hz : recE u x ((u.there[i]?).getD false) = 0
    · have ez : decide (¬ recE u x ((u.there[i]?).getD false) = 0) = false := by simp [hz]
      rw [if_pos hz] at hr
      (have hA := And.intro e0_1 (And.intro e0_24 (And.intro h0_25 (And.intro hlt (ez)))); have hP := And.intro hp (True.intro); have hNE := True.intro; have hC := True.intro; repeat' first
          | with_reducible first | refine k_seq ?_ | refine t_seq ?_ | refine t_reg ?_ | refine t_nil ?_ | refine t_skip ?_ | refine k_blk ?_ | refine t_block ?_
          | refine ae_val ?_
          | refine ae_callS ?_
          | refine a_cond ?_ ?_
          | (with_reducible intro hc; with_reducible exact Bool.noConfusion hc)
          | (with_reducible intro hc; have hC := And.intro hC hc))
      refine k_invE (k0 - 1) (by omega) ⟨i + 1, (by omega), ?_, (by simp only [go_sem, e0_1, e0_24, h0_25, hw]; first | done | rfl)⟩
      exact hr
    · have ez : decide (¬ recE u x ((u.there[i]?).getD false) = 0) = true := by simp [hz]
      rw [if_neg hz] at hr
      (have hA := And.intro e0_1 (And.intro e0_24 (And.intro h0_25 (And.intro hlt (ez)))); have hP := And.intro hp (True.intro); have hNE := True.intro; have hC := True.intro; repeat' first
          | with_reducible first | refine k_seq ?_ | refine t_seq ?_ | refine t_reg ?_ | refine t_nil ?_ | refine t_skip ?_ | refine t_ret ?_ | refine k_seq_ret ?_ | refine k_blk_ret ?_ | refine k_invE_ret ?_ | refine t_block ?_
          | refine ae_val ?_
          | refine ae_callS ?_
          | refine a_cond ?_ ?_
          | (with_reducible intro hc; with_reducible exact Bool.noConfusion hc)
          | (with_reducible intro hc; have hC := And.intro hC hc))
      (first | apply pend rs57 | apply pendN rs57); (focus (simp only [go_sem, e0_1, e0_24, h0_25, recsE, e3, ← hr, hz]; first | done | exact rfl)); (focus (simp only [go_sem, e0_1, e0_24, h0_25, recsE, e3, ← hr, hz]; first | done | exact rfl))
  · have hlt := nlt_int hi
    rw [at_end hi, recsL] at hr
    have hr0 : recsL u u.recs 0 = 0 := hr.symm
    rcases List.eq_nil_or_concat u.there with h | ⟨l, b, h⟩
    · have e4 : decide ((0 : Int) < (u.there.length : Int)) = false := by simp [h]
      have e5 : thereE u = 0 := by simp [thereE, h]
      (have hA := And.intro e0_1 (And.intro e0_24 (And.intro h0_25 (And.intro hlt (e4)))); have hP := True.intro; have hNE := True.intro; have hC := True.intro; repeat' first
          | with_reducible first | refine k_seq ?_ | refine t_seq ?_ | refine t_reg ?_ | refine t_nil ?_ | refine t_skip ?_ | refine t_ret ?_ | refine t_exit ?_ | refine k_seq_exit ?_ | refine k_blk_exit ?_ | refine k_invE_exit ?_
          | refine ae_val ?_
          | refine ae_gval ?_
          | refine ae_gno ?_
          | refine a_cond ?_ ?_
          | (with_reducible intro hc; with_reducible exact Bool.noConfusion hc)
          | (with_reducible intro hc; have hC := And.intro hC hc))
      (first | apply pend rs57 | apply pendN rs57); (focus (simp only [go_sem, e0_1, e0_24, h0_25, recsE, e3, hr0, e5]; first | done | exact rfl)); (focus (simp only [go_sem, e0_1, e0_24, h0_25, recsE, e3, hr0, e5]; first | done | exact rfl))
    · have hn : u.there.length = l.length + 1 := by simp [h]
      have e4 : decide ((0 : Int) < (u.there.length : Int)) = true := by simp [hn]
      have hw : IntKind.i64.wrap ((u.there.length : Int) - 1) = (l.length : Int) := by rw [IntKind.wrap_i64]; omega
      have hb : u.there[l.length]? = some b := by simp [h]
      have hge : (0 : Int) ≤ (l.length : Int) := by omega
      have hlt2 : (l.length : Int) < (u.there.length : Int) := by omega
      cases b with
      | true =>
        have e5 : thereE u = 0 := by simp [thereE, h]
        (have hA := And.intro e0_1 (And.intro e0_24 (And.intro h0_25 (And.intro hlt (And.intro e4 (And.intro hw (And.intro hb (And.intro hge (hlt2)))))))); have hP := True.intro; have hNE := True.intro; have hC := True.intro; repeat' first
            | with_reducible first | refine k_seq ?_ | refine t_seq ?_ | refine t_reg ?_ | refine t_nil ?_ | refine t_skip ?_ | refine t_ret ?_ | refine t_exit ?_ | refine k_seq_exit ?_ | refine k_blk_exit ?_ | refine k_invE_exit ?_
            | refine ae_val ?_
            | refine ae_gval ?_
            | refine a_cond ?_ ?_
            | (with_reducible intro hc; with_reducible exact Bool.noConfusion hc)
            | (with_reducible intro hc; have hC := And.intro hC hc))
        (first | apply pend rs57 | apply pendN rs57); (focus (simp only [go_sem, e0_1, e0_24, h0_25, recsE, e3, hr0, e5]; first | done | exact rfl)); (focus (simp only [go_sem, e0_1, e0_24, h0_25, recsE, e3, hr0, e5]; first | done | exact rfl))
      | false =>
        have e5 : thereE u = 21 := by simp [thereE, h]
        (have hA := And.intro e0_1 (And.intro e0_24 (And.intro h0_25 (And.intro hlt (And.intro e4 (And.intro hw (And.intro hb (And.intro hge (hlt2)))))))); have hP := True.intro; have hNE := True.intro; have hC := True.intro; repeat' first
            | with_reducible first | refine k_seq ?_ | refine t_seq ?_ | refine t_reg ?_ | refine t_nil ?_ | refine t_ret ?_ | refine t_exit ?_ | refine k_seq_exit ?_ | refine k_seq_ret ?_ | refine k_blk_exit ?_ | refine k_invE_exit ?_
            | refine ae_val ?_
            | refine ae_gval ?_
            | refine a_cond ?_ ?_
            | (with_reducible intro hc; with_reducible exact Bool.noConfusion hc)
            | (with_reducible intro hc; have hC := And.intro hC hc))
        (first | apply pend rs57 | apply pendN rs57); (focus (simp only [go_sem, e0_1, e0_24, h0_25, recsE, e3, hr0, e5]; first | done | exact rfl)); (focus (simp only [go_sem, e0_1, e0_24, h0_25, recsE, e3, hr0, e5]; first | done | exact rfl))
end Go.Proofs.Ythdgdngdfijfhaa
namespace Go.Proofs.Ythdgdngdfijfhaa
open Go.RowKit Go.Proofs
set_option linter.unusedVariables false
set_option linter.unusedSimpArgs false
attribute [local irreducible] PPure Tops TopsDm T
theorem p57 (u : Un) (hl : u.recs.length ≤ 1000) (hl2 : u.there.length ≤ 1000) : PPure Try.prog 57 [encU u] (.int .i64 (recsE u)) := by
  by_cases h : u.access = 1 ∧ u.there.length ≠ u.recs.length
  · exact p57a u h.1 h.2 hl hl2
  · exact p57b u (fun h1 => Decidable.byContradiction fun h2 => h ⟨h1, h2⟩) hl hl2
theorem dnz0 {x : Int} (h : x = 0) : decide (¬ x = 0) = false := by simp [h]
theorem dnz1 {x : Int} (h : ¬ x = 0) : decide (¬ x = 0) = true := by simp [h]
def formB (u : Un) : Bool :=
  (decide (0 < (u.recs.length : Int)) && decide (u.access = 2)) || (decide (0 < (u.there.length : Int)) && decide (¬ u.access = 1)) ||
  ((!(u.bytes == [])) && decide (¬ u.access = 2)) || (u.ended && decide (¬ u.access = 0))
def largeB (u : Un) : Bool := decide (60 < (u.recs.length : Int)) || decide (4000 < (u.bytes.length : Int))
def unitE1 (u : Un) : Int := orE [accF u.access u.width, rfs (largeB u) 8, rfs (formB u) 3]
def unitE (u : Un) : Int := if unitE1 u = 0 then orE [recsE u, rfs (!btw u.pos 0 (roomF u)) 2] else unitE1 u
set_option maxHeartbeats 1600000 in
theorem p16 (u : Un) (hl : u.recs.length ≤ 1000) (hl2 : u.there.length ≤ 1000) : PPure Try.prog 16 [encU u] (.int .i64 (unitE u)) := by
  have hp := p57 u hl hl2
  have hq := p59 u hl
  simp only [encU] at hp hq
  by_cases hz : unitE1 u = 0
  · have hz2 := hz
    simp only [unitE1, largeB, formB] at hz2
    have ez := dnz0 hz2
    simp only [encU]
    (refine ppure_of_T ok16 (by simp only [List.length_cons, List.length_nil]; decide) ?_; refine t_seq ?_)
    (have hA := ez; have hP := And.intro @p55 (And.intro @p56 (And.intro @p54_3 (And.intro @p54_2 (And.intro @p58 (And.intro hp (And.intro hq (True.intro))))))); have hNE := True.intro; have hC := True.intro; repeat' first
        | ((with_reducible apply te_drwA); (focus (simp (maxDischargeDepth := 8) only [effFlA, List.map_cons, List.map_nil]; exact rfl)); (focus decide +kernel))
        | with_reducible first | refine k_seq ?_ | refine t_seq ?_ | refine t_reg ?_ | refine t_nil ?_ | refine t_skip ?_ | refine t_ret ?_ | refine m_nil ?_
        | refine ae_val ?_
        | refine ae_gval ?_
        | refine be_val ?_
        | refine be_callS ?_
        | refine be_gval ?_
        | refine ae_box ?_
        | (refine ae_alloc ?_; intro la ha hn1; have hNE := And.intro hNE hn1)
        | refine ae_store ?_
        | refine a_cond ?_ ?_
        | (with_reducible intro hc; with_reducible exact Bool.noConfusion hc)
        | (with_reducible intro hc; have hC := And.intro hC hc))
    (first | apply pend rs16 | apply pendN rs16); (focus (simp only [go_sem, unitE, hz, btw]; first | done | exact rfl)); (focus (simp only [go_sem, unitE, hz, btw]; first | done | exact rfl))
  · have hz2 := hz
    simp only [unitE1, largeB, formB] at hz2
    have ez := dnz1 hz2
    simp only [encU]
    (refine ppure_of_T ok16 (by simp only [List.length_cons, List.length_nil]; decide) ?_; refine t_seq ?_)
    (have hA := ez; have hP := And.intro @p55 (And.intro @p56 (And.intro @p54_3 (And.intro @p54_2 (And.intro @p58 (And.intro hp (And.intro hq (True.intro))))))); have hNE := True.intro; have hC := True.intro; repeat' first
        | ((with_reducible apply te_drwA); (focus (simp (maxDischargeDepth := 8) only [effFlA, List.map_cons, List.map_nil]; exact rfl)); (focus decide +kernel))
        | with_reducible first | refine k_seq ?_ | refine t_seq ?_ | refine t_reg ?_ | refine t_nil ?_ | refine t_ret ?_ | refine k_seq_ret ?_ | refine m_nil ?_
        | refine ae_val ?_
        | refine ae_gval ?_
        | refine be_val ?_
        | refine be_callS ?_
        | refine be_gval ?_
        | refine ae_box ?_
        | (refine ae_alloc ?_; intro la ha hn1; have hNE := And.intro hNE hn1)
        | refine ae_store ?_
        | refine a_cond ?_ ?_
        | (with_reducible intro hc; with_reducible exact Bool.noConfusion hc)
        | (with_reducible intro hc; have hC := And.intro hC hc))
    have hu : unitE u = unitE1 u := by rw [unitE, if_neg hz]
    (first | apply pend rs16 | apply pendN rs16); (focus (simp only [go_sem, hu, unitE1, largeB, formB]; first | done | exact rfl)); (focus (simp only [go_sem, hu, unitE1, largeB, formB]; first | done | exact rfl))
end Go.Proofs.Ythdgdngdfijfhaa
namespace Go.Proofs.Ythdgdngdfijfhaa
open Go.RowKit Go.Proofs
set_option linter.unusedVariables false
set_option linter.unusedSimpArgs false
attribute [local irreducible] PPure Tops TopsDm T
def actE (a : Ac) : Int := orE [rfs (!btw a.kind 0 7) 15, rfs (decide (4000 < (a.bytes.length : Int))) 8, rfs ((!(a.bytes == [])) && decide (¬ a.kind = 1)) 3]
theorem p71 (a : Ac) : PPure Try.prog 71 [encAc a] (.int .i64 (actE a)) := by
  simp only [encAc]
  (refine ppure_of_T ok71 (by simp only [List.length_cons, List.length_nil]; decide) ?_; refine t_seq ?_)
  (have hA := True.intro; have hP := And.intro @p56 (And.intro @p54_3 (And.intro @p58 (True.intro))); have hNE := True.intro; have hC := True.intro; repeat' first
      | ((with_reducible apply te_drwA); (focus (simp (maxDischargeDepth := 8) only [effFlA, List.map_cons, List.map_nil]; exact rfl)); (focus decide +kernel))
      | with_reducible first | refine k_seq ?_ | refine t_seq ?_ | refine t_reg ?_ | refine t_nil ?_ | refine t_ret ?_ | refine m_nil ?_
      | refine ae_val ?_
      | refine be_val ?_
      | refine be_callS ?_
      | refine be_gval ?_
      | refine ae_box ?_)
  (first | apply pend rs71 | apply pendN rs71); (focus (simp only [go_sem, actE, btw]; first | done | exact rfl)); (focus (simp only [go_sem, actE, btw]; first | done | exact rfl))
def actsL : List Ac → Nat → Nat × Int
  | [], _ => (0, 0)
  | a :: r, i => if actE a = 0 then actsL r (i + 1) else (i, actE a)
def actsE (l : List Ac) : Nat × Int := if 60 < l.length then (0, 8) else actsL l 0
attribute [local go_sem] encAc Int.toNat_natCast List.getElem?_map Option.map_some in
theorem p68 (l : List Ac) (hl : l.length ≤ 1000) : PPure Try.prog 68 [.list .any (l.map encAc)] (.tup [.int .i64 ((actsE l).1 : Int), .int .i64 (actsE l).2]) := by
  by_cases h : 60 < l.length
  · have e1 : decide ((60 : Int) < (l.length : Int)) = true := by simp; omega
    (refine ppure_of_T ok68 (by simp only [List.length_cons, List.length_nil]; decide) ?_; refine t_seq ?_)
    (have hA := e1; have hP := True.intro; have hNE := True.intro; have hC := True.intro; repeat' first
        | with_reducible first | refine k_seq ?_ | refine t_seq ?_ | refine t_reg ?_ | refine t_nil ?_ | refine t_ret ?_ | refine k_seq_ret ?_
        | refine ae_val ?_
        | refine a_cond ?_ ?_
        | (with_reducible intro hc; with_reducible exact Bool.noConfusion hc)
        | (with_reducible intro hc; have hC := And.intro hC hc))
    (first | apply pend rs68 | apply pendN rs68); (focus (simp only [go_sem, actsE, h]; first | done | exact rfl)); (focus (simp only [go_sem, actsE, h]; first | done | exact rfl))
  · have e1 : decide ((60 : Int) < (l.length : Int)) = false := by simp; omega
    (refine ppure_of_T ok68 (by simp only [List.length_cons, List.length_nil]; decide) ?_; refine t_seq ?_)
    (have hA := e1; have hP := True.intro; have hNE := True.intro; have hC := True.intro; repeat' first
        | with_reducible first | refine k_seq ?_ | refine t_seq ?_ | refine t_reg ?_ | refine t_nil ?_ | refine t_skip ?_ | refine t_block ?_
        | refine ae_val ?_
        | refine a_cond ?_ ?_
        | (with_reducible intro hc; with_reducible exact Bool.noConfusion hc)
        | (with_reducible intro hc; have hC := And.intro hC hc))
    refine t_loopE (fun (k0 : Nat) (E0 : Nat → PV) (H0 : Hp) => ∃ (i : Nat), i + k0 = l.length ∧ actsL (l.drop i) i = actsL l 0 ∧ E0 12 = .int .i64 i) (l.length) ⟨0, (by first | omega | rfl | assumption | (simp only [go_sem, cast0]; first | done | rfl | assumption | omega)), (by first | omega | rfl | assumption | (simp only [go_sem, cast0]; first | done | rfl | assumption | omega)), (by simp only [go_sem, cast0]; first | done | rfl)⟩ ?_
    rintro k0 E0 H0 hfr0 ⟨i, hk, hr, h0_12⟩
    have e0_10 := hfr0 10 rfl; have e0_11 := hfr0 11 rfl
    simp only [go_sem, cast0] at e0_10 e0_11
    clear hfr0
    by_cases hi : i < l.length
    · obtain ⟨x, hx, hdr⟩ := at_list hi
      have hlt := lt_int hi
      have hge : (0 : Int) ≤ (i : Int) := by omega
      have hw := wrap_next hi hl
      rw [hdr, actsL] at hr
      have hp := p71 x
      simp only [encAc] at hp
      by_cases hz : actE x = 0
      · have ez : decide (¬ actE x = 0) = false := by simp [hz]
        rw [if_pos hz] at hr
        (have hA := And.intro e0_10 (And.intro e0_11 (And.intro h0_12 (And.intro hlt (And.intro hge (And.intro hx (ez)))))); have hP := And.intro hp (True.intro); have hNE := True.intro; have hC := True.intro; repeat' first
            | with_reducible first | refine k_seq ?_ | refine t_seq ?_ | refine t_reg ?_ | refine t_nil ?_ | refine t_skip ?_ | refine k_blk ?_ | refine t_block ?_
            | refine ae_val ?_
            | refine ae_callS ?_
            | (refine ae_alloc ?_; intro la ha hn1; have hNE := And.intro hNE hn1)
            | refine ae_store ?_
            | refine a_cond ?_ ?_
            | (with_reducible intro hc; with_reducible exact Bool.noConfusion hc)
            | (with_reducible intro hc; have hC := And.intro hC hc))
        refine k_invE (k0 - 1) (by omega) ⟨i + 1, (by omega), ?_, (by simp only [go_sem, e0_10, e0_11, h0_12, hw]; first | done | rfl)⟩
        exact hr
      · have ez : decide (¬ actE x = 0) = true := by simp [hz]
        rw [if_neg hz] at hr
        (have hA := And.intro e0_10 (And.intro e0_11 (And.intro h0_12 (And.intro hlt (And.intro hge (And.intro hx (ez)))))); have hP := And.intro hp (True.intro); have hNE := True.intro; have hC := True.intro; repeat' first
            | with_reducible first | refine k_seq ?_ | refine t_seq ?_ | refine t_reg ?_ | refine t_nil ?_ | refine t_skip ?_ | refine t_ret ?_ | refine k_seq_ret ?_ | refine k_blk_ret ?_ | refine k_invE_ret ?_ | refine t_block ?_
            | refine ae_val ?_
            | refine ae_callS ?_
            | (refine ae_alloc ?_; intro la ha hn1; have hNE := And.intro hNE hn1)
            | refine ae_store ?_
            | refine a_cond ?_ ?_
            | (with_reducible intro hc; with_reducible exact Bool.noConfusion hc)
            | (with_reducible intro hc; have hC := And.intro hC hc))
        (first | apply pend rs68 | apply pendN rs68); (focus (simp only [go_sem, e0_10, e0_11, h0_12, actsE, h, ← hr]; first | done | exact rfl)); (focus (simp only [go_sem, e0_10, e0_11, h0_12, actsE, h, ← hr]; first | done | exact rfl))
    · have hlt := nlt_int hi
      rw [at_end hi, actsL] at hr
      (have hA := And.intro e0_10 (And.intro e0_11 (And.intro h0_12 (hlt))); have hP := True.intro; have hNE := True.intro; have hC := True.intro; repeat' first
          | with_reducible first | refine k_seq ?_ | refine t_seq ?_ | refine t_reg ?_ | refine t_nil ?_ | refine t_ret ?_ | refine t_exit ?_ | refine k_seq_exit ?_ | refine k_blk_exit ?_ | refine k_invE_exit ?_
          | refine ae_val ?_
          | refine a_cond ?_ ?_
          | (with_reducible intro hc; with_reducible exact Bool.noConfusion hc)
          | (with_reducible intro hc; have hC := And.intro hC hc))
      (first | apply pend rs68 | apply pendN rs68); (focus (simp only [go_sem, e0_10, e0_11, h0_12, actsE, h, ← hr]; first | done | exact rfl)); (focus (simp only [go_sem, e0_10, e0_11, h0_12, actsE, h, ← hr]; first | done | exact rfl))
end Go.Proofs.Ythdgdngdfijfhaa
namespace Go.Proofs.Ythdgdngdfijfhaa
open Go.RowKit Go.Proofs
set_option linter.unusedVariables false
set_option linter.unusedSimpArgs false
attribute [local irreducible] PPure Tops TopsDm T
theorem ccS (xs : List (List UInt8)) : cellsB 1 (xs.map encS) = true := cells_map (e := encS) (fun _ => rfl) xs
theorem ccB (xs : List Bool) : cellsB 1 (xs.map encB) = true := cells_map (e := encB) (fun _ => rfl) xs
theorem ccI (xs : List Int) : cellsB 1 (xs.map encI) = true := cells_map (e := encI) (fun _ => rfl) xs
theorem ccAc (xs : List Ac) : cellsB 3 (xs.map encAc) = true := cells_map (e := encAc) (fun _ => rfl) xs
theorem ccAn (xs : List An) : cellsB 3 (xs.map encAn) = true := cells_map (e := encAn) (fun _ => rfl) xs
theorem ccEv (xs : List Ev) : cellsB 3 (xs.map encEv) = true := cells_map (e := encEv) (fun _ => rfl) xs
attribute [go_sem] ccS ccB ccI ccAc ccAn ccEv
theorem p97n : PPure Try.prog 97 [.list .nil []] (.list .nil []) := by
  (refine ppure_of_T ok97 (by simp only [List.length_cons, List.length_nil]; decide) ?_; refine t_seq ?_)
  (have hA := True.intro; have hP := True.intro; have hNE := True.intro; have hC := True.intro; repeat' first
      | with_reducible first | refine k_seq ?_ | refine t_seq ?_ | refine t_reg ?_ | refine t_nil ?_ | refine t_ret ?_ | refine k_seq_ret ?_
      | refine ae_val ?_
      | refine a_cond ?_ ?_
      | (with_reducible intro hc; with_reducible exact Bool.noConfusion hc)
      | (with_reducible intro hc; have hC := And.intro hC hc))
  apply pendK rs97; (focus (simp only [go_sem]; first | done | exact rfl)); (focus (simp only [go_sem]; first | done | exact rfl))
theorem p97m : PPure Try.prog 97 [.list .made []] (.list .full []) := by
  (refine ppure_of_T ok97 (by simp only [List.length_cons, List.length_nil]; decide) ?_; refine t_seq ?_)
  (have hA := True.intro; have hP := True.intro; have hNE := True.intro; have hC := True.intro; repeat' first
      | with_reducible first | refine k_seq ?_ | refine t_seq ?_ | refine t_reg ?_ | refine t_nil ?_ | refine t_skip ?_ | refine t_ret ?_
      | refine ae_val ?_
      | ((with_reducible apply te_appendE); (with_reducible exact app_22; with_reducible exact c_9); (focus (simp (maxDischargeDepth := 8) only [go_sem, hNE, hA]; first | done | exact rfl)); (focus (simp (maxDischargeDepth := 8) only [go_sem, hNE, hA]; first | done | exact rfl)); exact rfl; (focus (first | exact rfl | (simp (maxDischargeDepth := 8) only [go_sem, hNE, hA]; done))); (focus (simp (maxDischargeDepth := 8) only [go_sem, hNE, hA]; done)); (focus (simp (maxDischargeDepth := 8) only [go_sem, hNE, hA, roomB, List.length_take, List.length_append]; first | done | omega)))
      | refine a_cond ?_ ?_
      | (with_reducible intro hc; with_reducible exact Bool.noConfusion hc)
      | (with_reducible intro hc; have hC := And.intro hC hc))
  apply pendK rs97; (focus (simp only [go_sem]; first | done | exact rfl)); (focus (simp only [go_sem]; first | done | exact rfl))
theorem n97 (xs : List (List UInt8)) (hx : xs ≠ []) (hl : xs.length ≤ 1000) : CallN Try.prog 97 [.list .any (xs.map encS)] 1 (xs.map encS) := by
  have hne : (xs.map encS).isEmpty = false := by simp [hx]
  (refine callN_of_T ok97 (by simp only [List.length_cons, List.length_nil]; decide) ?_; refine t_seq ?_)
  (have hA := hne; have hP := True.intro; have hNE := True.intro; have hC := True.intro; repeat' first
      | with_reducible first | refine k_seq ?_ | refine t_seq ?_ | refine t_reg ?_ | refine t_nil ?_ | refine t_skip ?_ | refine t_ret ?_
      | refine ae_val ?_
      | ((with_reducible apply te_appendL); (with_reducible exact app_22; with_reducible exact c_9); (focus (simp (maxDischargeDepth := 8) only [go_sem, hNE, hA]; first | done | exact rfl)); (focus (simp (maxDischargeDepth := 8) only [go_sem, hNE, hA]; first | done | exact rfl)); exact rfl; (focus (first | exact rfl | (simp (maxDischargeDepth := 8) only [go_sem, hNE, hA]; done))); (focus (simp (maxDischargeDepth := 8) only [go_sem, hNE, hA]; done)); (focus (simp (maxDischargeDepth := 8) only [go_sem, hNE, hA]; done)); (focus (simp (maxDischargeDepth := 8) only [go_sem, hNE, hA, roomB, List.length_take, List.length_append]; first | done | omega)); (intro la ha hn1; have hNE := And.intro hNE hn1))
      | refine a_cond ?_ ?_
      | (with_reducible intro hc; with_reducible exact Bool.noConfusion hc)
      | (with_reducible intro hc; have hC := And.intro hC hc))
  apply nend rs97; (focus (simp only [go_sem]; first | done | exact rfl)); (focus (simp only [go_sem]; first | done | exact rfl)); (focus (simp only [go_sem]; first | done | exact rfl))
theorem p97 : PPure Try.prog 97 [.list .any []] (.list .full []) := ppure_nil p97n.full_of_nil p97m
theorem p98n : PPure Try.prog 98 [.list .nil []] (.list .nil []) := by
  (refine ppure_of_T ok98 (by simp only [List.length_cons, List.length_nil]; decide) ?_; refine t_seq ?_)
  (have hA := True.intro; have hP := True.intro; have hNE := True.intro; have hC := True.intro; repeat' first
      | with_reducible first | refine k_seq ?_ | refine t_seq ?_ | refine t_reg ?_ | refine t_nil ?_ | refine t_ret ?_ | refine k_seq_ret ?_
      | refine ae_val ?_
      | refine a_cond ?_ ?_
      | (with_reducible intro hc; with_reducible exact Bool.noConfusion hc)
      | (with_reducible intro hc; have hC := And.intro hC hc))
  apply pendK rs98; (focus (simp only [go_sem]; first | done | exact rfl)); (focus (simp only [go_sem]; first | done | exact rfl))
theorem p98m : PPure Try.prog 98 [.list .made []] (.list .full []) := by
  (refine ppure_of_T ok98 (by simp only [List.length_cons, List.length_nil]; decide) ?_; refine t_seq ?_)
  (have hA := True.intro; have hP := True.intro; have hNE := True.intro; have hC := True.intro; repeat' first
      | with_reducible first | refine k_seq ?_ | refine t_seq ?_ | refine t_reg ?_ | refine t_nil ?_ | refine t_skip ?_ | refine t_ret ?_
      | refine ae_val ?_
      | ((with_reducible apply te_appendE); (with_reducible exact app_23; with_reducible exact c_4); (focus (simp (maxDischargeDepth := 8) only [go_sem, hNE, hA]; first | done | exact rfl)); (focus (simp (maxDischargeDepth := 8) only [go_sem, hNE, hA]; first | done | exact rfl)); exact rfl; (focus (first | exact rfl | (simp (maxDischargeDepth := 8) only [go_sem, hNE, hA]; done))); (focus (simp (maxDischargeDepth := 8) only [go_sem, hNE, hA]; done)); (focus (simp (maxDischargeDepth := 8) only [go_sem, hNE, hA, roomB, List.length_take, List.length_append]; first | done | omega)))
      | refine a_cond ?_ ?_
      | (with_reducible intro hc; with_reducible exact Bool.noConfusion hc)
      | (with_reducible intro hc; have hC := And.intro hC hc))
  apply pendK rs98; (focus (simp only [go_sem]; first | done | exact rfl)); (focus (simp only [go_sem]; first | done | exact rfl))
theorem n98 (xs : List Bool) (hx : xs ≠ []) (hl : xs.length ≤ 1000) : CallN Try.prog 98 [.list .any (xs.map encB)] 1 (xs.map encB) := by
  have hne : (xs.map encB).isEmpty = false := by simp [hx]
  (refine callN_of_T ok98 (by simp only [List.length_cons, List.length_nil]; decide) ?_; refine t_seq ?_)
  (have hA := hne; have hP := True.intro; have hNE := True.intro; have hC := True.intro; repeat' first
      | with_reducible first | refine k_seq ?_ | refine t_seq ?_ | refine t_reg ?_ | refine t_nil ?_ | refine t_skip ?_ | refine t_ret ?_
      | refine ae_val ?_
      | ((with_reducible apply te_appendL); (with_reducible exact app_23; with_reducible exact c_4); (focus (simp (maxDischargeDepth := 8) only [go_sem, hNE, hA]; first | done | exact rfl)); (focus (simp (maxDischargeDepth := 8) only [go_sem, hNE, hA]; first | done | exact rfl)); exact rfl; (focus (first | exact rfl | (simp (maxDischargeDepth := 8) only [go_sem, hNE, hA]; done))); (focus (simp (maxDischargeDepth := 8) only [go_sem, hNE, hA]; done)); (focus (simp (maxDischargeDepth := 8) only [go_sem, hNE, hA]; done)); (focus (simp (maxDischargeDepth := 8) only [go_sem, hNE, hA, roomB, List.length_take, List.length_append]; first | done | omega)); (intro la ha hn1; have hNE := And.intro hNE hn1))
      | refine a_cond ?_ ?_
      | (with_reducible intro hc; with_reducible exact Bool.noConfusion hc)
      | (with_reducible intro hc; have hC := And.intro hC hc))
  apply nend rs98; (focus (simp only [go_sem]; first | done | exact rfl)); (focus (simp only [go_sem]; first | done | exact rfl)); (focus (simp only [go_sem]; first | done | exact rfl))
theorem p98 : PPure Try.prog 98 [.list .any []] (.list .full []) := ppure_nil p98n.full_of_nil p98m
end Go.Proofs.Ythdgdngdfijfhaa
namespace Go.Proofs.Ythdgdngdfijfhaa
open Go.RowKit Go.Proofs
set_option linter.unusedVariables false
set_option linter.unusedSimpArgs false
attribute [local irreducible] PPure CallN Tops TopsDm T
theorem p97a (xs : List (List UInt8)) (hl : xs.length ≤ 1000) : PPure Try.prog 97 [.list .any (xs.map encS)] (.list .any (xs.map encS)) := by
  by_cases hx : xs = []
  · subst hx
    simp only [List.map_nil]
    refine ppure_nil ?_ ?_
    · (refine ppure_of_T ok97 (by simp only [List.length_cons, List.length_nil]; decide) ?_; refine t_seq ?_)
      (have hA := True.intro; have hP := True.intro; have hNE := True.intro; have hC := True.intro; repeat' first
          | with_reducible first | refine k_seq ?_ | refine t_seq ?_ | refine t_reg ?_ | refine t_nil ?_ | refine t_ret ?_ | refine k_seq_ret ?_
          | refine ae_val ?_
          | refine a_cond ?_ ?_
          | (with_reducible intro hc; with_reducible exact Bool.noConfusion hc)
          | (with_reducible intro hc; have hC := And.intro hC hc))
      (first | apply pend rs97 | apply pendN rs97); (focus (simp only [go_sem]; first | done | exact rfl)); (focus (simp only [go_sem]; first | done | exact rfl))
    · (refine ppure_of_T ok97 (by simp only [List.length_cons, List.length_nil]; decide) ?_; refine t_seq ?_)
      (have hA := True.intro; have hP := True.intro; have hNE := True.intro; have hC := True.intro; repeat' first
          | with_reducible first | refine k_seq ?_ | refine t_seq ?_ | refine t_reg ?_ | refine t_nil ?_ | refine t_skip ?_ | refine t_ret ?_
          | refine ae_val ?_
          | ((with_reducible apply te_appendE); (with_reducible exact app_22; with_reducible exact c_9); (focus (simp (maxDischargeDepth := 8) only [go_sem, hNE, hA]; first | done | exact rfl)); (focus (simp (maxDischargeDepth := 8) only [go_sem, hNE, hA]; first | done | exact rfl)); exact rfl; (focus (first | exact rfl | (simp (maxDischargeDepth := 8) only [go_sem, hNE, hA]; done))); (focus (simp (maxDischargeDepth := 8) only [go_sem, hNE, hA]; done)); (focus (simp (maxDischargeDepth := 8) only [go_sem, hNE, hA, roomB, List.length_take, List.length_append]; first | done | omega)))
          | refine a_cond ?_ ?_
          | (with_reducible intro hc; with_reducible exact Bool.noConfusion hc)
          | (with_reducible intro hc; have hC := And.intro hC hc))
      (first | apply pend rs97 | apply pendN rs97); (focus (simp only [go_sem]; first | done | exact rfl)); (focus (simp only [go_sem]; first | done | exact rfl))
  · have hne : (xs.map encS).isEmpty = false := by simp [hx]
    (refine ppure_of_T ok97 (by simp only [List.length_cons, List.length_nil]; decide) ?_; refine t_seq ?_)
    (have hA := hne; have hP := True.intro; have hNE := True.intro; have hC := True.intro; repeat' first
        | with_reducible first | refine k_seq ?_ | refine t_seq ?_ | refine t_reg ?_ | refine t_nil ?_ | refine t_skip ?_ | refine t_ret ?_
        | refine ae_val ?_
        | ((with_reducible apply te_appendL); (with_reducible exact app_22; with_reducible exact c_9); (focus (simp (maxDischargeDepth := 8) only [go_sem, hNE, hA]; first | done | exact rfl)); (focus (simp (maxDischargeDepth := 8) only [go_sem, hNE, hA]; first | done | exact rfl)); exact rfl; (focus (first | exact rfl | (simp (maxDischargeDepth := 8) only [go_sem, hNE, hA]; done))); (focus (simp (maxDischargeDepth := 8) only [go_sem, hNE, hA]; done)); (focus (simp (maxDischargeDepth := 8) only [go_sem, hNE, hA]; done)); (focus (simp (maxDischargeDepth := 8) only [go_sem, hNE, hA, roomB, List.length_take, List.length_append]; first | done | omega)); (intro la ha hn1; have hNE := And.intro hNE hn1))
        | refine a_cond ?_ ?_
        | (with_reducible intro hc; with_reducible exact Bool.noConfusion hc)
        | (with_reducible intro hc; have hC := And.intro hC hc))
    (first | apply pend rs97 | apply pendN rs97); (focus (simp only [go_sem, clSs, mapM_closed7]; first | done | exact rfl)); (focus (simp only [go_sem, clSs, mapM_closed7]; first | done | exact rfl))
theorem p98a (xs : List Bool) (hl : xs.length ≤ 1000) : PPure Try.prog 98 [.list .any (xs.map encB)] (.list .any (xs.map encB)) := by
  by_cases hx : xs = []
  · subst hx
    simp only [List.map_nil]
    refine ppure_nil ?_ ?_
    · (refine ppure_of_T ok98 (by simp only [List.length_cons, List.length_nil]; decide) ?_; refine t_seq ?_)
      (have hA := True.intro; have hP := True.intro; have hNE := True.intro; have hC := True.intro; repeat' first
          | with_reducible first | refine k_seq ?_ | refine t_seq ?_ | refine t_reg ?_ | refine t_nil ?_ | refine t_ret ?_ | refine k_seq_ret ?_
          | refine ae_val ?_
          | refine a_cond ?_ ?_
          | (with_reducible intro hc; with_reducible exact Bool.noConfusion hc)
          | (with_reducible intro hc; have hC := And.intro hC hc))
      (first | apply pend rs98 | apply pendN rs98); (focus (simp only [go_sem]; first | done | exact rfl)); (focus (simp only [go_sem]; first | done | exact rfl))
    · (refine ppure_of_T ok98 (by simp only [List.length_cons, List.length_nil]; decide) ?_; refine t_seq ?_)
      (have hA := True.intro; have hP := True.intro; have hNE := True.intro; have hC := True.intro; repeat' first
          | with_reducible first | refine k_seq ?_ | refine t_seq ?_ | refine t_reg ?_ | refine t_nil ?_ | refine t_skip ?_ | refine t_ret ?_
          | refine ae_val ?_
          | ((with_reducible apply te_appendE); (with_reducible exact app_23; with_reducible exact c_4); (focus (simp (maxDischargeDepth := 8) only [go_sem, hNE, hA]; first | done | exact rfl)); (focus (simp (maxDischargeDepth := 8) only [go_sem, hNE, hA]; first | done | exact rfl)); exact rfl; (focus (first | exact rfl | (simp (maxDischargeDepth := 8) only [go_sem, hNE, hA]; done))); (focus (simp (maxDischargeDepth := 8) only [go_sem, hNE, hA]; done)); (focus (simp (maxDischargeDepth := 8) only [go_sem, hNE, hA, roomB, List.length_take, List.length_append]; first | done | omega)))
          | refine a_cond ?_ ?_
          | (with_reducible intro hc; with_reducible exact Bool.noConfusion hc)
          | (with_reducible intro hc; have hC := And.intro hC hc))
      (first | apply pend rs98 | apply pendN rs98); (focus (simp only [go_sem]; first | done | exact rfl)); (focus (simp only [go_sem]; first | done | exact rfl))
  · have hne : (xs.map encB).isEmpty = false := by simp [hx]
    (refine ppure_of_T ok98 (by simp only [List.length_cons, List.length_nil]; decide) ?_; refine t_seq ?_)
    (have hA := hne; have hP := True.intro; have hNE := True.intro; have hC := True.intro; repeat' first
        | with_reducible first | refine k_seq ?_ | refine t_seq ?_ | refine t_reg ?_ | refine t_nil ?_ | refine t_skip ?_ | refine t_ret ?_
        | refine ae_val ?_
        | ((with_reducible apply te_appendL); (with_reducible exact app_23; with_reducible exact c_4); (focus (simp (maxDischargeDepth := 8) only [go_sem, hNE, hA]; first | done | exact rfl)); (focus (simp (maxDischargeDepth := 8) only [go_sem, hNE, hA]; first | done | exact rfl)); exact rfl; (focus (first | exact rfl | (simp (maxDischargeDepth := 8) only [go_sem, hNE, hA]; done))); (focus (simp (maxDischargeDepth := 8) only [go_sem, hNE, hA]; done)); (focus (simp (maxDischargeDepth := 8) only [go_sem, hNE, hA]; done)); (focus (simp (maxDischargeDepth := 8) only [go_sem, hNE, hA, roomB, List.length_take, List.length_append]; first | done | omega)); (intro la ha hn1; have hNE := And.intro hNE hn1))
        | refine a_cond ?_ ?_
        | (with_reducible intro hc; with_reducible exact Bool.noConfusion hc)
        | (with_reducible intro hc; have hC := And.intro hC hc))
    (first | apply pend rs98 | apply pendN rs98); (focus (simp only [go_sem, clBs, mapM_closed7]; first | done | exact rfl)); (focus (simp only [go_sem, clBs, mapM_closed7]; first | done | exact rfl))
theorem p69 (u : Un) (hl : u.recs.length ≤ 1000) (hl2 : u.there.length ≤ 1000) : PPure Try.prog 69 [encU u] (encU u) := by
  simp only [encU]
  (refine ppure_of_T ok69 (by simp only [List.length_cons, List.length_nil]; decide) ?_; refine t_seq ?_)
  (have hA := True.intro; have hP := And.intro (p97a _ hl) (And.intro (p98a _ hl2) (True.intro)); have hNE := True.intro; have hC := True.intro; repeat' first
      | ((with_reducible apply te_drwA); (focus (simp (maxDischargeDepth := 8) only [effFlA, List.map_cons, List.map_nil]; exact rfl)); (focus decide +kernel))
      | with_reducible first | refine k_seq ?_ | refine t_seq ?_ | refine t_reg ?_ | refine t_nil ?_ | refine t_ret ?_ | refine m_nil ?_
      | refine ae_val ?_
      | refine be_val ?_
      | refine be_callS ?_
      | (refine ae_boxL ?_; intro la ha hn1; have hNE := And.intro hNE hn1)
      | (refine ae_alloc ?_; intro la ha hn1; have hNE := And.intro hNE hn1)
      | refine ae_store ?_
      | refine be_store ?_)
  (first | apply pend rs69 | apply pendN rs69); (focus (simp only [go_sem]; first | done | exact rfl)); (focus (simp only [go_sem]; first | done | exact rfl))
def encO (u : Un) (v1 v2 : PV) : PV := .agg [.int .i64 u.access, .int .i64 u.width, v1, v2, .str u.bytes, .bool u.ended, .int .i64 u.pos]
theorem g69a (u : Un) (h1 : u.recs = []) (h2 : u.there = []) {K : PV → Hp → Prop} (H : Hp) (hK : K (encO u (.list .full []) (.list .full [])) H) : CallsG Try.prog 69 [encU u] H K := by
  simp only [encU, h1, h2, List.map_nil]
  (refine callsG_of_T ok69 (by simp only [List.length_cons, List.length_nil]; decide) ?_; refine t_seq ?_)
  (have hA := True.intro; have hP := And.intro p97 (And.intro p98 (True.intro)); have hNE := True.intro; have hC := True.intro; repeat' first
      | ((with_reducible apply te_drwA); (focus (simp (maxDischargeDepth := 8) only [effFlA, List.map_cons, List.map_nil]; exact rfl)); (focus decide +kernel))
      | with_reducible first | refine k_seq ?_ | refine t_seq ?_ | refine t_reg ?_ | refine t_nil ?_ | refine t_ret ?_ | refine m_nil ?_
      | refine ae_val ?_
      | refine be_val ?_
      | refine be_callS ?_
      | (refine ae_boxL ?_; intro la ha hn1; have hNE := And.intro hNE hn1)
      | (refine ae_alloc ?_; intro la ha hn1; have hNE := And.intro hNE hn1)
      | refine ae_store ?_
      | refine be_store ?_)
  refine gend rs69 ?_ ?_ (hK); (focus (simp (maxDischargeDepth := 8) only [go_sem, encO]; first | done | exact rfl)); (focus (repeat refine sub1 (by simp (maxDischargeDepth := 8) only [go_sem, encO, hNE]; first | done | rfl) ?_); (intro lq cq hlq; simp (maxDischargeDepth := 8) only [go_sem, encO, hNE, hlq]))
theorem g69b (u : Un) (h1 : u.recs ≠ []) (h2 : u.there = []) (hl : u.recs.length ≤ 1000) {K : PV → Hp → Prop} (H : Hp) (hK : ∀ l, H l = none → K (encO u (.arr l 1 0 u.recs.length) (.list .full [])) (upd H l (some (.row true 1 (u.recs.map encS))))) : CallsG Try.prog 69 [encU u] H K := by
  simp only [encU, h2, List.map_nil]
  (refine callsG_of_T ok69 (by simp only [List.length_cons, List.length_nil]; decide) ?_; refine t_seq ?_)
  (have hA := True.intro; have hP := And.intro p98 (True.intro); have hNE := True.intro; have hC := True.intro; repeat' first
      | ((with_reducible apply te_drwA); (focus (simp (maxDischargeDepth := 8) only [effFlA, List.map_cons, List.map_nil]; exact rfl)); (focus decide +kernel))
      | with_reducible first | refine k_seq ?_ | refine t_seq ?_ | refine t_reg ?_ | refine t_nil ?_ | refine t_ret ?_ | refine m_nil ?_
      | refine ae_val ?_
      | refine be_val ?_
      | refine be_callS ?_
      | ((with_reducible apply me_callN); (focus (simp (maxDischargeDepth := 8) only [go_sem, hNE, hA]; first | done | exact rfl)); (focus (simp (maxDischargeDepth := 8) only [go_sem, hNE, hA]; first | done | exact rfl)); (first | exact n97 _ h1 hl); (intro la ha hn1; have hNE := And.intro hNE hn1))
      | (refine ae_boxL ?_; intro la ha hn1; have hNE := And.intro hNE hn1)
      | (refine ae_alloc ?_; intro la ha hn1; have hNE := And.intro hNE hn1)
      | refine ae_store ?_
      | refine be_store ?_)
  have h0 := upd_none (upd_none ha).2
  refine gend rs69 ?_ ?_ (hK la h0.2); (focus (simp (maxDischargeDepth := 8) only [go_sem, encO]; first | done | exact rfl)); (focus (repeat refine sub1 (by simp (maxDischargeDepth := 8) only [go_sem, encO, hNE]; first | done | rfl) ?_); (intro lq cq hlq; simp (maxDischargeDepth := 8) only [go_sem, encO, hNE, hlq]))
theorem g69c (u : Un) (h1 : u.recs ≠ []) (h2 : u.there ≠ []) (hl : u.recs.length ≤ 1000) (hl2 : u.there.length ≤ 1000) {K : PV → Hp → Prop} (H : Hp)
    (hK : ∀ l l2, H l = none → H l2 = none → l2 ≠ l → K (encO u (.arr l 1 0 u.recs.length) (.arr l2 1 0 u.there.length)) (upd (upd H l (some (.row true 1 (u.recs.map encS)))) l2 (some (.row true 1 (u.there.map encB))))) : CallsG Try.prog 69 [encU u] H K := by
  simp only [encU]
  (refine callsG_of_T ok69 (by simp only [List.length_cons, List.length_nil]; decide) ?_; refine t_seq ?_)
  (have hA := True.intro; have hP := True.intro; have hNE := True.intro; have hC := True.intro; repeat' first
      | ((with_reducible apply te_drwA); (focus (simp (maxDischargeDepth := 8) only [effFlA, List.map_cons, List.map_nil]; exact rfl)); (focus decide +kernel))
      | with_reducible first | refine k_seq ?_ | refine t_seq ?_ | refine t_reg ?_ | refine t_nil ?_ | refine t_ret ?_ | refine m_nil ?_
      | refine ae_val ?_
      | refine be_val ?_
      | ((with_reducible apply me_callN); (focus (simp (maxDischargeDepth := 8) only [go_sem, hNE, hA]; first | done | exact rfl)); (focus (simp (maxDischargeDepth := 8) only [go_sem, hNE, hA]; first | done | exact rfl)); (first | exact n97 _ h1 hl | exact n98 _ h2 hl2); (intro la ha hn1; have hNE := And.intro hNE hn1))
      | (refine ae_boxL ?_; intro la ha hn1; have hNE := And.intro hNE hn1)
      | (refine ae_alloc ?_; intro la ha hn1; have hNE := And.intro hNE hn1)
      | refine ae_store ?_
      | refine be_store ?_)
  have h0 := upd_none ha
  have h3 := upd_none h0.2
  have h4 := upd_none h3.2
  rename_i l1 a1 n1 e1
  refine gend rs69 ?_ ?_ (hK l1 la (upd_none (upd_none a1).2).2 h4.2 h0.1); (focus (simp (maxDischargeDepth := 8) only [go_sem, encO]; first | done | exact rfl)); (focus (repeat refine sub1 (by simp (maxDischargeDepth := 8) only [go_sem, encO, hNE]; first | done | rfl) ?_); (intro lq cq hlq; simp (maxDischargeDepth := 8) only [go_sem, encO, hNE, hlq]))
end Go.Proofs.Ythdgdngdfijfhaa
namespace Go.Proofs.Ythdgdngdfijfhaa
open Go.RowKit Go.Proofs
set_option linter.unusedVariables false
set_option linter.unusedSimpArgs false
attribute [local irreducible] PPure CallN Tops TopsDm T
def permF (a k : Int) : Bool :=
  if k = 2 then decide (a = 0) else if k = 4 then decide (a = 0) else if k = 3 then decide (¬ a = 1) else if k = 5 then decide (a = 2) else true
theorem p99 (a k : Int) : PPure Try.prog 99 [.int .i64 a, .int .i64 k] (.bool (permF a k)) := by
  by_cases h2 : k = 2
  · subst h2
    (refine ppure_of_T ok99 (by simp only [List.length_cons, List.length_nil]; decide) ?_; refine t_seq ?_)
    (have hA := True.intro; have hP := True.intro; have hNE := True.intro; have hC := True.intro; repeat' first
        | with_reducible first | refine k_seq ?_ | refine t_seq ?_ | refine t_reg ?_ | refine t_nil ?_ | refine t_skip ?_ | refine t_ret ?_ | refine k_seq_ret ?_ | refine k_blk_ret ?_ | refine t_block ?_
        | refine ae_val ?_
        | refine a_cond ?_ ?_
        | (with_reducible intro hc; with_reducible exact Bool.noConfusion hc)
        | (with_reducible intro hc; have hC := And.intro hC hc))
    (first | apply pend rs99 | apply pendN rs99); (focus (simp only [go_sem, permF]; first | done | exact rfl)); (focus (simp only [go_sem, permF]; first | done | exact rfl))
  have e2 : decide (k = 2) = false := by simp [h2]
  by_cases h4 : k = 4
  · subst h4
    (refine ppure_of_T ok99 (by simp only [List.length_cons, List.length_nil]; decide) ?_; refine t_seq ?_)
    (have hA := True.intro; have hP := True.intro; have hNE := True.intro; have hC := True.intro; repeat' first
        | with_reducible first | refine k_seq ?_ | refine t_seq ?_ | refine t_reg ?_ | refine t_nil ?_ | refine t_ret ?_ | refine k_seq_ret ?_ | refine k_blk_ret ?_ | refine t_block ?_
        | refine ae_val ?_
        | refine a_cond ?_ ?_
        | (with_reducible intro hc; with_reducible exact Bool.noConfusion hc)
        | (with_reducible intro hc; have hC := And.intro hC hc))
    (first | apply pend rs99 | apply pendN rs99); (focus (simp only [go_sem, permF]; first | done | exact rfl)); (focus (simp only [go_sem, permF]; first | done | exact rfl))
  have e4 : decide (k = 4) = false := by simp [h4]
  by_cases h3 : k = 3
  · subst h3
    (refine ppure_of_T ok99 (by simp only [List.length_cons, List.length_nil]; decide) ?_; refine t_seq ?_)
    (have hA := True.intro; have hP := True.intro; have hNE := True.intro; have hC := True.intro; repeat' first
        | with_reducible first | refine k_seq ?_ | refine t_seq ?_ | refine t_reg ?_ | refine t_nil ?_ | refine t_ret ?_ | refine k_seq_ret ?_ | refine k_blk_ret ?_ | refine t_block ?_
        | refine ae_val ?_
        | refine a_cond ?_ ?_
        | (with_reducible intro hc; with_reducible exact Bool.noConfusion hc)
        | (with_reducible intro hc; have hC := And.intro hC hc))
    (first | apply pend rs99 | apply pendN rs99); (focus (simp only [go_sem, permF]; first | done | exact rfl)); (focus (simp only [go_sem, permF]; first | done | exact rfl))
  have e3 : decide (k = 3) = false := by simp [h3]
  by_cases h5 : k = 5
  · subst h5
    (refine ppure_of_T ok99 (by simp only [List.length_cons, List.length_nil]; decide) ?_; refine t_seq ?_)
    (have hA := True.intro; have hP := True.intro; have hNE := True.intro; have hC := True.intro; repeat' first
        | with_reducible first | refine k_seq ?_ | refine t_seq ?_ | refine t_reg ?_ | refine t_nil ?_ | refine t_ret ?_ | refine k_seq_ret ?_ | refine k_blk_ret ?_ | refine t_block ?_
        | refine ae_val ?_
        | refine a_cond ?_ ?_
        | (with_reducible intro hc; with_reducible exact Bool.noConfusion hc)
        | (with_reducible intro hc; have hC := And.intro hC hc))
    (first | apply pend rs99 | apply pendN rs99); (focus (simp only [go_sem, permF]; first | done | exact rfl)); (focus (simp only [go_sem, permF]; first | done | exact rfl))
  have e5 : decide (k = 5) = false := by simp [h5]
  (refine ppure_of_T ok99 (by simp only [List.length_cons, List.length_nil]; decide) ?_; refine t_seq ?_)
  (have hA := And.intro e2 (And.intro e3 (And.intro e4 (e5))); have hP := True.intro; have hNE := True.intro; have hC := True.intro; repeat' first
      | with_reducible first | refine k_seq ?_ | refine t_seq ?_ | refine t_reg ?_ | refine t_nil ?_ | refine t_skip ?_ | refine t_ret ?_ | refine k_blk ?_ | refine t_block ?_
      | refine ae_val ?_
      | refine a_cond ?_ ?_
      | (with_reducible intro hc; with_reducible exact Bool.noConfusion hc)
      | (with_reducible intro hc; have hC := And.intro hC hc))
  (first | apply pend rs99 | apply pendN rs99); (focus (simp only [go_sem, permF, h2, h3, h4, h5]; first | done | exact rfl)); (focus (simp only [go_sem, permF, h2, h3, h4, h5]; first | done | exact rfl))
def stA (n : Int) : An := ⟨n, [], 0⟩
theorem p100 (n : Int) : PPure Try.prog 100 [.int .i64 n] (encAn (stA n)) := by
  simp only [encAn, stA]
  (refine ppure_of_T ok100 (by simp only [List.length_cons, List.length_nil]; decide) ?_; refine t_seq ?_)
  (have hA := True.intro; have hP := True.intro; have hNE := True.intro; have hC := True.intro; repeat' first
      | with_reducible first | refine k_seq ?_ | refine t_seq ?_ | refine t_reg ?_ | refine t_nil ?_ | refine t_ret ?_
      | refine ae_val ?_
      | (refine ae_alloc ?_; intro la ha hn1; have hNE := And.intro hNE hn1)
      | refine ae_store ?_)
  (first | apply pend rs100 | apply pendN rs100); (focus (simp only [go_sem]; first | done | exact rfl)); (focus (simp only [go_sem]; first | done | exact rfl))
end Go.Proofs.Ythdgdngdfijfhaa
namespace Go.Proofs.Ythdgdngdfijfhaa
open Go.RowKit Go.Proofs
set_option linter.unusedVariables false
set_option linter.unusedSimpArgs false
attribute [local irreducible] PPure CallN Tops TopsDm T
def OwnL (H : Hp) (v : PV) (xs : List PV) : Prop := (xs = [] ∧ v = .list .full []) ∨ ∃ l ys, v = .arr l 1 0 xs.length ∧ H l = some (.row true 1 (xs ++ ys))
def seqF (u : Un) (a : Ac) : Un × An :=
  if a.kind = 2 then
    if (u.recs.length : Int) < u.pos then ({ u with pos := u.recs.length }, stA 0) else ({ u with pos := if u.pos - 1 < 0 then 0 else u.pos - 1 }, stA 0)
  else if (u.recs.length : Int) < u.pos then (u, stA 1)
  else if a.kind = 0 then
    if u.pos = u.recs.length then ({ u with pos := u.pos + 1 }, stA (-1)) else ({ u with pos := u.pos + 1 }, ⟨0, (u.recs[u.pos.toNat]?).getD [], 0⟩)
  else if a.kind = 4 then ({ u with recs := u.recs.take u.pos.toNat, ended := true, pos := u.pos + 1 }, stA 0)
  else if 200 < a.bytes.length then (u, stA 5)
  else if u.pos = 60 then (u, stA 6)
  else ({ u with recs := u.recs.take u.pos.toNat ++ [a.bytes], ended := false, pos := u.pos + 1 }, stA 0)
theorem p100' (n : Int) : PPure Try.prog 100 [.int .i64 n] (.agg [.int .i64 n, .str [], .int .i64 0]) := p100 n
attribute [local go_sem] mapM_closed7 mapM_closed6 encS Int.toNat_natCast List.getElem?_map Option.map_some in
set_option maxHeartbeats 4000000 in
theorem g101 (u : Un) (a : Ac) (p : Nat) (hp : u.pos = p) (hpl : p ≤ u.recs.length + 1) (hl : u.recs.length ≤ 60) (ht : u.there = []) (la l1 : Lab) (H : Hp)
    (hla : H la = some (.row true 7 [encO u (.arr l1 1 0 u.recs.length) (.list .full [])])) (hl1 : H l1 = some (.row true 1 (u.recs.map encS))) (hne : l1 ≠ la) {K : PV → Hp → Prop}
    (hK : ∀ H' v1, OwnL H' v1 ((seqF u a).1.recs.map encS) → H' la = some (.row true 7 [encO (seqF u a).1 v1 (.list .full [])]) → (∀ l c, H l = some c → l ≠ la → l ≠ l1 → H' l = some c) → K (encAn (seqF u a).2) H') :
    CallsG Try.prog 101 [.ref la 7 0 0, encAc a] H K := by
  have hq1 : (l1 = la) = False := eq_false hne
  have hq2 : (la = l1) = False := eq_false (Ne.symm hne)
  have hb := p110 u (by omega)
  simp only [encU, ht, List.map_nil, hp] at hb
  have htk : List.take u.recs.length (List.map encS u.recs) = List.map encS u.recs := by rw [List.take_of_length_le (by simp)]
  simp only [encO, hp] at hla
  simp only [encAc]
  have OWN : ∀ Hx : Hp, Hx l1 = some (.row true 1 (u.recs.map encS)) → OwnL Hx (.arr l1 1 0 u.recs.length) (u.recs.map encS) := fun Hx h => .inr ⟨l1, [], by simp, by simpa using h⟩
  have hge : (0 : Int) ≤ (p : Int) := by omega
  have hw1 : IntKind.i64.wrap ((p : Int) + 1) = (p : Int) + 1 := by rw [IntKind.wrap_i64]; omega
  have hw2 : IntKind.i64.wrap ((p : Int) + 1 - 1) = (p : Int) := by rw [IntKind.wrap_i64]; omega
  have hw3 : IntKind.i64.wrap ((p : Int) - 1) = (p : Int) - 1 := by rw [IntKind.wrap_i64]; omega
  have hz : ((p : Int) - 0).toNat = p := by omega
  by_cases hbe : (u.recs.length : Int) < (p : Int)
  · have eb : decide ((u.recs.length : Int) < (p : Int)) = true := by simp [hbe]
    by_cases k2 : a.kind = 2
    · have e2 : decide (a.kind = 2) = true := by simp [k2]
      have hs : seqF u a = ({ u with pos := u.recs.length }, stA 0) := by simp [seqF, k2, hbe, hp]
      (refine callsG_of_T ok101 (by simp only [List.length_cons, List.length_nil]; decide) ?_; refine t_seq ?_)
      (have hA := And.intro hla (And.intro hl1 (And.intro hq1 (And.intro hq2 (And.intro eb (And.intro e2 (htk)))))); have hP := And.intro hb (And.intro @p100' (True.intro)); have hNE := True.intro; have hC := True.intro; repeat' first
          | with_reducible first | refine k_seq ?_ | refine t_seq ?_ | refine t_reg ?_ | refine t_nil ?_ | refine t_ret ?_ | refine k_seq_ret ?_ | refine k_blk_ret ?_ | refine t_block ?_
          | refine ae_val ?_
          | refine ae_callS ?_
          | refine ae_gval ?_
          | refine ae_gcallO ?_
          | refine ae_box ?_
          | (refine ae_alloc ?_; intro la ha hn1; have hNE := And.intro hNE hn1)
          | refine ae_store ?_
          | refine a_cond ?_ ?_
          | (with_reducible intro hc; with_reducible exact Bool.noConfusion hc)
          | (with_reducible intro hc; have hC := And.intro hC hc))
      have hK := hK
      rw [hs] at hK
      refine gend rs101 ?_ (fun _ _ h => h) (hK _ (.arr l1 1 0 u.recs.length) ?_ ?_ ?_)
      · simp (maxDischargeDepth := 8) only [go_sem, hNE, hla, hl1, hq1, hq2, encAn, stA, eb]
        first | done | rfl
      · exact OWN _ (by simp (maxDischargeDepth := 8) only [go_sem, hNE, hl1, hq1, hq2])
      · simp (maxDischargeDepth := 8) only [go_sem, hNE, hla, hl1, hq1, hq2, encO, hp, setC, splice, eb]
        first | done | rfl
      · intro l c g1 g2 g3
        simp (maxDischargeDepth := 8) only [go_sem, hNE, hla, hl1, hq1, hq2, g1, g2, g3, eb]
    · have e2 : decide (a.kind = 2) = false := by simp [k2]
      have hs : seqF u a = (u, stA 1) := by simp [seqF, k2, hbe, hp]
      (refine callsG_of_T ok101 (by simp only [List.length_cons, List.length_nil]; decide) ?_; refine t_seq ?_)
      (have hA := And.intro hla (And.intro hl1 (And.intro hq1 (And.intro hq2 (And.intro eb (And.intro e2 (htk)))))); have hP := And.intro hb (And.intro @p100' (True.intro)); have hNE := True.intro; have hC := True.intro; repeat' first
          | with_reducible first | refine k_seq ?_ | refine t_seq ?_ | refine t_reg ?_ | refine t_nil ?_ | refine t_ret ?_ | refine k_seq_ret ?_ | refine k_blk_ret ?_ | refine t_block ?_
          | refine ae_val ?_
          | refine ae_callS ?_
          | refine ae_callO ?_
          | refine ae_gval ?_
          | refine ae_gno ?_
          | refine ae_box ?_
          | (refine ae_alloc ?_; intro la ha hn1; have hNE := And.intro hNE hn1)
          | refine ae_store ?_
          | refine a_cond ?_ ?_
          | (with_reducible intro hc; with_reducible exact Bool.noConfusion hc)
          | (with_reducible intro hc; have hC := And.intro hC hc))
      have hK := hK
      rw [hs] at hK
      refine gend rs101 ?_ (fun _ _ h => h) (hK _ (.arr l1 1 0 u.recs.length) ?_ ?_ ?_)
      · simp (maxDischargeDepth := 8) only [go_sem, hNE, hla, hl1, hq1, hq2, encAn, stA, eb]
        first | done | rfl
      · exact OWN _ (by simp (maxDischargeDepth := 8) only [go_sem, hNE, hl1, hq1, hq2])
      · simp (maxDischargeDepth := 8) only [go_sem, hNE, hla, hl1, hq1, hq2, encO, hp, setC, splice, eb]
        first | done | rfl
      · intro l c g1 g2 g3
        simp (maxDischargeDepth := 8) only [go_sem, hNE, hla, hl1, hq1, hq2, g1, g2, g3, eb]
  have eb : decide ((u.recs.length : Int) < (p : Int)) = false := by simp; omega
  by_cases k2 : a.kind = 2
  · have e2 : decide (a.kind = 2) = true := by simp [k2]
    have hs : seqF u a = ({ u with pos := if (p : Int) - 1 < 0 then 0 else (p : Int) - 1 }, stA 0) := by simp [seqF, k2, hbe, hp]
    (refine callsG_of_T ok101 (by simp only [List.length_cons, List.length_nil]; decide) ?_; refine t_seq ?_)
    (have hA := And.intro hla (And.intro hl1 (And.intro hq1 (And.intro hq2 (And.intro eb (And.intro e2 (And.intro htk (hw3))))))); have hP := And.intro hb (And.intro @p100' (True.intro)); have hNE := True.intro; have hC := True.intro; repeat' first
        | with_reducible first | refine k_seq ?_ | refine t_seq ?_ | refine t_reg ?_ | refine t_nil ?_ | refine t_ret ?_ | refine k_seq_ret ?_ | refine k_blk_ret ?_ | refine t_block ?_
        | refine ae_val ?_
        | refine ae_callS ?_
        | refine ae_gval ?_
        | refine ae_gcallO ?_
        | refine ae_box ?_
        | (refine ae_alloc ?_; intro la ha hn1; have hNE := And.intro hNE hn1)
        | refine ae_store ?_
        | refine a_cond ?_ ?_
        | (with_reducible intro hc; with_reducible exact Bool.noConfusion hc)
        | (with_reducible intro hc; have hC := And.intro hC hc))
    have hK := hK
    rw [hs] at hK
    refine gend rs101 ?_ (fun _ _ h => h) (hK _ (.arr l1 1 0 u.recs.length) ?_ ?_ ?_)
    · simp (maxDischargeDepth := 8) only [go_sem, hNE, hla, hl1, hq1, hq2, encAn, stA, eb]
      first | done | rfl
    · exact OWN _ (by simp (maxDischargeDepth := 8) only [go_sem, hNE, hl1, hq1, hq2])
    · simp (maxDischargeDepth := 8) only [go_sem, hNE, hla, hl1, hq1, hq2, encO, hp, setC, splice, eb]
      first | done | rfl
    · intro l c g1 g2 g3
      simp (maxDischargeDepth := 8) only [go_sem, hNE, hla, hl1, hq1, hq2, g1, g2, g3, eb]
  have e2 : decide (a.kind = 2) = false := by simp [k2]
  by_cases k0 : a.kind = 0
  · have e0 : decide (a.kind = 0) = true := by simp [k0]
    by_cases hpn : p = u.recs.length
    · have ep : decide ((p : Int) = (u.recs.length : Int)) = true := by simp [hpn]
      have hs : seqF u a = ({ u with pos := (p : Int) + 1 }, stA (-1)) := by simp [seqF, k0, hp, hpn]
      (refine callsG_of_T ok101 (by simp only [List.length_cons, List.length_nil]; decide) ?_; refine t_seq ?_)
      (have hA := And.intro hla (And.intro hl1 (And.intro hq1 (And.intro hq2 (And.intro eb (And.intro e2 (And.intro e0 (And.intro ep (And.intro htk (hw1))))))))); have hP := And.intro hb (And.intro @p100' (True.intro)); have hNE := True.intro; have hC := True.intro; repeat' first
          | ((with_reducible apply te_drwA); (focus (simp (maxDischargeDepth := 8) only [effFlA, List.map_cons, List.map_nil]; exact rfl)); (focus decide +kernel))
          | with_reducible first | refine k_seq ?_ | refine t_seq ?_ | refine t_reg ?_ | refine t_nil ?_ | refine t_ret ?_ | refine k_seq_ret ?_ | refine k_blk_ret ?_ | refine t_block ?_ | refine m_nil ?_
          | refine ae_val ?_
          | refine ae_callS ?_
          | refine ae_callO ?_
          | refine ae_gval ?_
          | refine ae_gno ?_
          | refine be_val ?_
          | refine be_gval ?_
          | refine ae_box ?_
          | (refine ae_alloc ?_; intro la ha hn1; have hNE := And.intro hNE hn1)
          | refine ae_store ?_
          | refine a_cond ?_ ?_
          | (with_reducible intro hc; with_reducible exact Bool.noConfusion hc)
          | (with_reducible intro hc; have hC := And.intro hC hc))
      have hK := hK
      rw [hs] at hK
      refine gend rs101 ?_ (fun _ _ h => h) (hK _ (.arr l1 1 0 u.recs.length) ?_ ?_ ?_)
      · simp (maxDischargeDepth := 8) only [go_sem, hNE, hla, hl1, hq1, hq2, encAn, stA, eb]
        first | done | rfl
      · exact OWN _ (by simp (maxDischargeDepth := 8) only [go_sem, hNE, hl1, hq1, hq2])
      · simp (maxDischargeDepth := 8) only [go_sem, hNE, hla, hl1, hq1, hq2, encO, hp, setC, splice, eb]
        first | done | rfl
      · intro l c g1 g2 g3
        simp (maxDischargeDepth := 8) only [go_sem, hNE, hla, hl1, hq1, hq2, g1, g2, g3, eb]
    · have ep : decide ((p : Int) = (u.recs.length : Int)) = false := by simp; omega
      have hlt : (p : Int) < (u.recs.length : Int) := by omega
      obtain ⟨x, hx⟩ : ∃ x, u.recs[p]? = some x := ⟨_, List.getElem?_eq_getElem (by omega)⟩
      have hs : seqF u a = ({ u with pos := (p : Int) + 1 }, ⟨0, x, 0⟩) := by simp [seqF, k0, hp, hbe, hx]; omega
      (refine callsG_of_T ok101 (by simp only [List.length_cons, List.length_nil]; decide) ?_; refine t_seq ?_)
      (have hA := And.intro hla (And.intro hl1 (And.intro hq1 (And.intro hq2 (And.intro eb (And.intro e2 (And.intro e0 (And.intro ep (And.intro htk (And.intro hw1 (And.intro hw2 (And.intro hlt (And.intro hge (hx))))))))))))); have hP := And.intro hb (And.intro @p100' (True.intro)); have hNE := True.intro; have hC := True.intro; repeat' first
          | ((with_reducible apply te_drwA); (focus (simp (maxDischargeDepth := 8) only [effFlA, List.map_cons, List.map_nil]; exact rfl)); (focus decide +kernel))
          | with_reducible first | refine k_seq ?_ | refine t_seq ?_ | refine t_reg ?_ | refine t_nil ?_ | refine t_ret ?_ | refine k_seq_ret ?_ | refine k_blk_ret ?_ | refine t_block ?_ | refine m_nil ?_
          | refine ae_val ?_
          | refine ae_callO ?_
          | refine ae_gval ?_
          | refine ae_gno ?_
          | refine be_val ?_
          | refine be_gval ?_
          | refine ae_box ?_
          | (refine ae_alloc ?_; intro la ha hn1; have hNE := And.intro hNE hn1)
          | refine ae_store ?_
          | refine be_store ?_
          | refine a_cond ?_ ?_
          | (with_reducible intro hc; with_reducible exact Bool.noConfusion hc)
          | (with_reducible intro hc; have hC := And.intro hC hc))
      have hK := hK
      rw [hs] at hK
      refine gend rs101 ?_ (fun _ _ h => h) (hK _ (.arr l1 1 0 u.recs.length) ?_ ?_ ?_)
      · simp (maxDischargeDepth := 8) only [go_sem, hNE, hla, hl1, hq1, hq2, encAn, stA, eb]
        first | done | rfl
      · exact OWN _ (by simp (maxDischargeDepth := 8) only [go_sem, hNE, hl1, hq1, hq2])
      · simp (maxDischargeDepth := 8) only [go_sem, hNE, hla, hl1, hq1, hq2, encO, hp, setC, splice, eb]
        first | done | rfl
      · intro l c g1 g2 g3
        simp (maxDischargeDepth := 8) only [go_sem, hNE, hla, hl1, hq1, hq2, g1, g2, g3, eb]
  have e0 : decide (a.kind = 0) = false := by simp [k0]
  have hple : (p : Int) ≤ (u.recs.length : Int) := by omega
  have hmin : min p u.recs.length = p := by omega
  have ENDL : ∀ Hx : Hp, Hx l1 = some (.row true 1 (u.recs.map encS)) → OwnL Hx (.arr l1 1 0 p) ((u.recs.take p).map encS) := fun Hx h =>
    .inr ⟨l1, (u.recs.drop p).map encS, by simp [hmin], by rw [← List.map_append, List.take_append_drop]; exact h⟩
  by_cases k4 : a.kind = 4
  · have e4 : decide (a.kind = 4) = true := by simp [k4]
    have hs : seqF u a = ({ u with recs := u.recs.take p, ended := true, pos := (p : Int) + 1 }, stA 0) := by simp [seqF, k4, hp, hbe]
    (refine callsG_of_T ok101 (by simp only [List.length_cons, List.length_nil]; decide) ?_; refine t_seq ?_)
    (have hA := And.intro hla (And.intro hl1 (And.intro hq1 (And.intro hq2 (And.intro eb (And.intro e2 (And.intro e0 (And.intro e4 (And.intro htk (And.intro hw1 (And.intro hge (And.intro hple (hz)))))))))))); have hP := And.intro hb (And.intro @p100' (True.intro)); have hNE := True.intro; have hC := True.intro; repeat' first
        | ((with_reducible apply te_drwA); (focus (simp (maxDischargeDepth := 8) only [effFlA, List.map_cons, List.map_nil]; exact rfl)); (focus decide +kernel))
        | with_reducible first | refine k_seq ?_ | refine t_seq ?_ | refine t_reg ?_ | refine t_nil ?_ | refine t_ret ?_ | refine k_seq_ret ?_ | refine k_blk_ret ?_ | refine t_block ?_ | refine m_nil ?_
        | refine ae_val ?_
        | refine ae_callS ?_
        | refine ae_callO ?_
        | refine ae_gval ?_
        | refine ae_gno ?_
        | refine be_val ?_
        | refine be_gval ?_
        | refine be_gno ?_
        | refine ae_box ?_
        | (refine ae_alloc ?_; intro la ha hn1; have hNE := And.intro hNE hn1)
        | refine ae_store ?_
        | refine be_store ?_
        | refine a_cond ?_ ?_
        | (with_reducible intro hc; with_reducible exact Bool.noConfusion hc)
        | (with_reducible intro hc; have hC := And.intro hC hc))
    have hK := hK
    rw [hs] at hK
    refine gend rs101 ?_ (fun _ _ h => h) (hK _ (.arr l1 1 0 p) ?_ ?_ ?_)
    · simp (maxDischargeDepth := 8) only [go_sem, hNE, hla, hl1, hq1, hq2, encAn, stA, eb]
      first | done | rfl
    · exact ENDL _ (by simp (maxDischargeDepth := 8) only [go_sem, hNE, hl1, hq1, hq2])
    · simp (maxDischargeDepth := 8) only [go_sem, hNE, hla, hl1, hq1, hq2, encO, hp, setC, splice, eb]
      first | done | rfl
    · intro l c g1 g2 g3
      simp (maxDischargeDepth := 8) only [go_sem, hNE, hla, hl1, hq1, hq2, g1, g2, g3, eb]
  have e4 : decide (a.kind = 4) = false := by simp [k4]
  by_cases hby : 200 < a.bytes.length
  · have e6 : decide ((200 : Int) < (a.bytes.length : Int)) = true := by simp; omega
    have hs : seqF u a = (u, stA 5) := by simp [seqF, k0, k2, k4, hp, hbe, hby]
    (refine callsG_of_T ok101 (by simp only [List.length_cons, List.length_nil]; decide) ?_; refine t_seq ?_)
    (have hA := And.intro hla (And.intro hl1 (And.intro hq1 (And.intro hq2 (And.intro eb (And.intro e2 (And.intro e0 (And.intro e4 (And.intro e6 (htk))))))))); have hP := And.intro hb (And.intro @p100' (True.intro)); have hNE := True.intro; have hC := True.intro; repeat' first
        | ((with_reducible apply te_drwA); (focus (simp (maxDischargeDepth := 8) only [effFlA, List.map_cons, List.map_nil]; exact rfl)); (focus decide +kernel))
        | with_reducible first | refine k_seq ?_ | refine t_seq ?_ | refine t_reg ?_ | refine t_nil ?_ | refine t_ret ?_ | refine k_seq_ret ?_ | refine k_blk_ret ?_ | refine t_block ?_ | refine m_nil ?_
        | refine ae_val ?_
        | refine ae_callS ?_
        | refine ae_callO ?_
        | refine ae_gval ?_
        | refine ae_gno ?_
        | refine be_val ?_
        | refine be_gval ?_
        | refine be_gno ?_
        | refine ae_box ?_
        | (refine ae_alloc ?_; intro la ha hn1; have hNE := And.intro hNE hn1)
        | refine ae_store ?_
        | refine a_cond ?_ ?_
        | (with_reducible intro hc; with_reducible exact Bool.noConfusion hc)
        | (with_reducible intro hc; have hC := And.intro hC hc))
    have hK := hK
    rw [hs] at hK
    refine gend rs101 ?_ (fun _ _ h => h) (hK _ (.arr l1 1 0 u.recs.length) ?_ ?_ ?_)
    · simp (maxDischargeDepth := 8) only [go_sem, hNE, hla, hl1, hq1, hq2, encAn, stA, eb]
      first | done | rfl
    · exact OWN _ (by simp (maxDischargeDepth := 8) only [go_sem, hNE, hl1, hq1, hq2])
    · simp (maxDischargeDepth := 8) only [go_sem, hNE, hla, hl1, hq1, hq2, encO, hp, setC, splice, eb]
      first | done | rfl
    · intro l c g1 g2 g3
      simp (maxDischargeDepth := 8) only [go_sem, hNE, hla, hl1, hq1, hq2, g1, g2, g3, eb]
  have e6 : decide ((200 : Int) < (a.bytes.length : Int)) = false := by simp; omega
  by_cases h60 : p = 60
  · have e7 : decide ((p : Int) = 60) = true := by simp; omega
    have hs : seqF u a = (u, stA 6) := by simp [seqF, k0, k2, k4, hp, hbe, hby, h60]; omega
    (refine callsG_of_T ok101 (by simp only [List.length_cons, List.length_nil]; decide) ?_; refine t_seq ?_)
    (have hA := And.intro hla (And.intro hl1 (And.intro hq1 (And.intro hq2 (And.intro eb (And.intro e2 (And.intro e0 (And.intro e4 (And.intro e6 (And.intro e7 (htk)))))))))); have hP := And.intro hb (And.intro @p100' (True.intro)); have hNE := True.intro; have hC := True.intro; repeat' first
        | ((with_reducible apply te_drwA); (focus (simp (maxDischargeDepth := 8) only [effFlA, List.map_cons, List.map_nil]; exact rfl)); (focus decide +kernel))
        | with_reducible first | refine k_seq ?_ | refine t_seq ?_ | refine t_reg ?_ | refine t_nil ?_ | refine t_ret ?_ | refine k_seq_ret ?_ | refine k_blk_ret ?_ | refine t_block ?_ | refine m_nil ?_
        | refine ae_val ?_
        | refine ae_callS ?_
        | refine ae_callO ?_
        | refine ae_gval ?_
        | refine ae_gno ?_
        | refine be_val ?_
        | refine be_gval ?_
        | refine be_gno ?_
        | refine ae_box ?_
        | (refine ae_alloc ?_; intro la ha hn1; have hNE := And.intro hNE hn1)
        | refine ae_store ?_
        | refine a_cond ?_ ?_
        | (with_reducible intro hc; with_reducible exact Bool.noConfusion hc)
        | (with_reducible intro hc; have hC := And.intro hC hc))
    have hK := hK
    rw [hs] at hK
    refine gend rs101 ?_ (fun _ _ h => h) (hK _ (.arr l1 1 0 u.recs.length) ?_ ?_ ?_)
    · simp (maxDischargeDepth := 8) only [go_sem, hNE, hla, hl1, hq1, hq2, encAn, stA, eb]
      first | done | rfl
    · exact OWN _ (by simp (maxDischargeDepth := 8) only [go_sem, hNE, hl1, hq1, hq2])
    · simp (maxDischargeDepth := 8) only [go_sem, hNE, hla, hl1, hq1, hq2, encO, hp, setC, splice, eb]
      first | done | rfl
    · intro l c g1 g2 g3
      simp (maxDischargeDepth := 8) only [go_sem, hNE, hla, hl1, hq1, hq2, g1, g2, g3, eb]
  have e7 : decide ((p : Int) = 60) = false := by simp; omega
  have hs : seqF u a = ({ u with recs := u.recs.take p ++ [a.bytes], ended := false, pos := (p : Int) + 1 }, stA 0) := by simp [seqF, k0, k2, k4, hp, hbe, hby]; omega
  have hroom : ((p + 1) * 16 ≤ 16777216) := by omega
  (refine callsG_of_T ok101 (by simp only [List.length_cons, List.length_nil]; decide) ?_; refine t_seq ?_)
  (have hA := And.intro hla (And.intro hl1 (And.intro hq1 (And.intro hq2 (And.intro eb (And.intro e2 (And.intro e0 (And.intro e4 (And.intro e6 (And.intro e7 (And.intro htk (And.intro hw1 (And.intro hge (And.intro hple (hz)))))))))))))); have hP := And.intro hb (And.intro @p100' (True.intro)); have hNE := True.intro; have hC := True.intro; repeat' first
      | ((with_reducible apply te_drwA); (focus (simp (maxDischargeDepth := 8) only [effFlA, List.map_cons, List.map_nil]; exact rfl)); (focus decide +kernel))
      | with_reducible first | refine k_seq ?_ | refine t_seq ?_ | refine t_reg ?_ | refine t_nil ?_ | refine t_skip ?_ | refine t_ret ?_ | refine k_blk ?_ | refine t_block ?_ | refine m_nil ?_
      | refine ae_val ?_
      | refine ae_callS ?_
      | refine ae_callO ?_
      | refine ae_gval ?_
      | refine ae_gno ?_
      | refine be_val ?_
      | refine be_gval ?_
      | refine be_gno ?_
      | refine ae_box ?_
      | (refine ae_alloc ?_; intro la ha hn1; have hNE := And.intro hNE hn1)
      | refine ae_store ?_
      | ((with_reducible apply me_appendB); (with_reducible exact app_22; with_reducible exact c_9); (focus (simp (maxDischargeDepth := 8) only [go_sem, hNE, hA]; first | done | exact rfl)); (focus (simp (maxDischargeDepth := 8) only [go_sem, hNE, hA]; first | done | exact rfl)); (focus (simp (maxDischargeDepth := 8) only [go_sem, hNE, hA, roomB, List.length_take, List.length_append]; first | done | omega)); (focus (simp (maxDischargeDepth := 8) only [go_sem, hNE, hA]; first | done | exact rfl)); (focus (simp (maxDischargeDepth := 8) only [go_sem, hNE, hA]; done)); (focus (simp (maxDischargeDepth := 8) only [go_sem, hNE, hA, roomB, List.length_take, List.length_append]; first | done | omega)); (intro la ha hn1; have hNE := And.intro hNE hn1))
      | refine be_store ?_
      | refine a_cond ?_ ?_
      | (with_reducible intro hc; with_reducible exact Bool.noConfusion hc)
      | (with_reducible intro hc; have hC := And.intro hC hc))
  have OW2 : ∀ Hx : Hp, Hx la = some (.row true 1 (List.take p (u.recs.map encS) ++ [.str a.bytes])) → OwnL Hx (.arr la 1 0 (p + 1)) ((u.recs.take p ++ [a.bytes]).map encS) := fun Hx h =>
    .inr ⟨la, [], by simp [hmin], by simpa [encS, List.map_take] using h⟩
  have hK := hK
  rw [hs] at hK
  refine gend rs101 ?_ (fun _ _ h => h) (hK _ (.arr la 1 0 (p + 1)) ?_ ?_ ?_)
  · simp (maxDischargeDepth := 8) only [go_sem, hNE, hla, hl1, hq1, hq2, encAn, stA, cast0, hz]
    first | done | rfl
  · exact OW2 _ (by simp (maxDischargeDepth := 8) only [go_sem, hNE, hla, hl1, hq1, hq2, cast0, hz])
  · simp (maxDischargeDepth := 8) only [go_sem, hNE, hla, hl1, hq1, hq2, encO, hp, setC, splice, cast0, hz]
    first | done | rfl
  · intro l c g1 g2 g3
    simp (maxDischargeDepth := 8) only [go_sem, hNE, hla, hl1, hq1, hq2, g1, g2, g3, cast0, hz]
end Go.Proofs.Ythdgdngdfijfhaa
namespace Go.Proofs.Ythdgdngdfijfhaa
open Go.RowKit Go.Proofs
set_option linter.unusedVariables false
set_option linter.unusedSimpArgs false
attribute [local irreducible] PPure CallN Tops TopsDm T
def strF (u : Un) (a : Ac) : Un × An :=
  if a.kind = 5 then
    if btw a.number 1 ((u.bytes.length : Int) + 1) = true then ({ u with pos := a.number - 1 }, stA 0) else (u, stA 4)
  else if a.kind = 0 then
    if btw a.number 1 4000 = true then
      if (u.bytes.length : Int) - u.pos < a.number then (u, stA (-1)) else ({ u with pos := u.pos + a.number }, ⟨0, (u.bytes.take (u.pos + a.number).toNat).drop u.pos.toNat, 0⟩)
    else (u, stA 4)
  else if 4000 < u.pos + (a.bytes.length : Int) then (u, stA 6)
  else ({ u with bytes := u.bytes.take u.pos.toNat ++ a.bytes ++ u.bytes.drop (u.pos.toNat + a.bytes.length), pos := u.pos + (a.bytes.length : Int) }, stA 0)
attribute [local go_sem] Int.le_refl in
set_option maxHeartbeats 4000000 in
theorem g103 (u : Un) (a : Ac) (p : Nat) (hp : u.pos = (p : Int)) (hpl : p ≤ u.bytes.length) (hbl : u.bytes.length ≤ 4000) (hal : a.bytes.length ≤ 4000) (la : Lab) (H : Hp)
    (hla : H la = some (.row true 7 [encO u (.list .full []) (.list .full [])])) {K : PV → Hp → Prop}
    (hK : ∀ H', H' la = some (.row true 7 [encO (strF u a).1 (.list .full []) (.list .full [])]) → (∀ l c, H l = some c → l ≠ la → H' l = some c) → K (encAn (strF u a).2) H') :
    CallsG Try.prog 103 [.ref la 7 0 0, encAc a] H K := by
  simp only [encAc]
  simp only [encO, hp] at hla
  have hw1 : IntKind.i64.wrap ((u.bytes.length : Int) + 1) = (u.bytes.length : Int) + 1 := by rw [IntKind.wrap_i64]; omega
  have hge : (0 : Int) ≤ (p : Int) := by omega
  by_cases k5 : a.kind = 5
  · have e5 : decide (a.kind = 5) = true := by simp [k5]
    by_cases hb : btw a.number 1 ((u.bytes.length : Int) + 1) = true
    · have hs : strF u a = ({ u with pos := a.number - 1 }, stA 0) := by simp [strF, k5, hb]
      simp only [btw] at hb
      have hw2 : IntKind.i64.wrap (a.number - 1) = a.number - 1 := by simp at hb; rw [IntKind.wrap_i64]; omega
      (refine callsG_of_T ok103 (by simp only [List.length_cons, List.length_nil]; decide) ?_; refine t_seq ?_)
      (have hA := And.intro hla (And.intro e5 (And.intro hw1 (And.intro hb (hw2)))); have hP := And.intro @p100' (And.intro @p58 (True.intro)); have hNE := True.intro; have hC := True.intro; repeat' first
          | ((with_reducible apply te_drwA); (focus (simp (maxDischargeDepth := 8) only [effFlA, List.map_cons, List.map_nil]; exact rfl)); (focus decide +kernel))
          | with_reducible first | refine k_seq ?_ | refine t_seq ?_ | refine t_reg ?_ | refine t_nil ?_ | refine t_skip ?_ | refine t_ret ?_ | refine k_seq_ret ?_ | refine k_blk_ret ?_ | refine t_block ?_ | refine m_nil ?_
          | refine ae_val ?_
          | refine ae_callS ?_
          | refine be_val ?_
          | refine be_callS ?_
          | refine ae_box ?_
          | (refine ae_alloc ?_; intro la ha hn1; have hNE := And.intro hNE hn1)
          | refine ae_store ?_
          | refine a_cond ?_ ?_
          | (with_reducible intro hc; with_reducible exact Bool.noConfusion hc)
          | (with_reducible intro hc; have hC := And.intro hC hc))
      have hK := hK
      rw [hs] at hK
      refine gend rs103 ?_ (fun _ _ h => h) (hK _ ?_ ?_)
      · simp (maxDischargeDepth := 8) only [go_sem, hNE, hla, encAn, stA, cast0]
        first | done | rfl
      · simp (maxDischargeDepth := 8) only [go_sem, hNE, hla, encO, hp, setC, splice, cast0]
        first | done | rfl
      · intro l c g1 g2
        simp (maxDischargeDepth := 8) only [go_sem, hNE, hla, g1, g2, cast0]
    · have hs : strF u a = (u, stA 4) := by simp [strF, k5, hb]
      simp only [btw, Bool.not_eq_true] at hb
      (refine callsG_of_T ok103 (by simp only [List.length_cons, List.length_nil]; decide) ?_; refine t_seq ?_)
      (have hA := And.intro hla (And.intro e5 (And.intro hw1 (hb))); have hP := And.intro @p100' (And.intro @p58 (True.intro)); have hNE := True.intro; have hC := True.intro; repeat' first
          | ((with_reducible apply te_drwA); (focus (simp (maxDischargeDepth := 8) only [effFlA, List.map_cons, List.map_nil]; exact rfl)); (focus decide +kernel))
          | with_reducible first | refine k_seq ?_ | refine t_seq ?_ | refine t_reg ?_ | refine t_nil ?_ | refine t_ret ?_ | refine k_seq_ret ?_ | refine k_blk_ret ?_ | refine t_block ?_ | refine m_nil ?_
          | refine ae_val ?_
          | refine ae_callS ?_
          | refine be_val ?_
          | refine be_callS ?_
          | refine ae_box ?_
          | (refine ae_alloc ?_; intro la ha hn1; have hNE := And.intro hNE hn1)
          | refine ae_store ?_
          | refine a_cond ?_ ?_
          | (with_reducible intro hc; with_reducible exact Bool.noConfusion hc)
          | (with_reducible intro hc; have hC := And.intro hC hc))
      have hK := hK
      rw [hs] at hK
      refine gend rs103 ?_ (fun _ _ h => h) (hK _ ?_ ?_)
      · simp (maxDischargeDepth := 8) only [go_sem, hNE, hla, encAn, stA, cast0]
        first | done | rfl
      · simp (maxDischargeDepth := 8) only [go_sem, hNE, hla, encO, hp, setC, splice, cast0]
        first | done | rfl
      · intro l c g1 g2
        simp (maxDischargeDepth := 8) only [go_sem, hNE, hla, g1, g2, cast0]
  have e5 : decide (a.kind = 5) = false := by simp [k5]
  by_cases k0 : a.kind = 0
  · have e0 : decide (a.kind = 0) = true := by simp [k0]
    by_cases hb : btw a.number 1 4000 = true
    · have hw2 : IntKind.i64.wrap ((u.bytes.length : Int) - (p : Int)) = (u.bytes.length : Int) - (p : Int) := by rw [IntKind.wrap_i64]; omega
      by_cases hn : (u.bytes.length : Int) - (p : Int) < a.number
      · have en : decide ((u.bytes.length : Int) - (p : Int) < a.number) = true := by simp [hn]
        have hs : strF u a = (u, stA (-1)) := by simp [strF, k0, hb, hp, hn]
        simp only [btw] at hb
        (refine callsG_of_T ok103 (by simp only [List.length_cons, List.length_nil]; decide) ?_; refine t_seq ?_)
        (have hA := And.intro hla (And.intro e5 (And.intro e0 (And.intro hb (And.intro hw2 (en))))); have hP := And.intro @p100' (And.intro @p58 (True.intro)); have hNE := True.intro; have hC := True.intro; repeat' first
            | ((with_reducible apply te_drwA); (focus (simp (maxDischargeDepth := 8) only [effFlA, List.map_cons, List.map_nil]; exact rfl)); (focus decide +kernel))
            | with_reducible first | refine k_seq ?_ | refine t_seq ?_ | refine t_reg ?_ | refine t_nil ?_ | refine t_ret ?_ | refine k_seq_ret ?_ | refine k_blk_ret ?_ | refine t_block ?_ | refine m_nil ?_
            | refine ae_val ?_
            | refine ae_callS ?_
            | refine be_val ?_
            | refine ae_box ?_
            | (refine ae_alloc ?_; intro la ha hn1; have hNE := And.intro hNE hn1)
            | refine ae_store ?_
            | refine a_cond ?_ ?_
            | (with_reducible intro hc; with_reducible exact Bool.noConfusion hc)
            | (with_reducible intro hc; have hC := And.intro hC hc))
        have hK := hK
        rw [hs] at hK
        refine gend rs103 ?_ (fun _ _ h => h) (hK _ ?_ ?_)
        · simp (maxDischargeDepth := 8) only [go_sem, hNE, hla, encAn, stA, cast0]
          first | done | rfl
        · simp (maxDischargeDepth := 8) only [go_sem, hNE, hla, encO, hp, setC, splice, cast0]
          first | done | rfl
        · intro l c g1 g2
          simp (maxDischargeDepth := 8) only [go_sem, hNE, hla, g1, g2, cast0]
      · have en : decide ((u.bytes.length : Int) - (p : Int) < a.number) = false := by simp [hn]
        have hs : strF u a = ({ u with pos := (p : Int) + a.number }, ⟨0, (u.bytes.take ((p : Int) + a.number).toNat).drop p, 0⟩) := by simp [strF, k0, hb, hp, hn]
        simp only [btw] at hb
        have hb2 := hb
        simp at hb2
        have hw3 : IntKind.i64.wrap ((p : Int) + a.number) = (p : Int) + a.number := by rw [IntKind.wrap_i64]; omega
        have hw4 : IntKind.i64.wrap ((p : Int) + a.number - a.number) = (p : Int) := by rw [IntKind.wrap_i64]; omega
        have q1 : (p : Int) ≤ (p : Int) + a.number := by omega
        have q2 : (p : Int) + a.number ≤ (u.bytes.length : Int) := by omega
        (refine callsG_of_T ok103 (by simp only [List.length_cons, List.length_nil]; decide) ?_; refine t_seq ?_)
        (have hA := And.intro hla (And.intro e5 (And.intro e0 (And.intro hb (And.intro hw2 (And.intro en (And.intro hw3 (And.intro hw4 (And.intro hge (And.intro q1 (q2)))))))))); have hP := And.intro @p100' (And.intro @p58 (True.intro)); have hNE := True.intro; have hC := True.intro; repeat' first
            | ((with_reducible apply te_drwA); (focus (simp (maxDischargeDepth := 8) only [effFlA, List.map_cons, List.map_nil]; exact rfl)); (focus decide +kernel))
            | with_reducible first | refine k_seq ?_ | refine t_seq ?_ | refine t_reg ?_ | refine t_nil ?_ | refine t_skip ?_ | refine t_ret ?_ | refine k_seq_ret ?_ | refine k_blk_ret ?_ | refine k_blk ?_ | refine t_block ?_ | refine m_nil ?_
            | refine ae_val ?_
            | refine ae_callS ?_
            | refine be_val ?_
            | refine ae_box ?_
            | (refine ae_alloc ?_; intro la ha hn1; have hNE := And.intro hNE hn1)
            | refine be_store ?_
            | refine a_cond ?_ ?_
            | (with_reducible intro hc; with_reducible exact Bool.noConfusion hc)
            | (with_reducible intro hc; have hC := And.intro hC hc))
        have hK := hK
        rw [hs] at hK
        refine gend rs103 ?_ (fun _ _ h => h) (hK _ ?_ ?_)
        · simp (maxDischargeDepth := 8) only [go_sem, hNE, hla, encAn, stA, cast0]
          first | done | rfl
        · simp (maxDischargeDepth := 8) only [go_sem, hNE, hla, encO, hp, setC, splice, cast0]
          first | done | rfl
        · intro l c g1 g2
          simp (maxDischargeDepth := 8) only [go_sem, hNE, hla, g1, g2, cast0]
    · have hs : strF u a = (u, stA 4) := by simp [strF, k0, hb]
      simp only [btw, Bool.not_eq_true] at hb
      (refine callsG_of_T ok103 (by simp only [List.length_cons, List.length_nil]; decide) ?_; refine t_seq ?_)
      (have hA := And.intro hla (And.intro e5 (And.intro e0 (hb))); have hP := And.intro @p100' (And.intro @p58 (True.intro)); have hNE := True.intro; have hC := True.intro; repeat' first
          | with_reducible first | refine k_seq ?_ | refine t_seq ?_ | refine t_reg ?_ | refine t_nil ?_ | refine t_ret ?_ | refine k_seq_ret ?_ | refine k_blk_ret ?_ | refine t_block ?_
          | refine ae_val ?_
          | refine ae_callS ?_
          | refine ae_box ?_
          | (refine ae_alloc ?_; intro la ha hn1; have hNE := And.intro hNE hn1)
          | refine ae_store ?_
          | refine a_cond ?_ ?_
          | (with_reducible intro hc; with_reducible exact Bool.noConfusion hc)
          | (with_reducible intro hc; have hC := And.intro hC hc))
      have hK := hK
      rw [hs] at hK
      refine gend rs103 ?_ (fun _ _ h => h) (hK _ ?_ ?_)
      · simp (maxDischargeDepth := 8) only [go_sem, hNE, hla, encAn, stA, cast0]
        first | done | rfl
      · simp (maxDischargeDepth := 8) only [go_sem, hNE, hla, encO, hp, setC, splice, cast0]
        first | done | rfl
      · intro l c g1 g2
        simp (maxDischargeDepth := 8) only [go_sem, hNE, hla, g1, g2, cast0]
  have e0 : decide (a.kind = 0) = false := by simp [k0]
  have hw2 : IntKind.i64.wrap ((p : Int) + (a.bytes.length : Int)) = (p : Int) + (a.bytes.length : Int) := by rw [IntKind.wrap_i64]; omega
  by_cases hf : 4000 < (p : Int) + (a.bytes.length : Int)
  · have ef : decide (4000 < (p : Int) + (a.bytes.length : Int)) = true := by simp [hf]
    have hs : strF u a = (u, stA 6) := by simp [strF, k0, k5, hp, hf]
    (refine callsG_of_T ok103 (by simp only [List.length_cons, List.length_nil]; decide) ?_; refine t_seq ?_)
    (have hA := And.intro hla (And.intro e5 (And.intro e0 (And.intro hw2 (ef)))); have hP := And.intro @p100' (And.intro @p58 (True.intro)); have hNE := True.intro; have hC := True.intro; repeat' first
        | ((with_reducible apply te_drwA); (focus (simp (maxDischargeDepth := 8) only [effFlA, List.map_cons, List.map_nil]; exact rfl)); (focus decide +kernel))
        | with_reducible first | refine k_seq ?_ | refine t_seq ?_ | refine t_reg ?_ | refine t_nil ?_ | refine t_skip ?_ | refine t_ret ?_ | refine k_seq_ret ?_ | refine k_blk ?_ | refine t_block ?_ | refine m_nil ?_
        | refine ae_val ?_
        | refine ae_callS ?_
        | refine be_val ?_
        | refine ae_box ?_
        | (refine ae_alloc ?_; intro la ha hn1; have hNE := And.intro hNE hn1)
        | refine ae_store ?_
        | refine a_cond ?_ ?_
        | (with_reducible intro hc; with_reducible exact Bool.noConfusion hc)
        | (with_reducible intro hc; have hC := And.intro hC hc))
    have hK := hK
    rw [hs] at hK
    refine gend rs103 ?_ (fun _ _ h => h) (hK _ ?_ ?_)
    · simp (maxDischargeDepth := 8) only [go_sem, hNE, hla, encAn, stA, cast0]
      first | done | rfl
    · simp (maxDischargeDepth := 8) only [go_sem, hNE, hla, encO, hp, setC, splice, cast0]
      first | done | rfl
    · intro l c g1 g2
      simp (maxDischargeDepth := 8) only [go_sem, hNE, hla, g1, g2, cast0]
  have ef : decide (4000 < (p : Int) + (a.bytes.length : Int)) = false := by simp [hf]
  have hs : strF u a = ({ u with bytes := u.bytes.take p ++ a.bytes ++ u.bytes.drop (p + a.bytes.length), pos := (p : Int) + (a.bytes.length : Int) }, stA 0) := by simp [strF, k0, k5, hp, hf]
  have q3 : (p : Int) ≤ (u.bytes.length : Int) := by omega
  have s1 : ((((List.take p u.bytes).length + a.bytes.length : Nat) : Int) ≤ 9223372036854775807) = True := eq_true (by simp only [List.length_take]; omega)
  by_cases hm : (u.bytes.length : Int) < (p : Int) + (a.bytes.length : Int)
  · have hmt : ((u.bytes.length : Int) < (p : Int) + (a.bytes.length : Int)) = True := eq_true hm
    have q4 : (0 : Int) ≤ (u.bytes.length : Int) := by omega
    have q5 : List.drop u.bytes.length u.bytes = [] := List.drop_of_length_le (Nat.le_refl _)
    have q6 : List.drop (p + a.bytes.length) u.bytes = [] := List.drop_of_length_le (by omega)
    have s2 : ((((List.take p u.bytes ++ a.bytes).length : Nat) : Int) ≤ 9223372036854775807) = True := eq_true (by simp only [List.length_append, List.length_take]; omega)
    (refine callsG_of_T ok103 (by simp only [List.length_cons, List.length_nil]; decide) ?_; refine t_seq ?_)
    (have hA := And.intro hla (And.intro e5 (And.intro e0 (And.intro hw2 (And.intro ef (And.intro hge (And.intro q3 (And.intro s1 (And.intro hmt (And.intro q4 (And.intro q5 (s2))))))))))); have hP := And.intro @p100' (And.intro @p58 (True.intro)); have hNE := True.intro; have hC := True.intro; repeat' first
        | ((with_reducible apply te_drwA); (focus (simp (maxDischargeDepth := 8) only [effFlA, List.map_cons, List.map_nil]; exact rfl)); (focus decide +kernel))
        | with_reducible first | refine k_seq ?_ | refine t_seq ?_ | refine t_reg ?_ | refine t_nil ?_ | refine t_skip ?_ | refine t_ret ?_ | refine k_blk ?_ | refine t_block ?_ | refine m_nil ?_
        | refine ae_val ?_
        | refine ae_callS ?_
        | refine be_val ?_
        | refine ae_box ?_
        | (refine ae_alloc ?_; intro la ha hn1; have hNE := And.intro hNE hn1)
        | refine ae_store ?_
        | refine be_store ?_
        | refine a_cond ?_ ?_
        | (with_reducible intro hc; with_reducible exact Bool.noConfusion hc)
        | (with_reducible intro hc; have hC := And.intro hC hc))
    have hK := hK
    rw [hs] at hK
    refine gend rs103 ?_ (fun _ _ h => h) (hK _ ?_ ?_)
    · simp (maxDischargeDepth := 8) only [go_sem, hNE, hla, encAn, stA, q6]
      first | done | rfl
    · simp (maxDischargeDepth := 8) only [go_sem, hNE, hla, encO, hp, setC, splice, q6]
      first | done | rfl
    · intro l c g1 g2
      simp (maxDischargeDepth := 8) only [go_sem, hNE, hla, g1, g2, q6]
  · have hmt : ((u.bytes.length : Int) < (p : Int) + (a.bytes.length : Int)) = False := eq_false hm
    have q4 : (0 : Int) ≤ (p : Int) + (a.bytes.length : Int) := by omega
    have q7 : (p : Int) + (a.bytes.length : Int) ≤ (u.bytes.length : Int) := by omega
    have q5 : ((p : Int) + (a.bytes.length : Int)).toNat = p + a.bytes.length := by omega
    have s2 : ((((List.take p u.bytes ++ a.bytes).length + (List.drop (p + a.bytes.length) u.bytes).length : Nat) : Int) ≤ 9223372036854775807) = True := eq_true (by simp only [List.length_append, List.length_take, List.length_drop]; omega)
    (refine callsG_of_T ok103 (by simp only [List.length_cons, List.length_nil]; decide) ?_; refine t_seq ?_)
    (have hA := And.intro hla (And.intro e5 (And.intro e0 (And.intro hw2 (And.intro ef (And.intro hge (And.intro q3 (And.intro s1 (And.intro hmt (And.intro q4 (And.intro q5 (And.intro q7 (s2)))))))))))); have hP := And.intro @p100' (And.intro @p58 (True.intro)); have hNE := True.intro; have hC := True.intro; repeat' first
        | ((with_reducible apply te_drwA); (focus (simp (maxDischargeDepth := 8) only [effFlA, List.map_cons, List.map_nil]; exact rfl)); (focus decide +kernel))
        | with_reducible first | refine k_seq ?_ | refine t_seq ?_ | refine t_reg ?_ | refine t_nil ?_ | refine t_skip ?_ | refine t_ret ?_ | refine k_blk ?_ | refine t_block ?_ | refine m_nil ?_
        | refine ae_val ?_
        | refine ae_callS ?_
        | refine be_val ?_
        | refine ae_box ?_
        | (refine ae_alloc ?_; intro la ha hn1; have hNE := And.intro hNE hn1)
        | refine ae_store ?_
        | refine be_store ?_
        | refine a_cond ?_ ?_
        | (with_reducible intro hc; with_reducible exact Bool.noConfusion hc)
        | (with_reducible intro hc; have hC := And.intro hC hc))
    have hK := hK
    rw [hs] at hK
    refine gend rs103 ?_ (fun _ _ h => h) (hK _ ?_ ?_)
    · simp (maxDischargeDepth := 8) only [go_sem, hNE, hla, encAn, stA, cast0]
      first | done | rfl
    · simp (maxDischargeDepth := 8) only [go_sem, hNE, hla, encO, hp, setC, splice, cast0]
      first | done | rfl
    · intro l c g1 g2
      simp (maxDischargeDepth := 8) only [go_sem, hNE, hla, g1, g2, cast0]
end Go.Proofs.Ythdgdngdfijfhaa
namespace Go.Proofs.Ythdgdngdfijfhaa
open Go.RowKit Go.Proofs
set_option linter.unusedVariables false
set_option linter.unusedSimpArgs false
attribute [local irreducible] PPure CallN Tops TopsDm T
def dirF (u : Un) (a : Ac) : Un × An :=
  if btw a.number 1 60 = true then
    if a.kind = 0 then
      if (u.recs.length : Int) ≤ a.number - 1 then (u, stA 3)
      else if (u.there[(a.number - 1).toNat]?).getD false = true then (u, ⟨0, (u.recs[(a.number - 1).toNat]?).getD [], 0⟩)
      else (u, stA 3)
    else if u.width < (a.bytes.length : Int) then (u, stA 5)
    else ({ u with
      recs := (u.recs ++ List.replicate (a.number.toNat - u.recs.length) []).set (a.number - 1).toNat (a.bytes ++ List.replicate (u.width - (a.bytes.length : Int)).toNat 32),
      there := (u.there ++ List.replicate (a.number.toNat - u.there.length) false).set (a.number - 1).toNat true }, stA 0)
  else (u, stA 4)
def Own2 (H : Hp) (la : Lab) (kp : Lab → Prop) (v1 : PV) (xs : List PV) (v2 : PV) (ys : List PV) : Prop :=
  (xs = [] ∧ ys = [] ∧ v1 = .list .full [] ∧ v2 = .list .full []) ∨
  ∃ l1 l2, v1 = .arr l1 1 0 xs.length ∧ v2 = .arr l2 1 0 ys.length ∧ H l1 = some (.row true 1 xs) ∧ H l2 = some (.row true 1 ys) ∧ l1 ≠ l2 ∧ l1 ≠ la ∧ l2 ≠ la ∧ ∀ l, kp l → l ≠ l1 ∧ l ≠ l2
def DirK (u : Un) (la : Lab) (kp : Lab → Prop) (H : Hp) (K : PV → Hp → Prop) (q : Un × An) : Prop :=
  ∀ H' v1 v2, Own2 H' la kp v1 (q.1.recs.map encS) v2 (q.1.there.map encB) → H' la = some (.row true 7 [encO q.1 v1 v2]) → (∀ l, kp l → H' l = H l) → K (encAn q.2) H'
attribute [local go_sem] encS encB Int.toNat_natCast List.getElem?_map Option.map_some in
set_option maxHeartbeats 4000000 in
theorem g102a (u : Un) (a : Ac) (hn : u.there.length = u.recs.length) (hl : u.recs.length ≤ 60) (hk0 : a.kind = 0 ∨ btw a.number 1 60 = false ∨ u.width < (a.bytes.length : Int)) (la l1 l2 : Lab) (H : Hp) (kp : Lab → Prop)
    (hla : H la = some (.row true 7 [encO u (.arr l1 1 0 u.recs.length) (.arr l2 1 0 u.there.length)])) (hl1 : H l1 = some (.row true 1 (u.recs.map encS))) (hl2 : H l2 = some (.row true 1 (u.there.map encB)))
    (hne : l1 ≠ l2 ∧ l1 ≠ la ∧ l2 ≠ la ∧ ∀ l, kp l → l ≠ l1 ∧ l ≠ l2) (hkp : ∀ l, kp l → ∃ c, H l = some c) {K : PV → Hp → Prop} (hK : DirK u la kp H K (dirF u a)) :
    CallsG Try.prog 102 [.ref la 7 0 0, encAc a] H K := by
  have hO : ∀ Hx : Hp, Hx l1 = some (.row true 1 (u.recs.map encS)) → Hx l2 = some (.row true 1 (u.there.map encB)) → Own2 Hx la kp (.arr l1 1 0 u.recs.length) (u.recs.map encS) (.arr l2 1 0 u.there.length) (u.there.map encB) :=
    fun Hx h1 h2 => .inr ⟨l1, l2, by simp, by simp, h1, h2, hne⟩
  simp only [encO] at hla
  simp only [encAc]
  by_cases hb : btw a.number 1 60 = true
  · have hb1 := hb
    simp only [btw] at hb
    have hb2 := hb
    simp at hb2
    obtain ⟨i, hi⟩ : ∃ i : Nat, a.number = (i : Int) + 1 := ⟨(a.number - 1).toNat, by omega⟩
    have hw : IntKind.i64.wrap (a.number - 1) = (i : Int) := by rw [IntKind.wrap_i64]; omega
    have hge : (0 : Int) ≤ (i : Int) := by omega
    have hti : (a.number - 1).toNat = i := by omega
    have hai : a.number - 1 = (i : Int) := by omega
    by_cases k0 : a.kind = 0
    · have e0 : decide (a.kind = 0) = true := by simp [k0]
      by_cases hlen : (u.recs.length : Int) ≤ (i : Int)
      · have el : decide ((u.recs.length : Int) ≤ (i : Int)) = true := by simp [hlen]
        have hs : dirF u a = (u, stA 3) := by simp only [dirF, hb1, hai, if_true, k0, hlen]
        (refine callsG_of_T ok102 (by simp only [List.length_cons, List.length_nil]; decide) ?_; refine t_seq ?_)
        (have hA := And.intro hla (And.intro hl1 (And.intro hl2 (And.intro e0 (And.intro hb (And.intro hw (el)))))); have hP := And.intro @p100' (And.intro @p58 (True.intro)); have hNE := True.intro; have hC := True.intro; repeat' first
            | with_reducible first | refine k_seq ?_ | refine t_seq ?_ | refine t_reg ?_ | refine t_nil ?_ | refine t_skip ?_ | refine t_ret ?_ | refine k_seq_ret ?_
            | refine ae_val ?_
            | refine ae_callS ?_
            | refine ae_gval ?_
            | refine ae_gno ?_
            | refine ae_box ?_
            | (refine ae_alloc ?_; intro la ha hn1; have hNE := And.intro hNE hn1)
            | refine ae_store ?_
            | refine a_cond ?_ ?_
            | (with_reducible intro hc; with_reducible exact Bool.noConfusion hc)
            | (with_reducible intro hc; have hC := And.intro hC hc))
        have hK := hK
        rw [hs] at hK
        refine gend rs102 ?_ (fun _ _ h => h) (hK _ _ _ (hO _ ?_ ?_) ?_ ?_)
        · simp (maxDischargeDepth := 8) only [go_sem, hNE, encAn, stA, cast0]
          first | done | rfl
        · simp (maxDischargeDepth := 8) only [go_sem, hNE, hl1, hl2, cast0]
        · simp (maxDischargeDepth := 8) only [go_sem, hNE, hl1, hl2, cast0]
        · simp (maxDischargeDepth := 8) only [go_sem, hNE, hla, encO, cast0]
          first | done | rfl
        · intro l g1
          obtain ⟨c, g2⟩ := hkp l g1
          simp (maxDischargeDepth := 8) only [go_sem, hNE, g2, cast0]
      · have el : decide ((u.recs.length : Int) ≤ (i : Int)) = false := by simp; omega
        have hlt : (i : Int) < (u.recs.length : Int) := by omega
        have hlt2 : (i : Int) < (u.there.length : Int) := by omega
        obtain ⟨x, hx⟩ : ∃ x, u.recs[i]? = some x := ⟨_, List.getElem?_eq_getElem (by omega)⟩
        obtain ⟨t, ht⟩ : ∃ t, u.there[i]? = some t := ⟨_, List.getElem?_eq_getElem (by omega)⟩
        cases t with
        | true =>
          have hs : dirF u a = (u, ⟨0, x, 0⟩) := by simp only [dirF, hb1, hai, Int.toNat_natCast, if_true, k0, hlen, if_false, hx, ht, Option.getD_some]
          (refine callsG_of_T ok102 (by simp only [List.length_cons, List.length_nil]; decide) ?_; refine t_seq ?_)
          (have hA := And.intro hla (And.intro hl1 (And.intro hl2 (And.intro e0 (And.intro hb (And.intro hw (And.intro el (And.intro hge (And.intro hlt (And.intro hlt2 (And.intro hx (ht))))))))))); have hP := And.intro @p100' (And.intro @p58 (True.intro)); have hNE := True.intro; have hC := True.intro; repeat' first
              | with_reducible first | refine k_seq ?_ | refine t_seq ?_ | refine t_reg ?_ | refine t_nil ?_ | refine t_skip ?_ | refine t_ret ?_ | refine k_seq_ret ?_
              | refine ae_val ?_
              | refine ae_callS ?_
              | refine ae_gval ?_
              | refine ae_box ?_
              | (refine ae_alloc ?_; intro la ha hn1; have hNE := And.intro hNE hn1)
              | refine ae_store ?_
              | refine a_cond ?_ ?_
              | (with_reducible intro hc; with_reducible exact Bool.noConfusion hc)
              | (with_reducible intro hc; have hC := And.intro hC hc))
          have hK := hK
          rw [hs] at hK
          refine gend rs102 ?_ (fun _ _ h => h) (hK _ _ _ (hO _ ?_ ?_) ?_ ?_)
          · simp (maxDischargeDepth := 8) only [go_sem, hNE, encAn, stA, cast0]
            first | done | rfl
          · simp (maxDischargeDepth := 8) only [go_sem, hNE, hl1, hl2, cast0]
          · simp (maxDischargeDepth := 8) only [go_sem, hNE, hl1, hl2, cast0]
          · simp (maxDischargeDepth := 8) only [go_sem, hNE, hla, encO, cast0]
            first | done | rfl
          · intro l g1
            obtain ⟨c, g2⟩ := hkp l g1
            simp (maxDischargeDepth := 8) only [go_sem, hNE, g2, cast0]
        | false =>
          have hs : dirF u a = (u, stA 3) := by simp [dirF, hb1, hai, k0, ht]
          (refine callsG_of_T ok102 (by simp only [List.length_cons, List.length_nil]; decide) ?_; refine t_seq ?_)
          (have hA := And.intro hla (And.intro hl1 (And.intro hl2 (And.intro e0 (And.intro hb (And.intro hw (And.intro el (And.intro hge (And.intro hlt (And.intro hlt2 (And.intro hx (ht))))))))))); have hP := And.intro @p100' (And.intro @p58 (True.intro)); have hNE := True.intro; have hC := True.intro; repeat' first
              | with_reducible first | refine k_seq ?_ | refine t_seq ?_ | refine t_reg ?_ | refine t_nil ?_ | refine t_skip ?_ | refine t_ret ?_ | refine k_seq_ret ?_
              | refine ae_val ?_
              | refine ae_callS ?_
              | refine ae_gval ?_
              | refine ae_box ?_
              | (refine ae_alloc ?_; intro la ha hn1; have hNE := And.intro hNE hn1)
              | refine ae_store ?_
              | refine a_cond ?_ ?_
              | (with_reducible intro hc; with_reducible exact Bool.noConfusion hc)
              | (with_reducible intro hc; have hC := And.intro hC hc))
          have hK := hK
          rw [hs] at hK
          refine gend rs102 ?_ (fun _ _ h => h) (hK _ _ _ (hO _ ?_ ?_) ?_ ?_)
          · simp (maxDischargeDepth := 8) only [go_sem, hNE, encAn, stA, cast0]
            first | done | rfl
          · simp (maxDischargeDepth := 8) only [go_sem, hNE, hl1, hl2, cast0]
          · simp (maxDischargeDepth := 8) only [go_sem, hNE, hl1, hl2, cast0]
          · simp (maxDischargeDepth := 8) only [go_sem, hNE, hla, encO, cast0]
            first | done | rfl
          · intro l g1
            obtain ⟨c, g2⟩ := hkp l g1
            simp (maxDischargeDepth := 8) only [go_sem, hNE, g2, cast0]
    · have e0 : decide (a.kind = 0) = false := by simp [k0]
      have hwl : u.width < (a.bytes.length : Int) := by
        rcases hk0 with h | h | h
        · exact absurd h k0
        · rw [hb1] at h; cases h
        · exact h
      have el : decide (u.width < (a.bytes.length : Int)) = true := by simp [hwl]
      have hs : dirF u a = (u, stA 5) := by simp only [dirF, hb1, if_true, k0, if_false, hwl]
      (refine callsG_of_T ok102 (by simp only [List.length_cons, List.length_nil]; decide) ?_; refine t_seq ?_)
      (have hA := And.intro hla (And.intro hl1 (And.intro hl2 (And.intro e0 (And.intro hb (And.intro hw (el)))))); have hP := And.intro @p100' (And.intro @p58 (True.intro)); have hNE := True.intro; have hC := True.intro; repeat' first
          | ((with_reducible apply te_drwA); (focus (simp (maxDischargeDepth := 8) only [effFlA, List.map_cons, List.map_nil]; exact rfl)); (focus decide +kernel))
          | with_reducible first | refine k_seq ?_ | refine t_seq ?_ | refine t_reg ?_ | refine t_nil ?_ | refine t_skip ?_ | refine t_ret ?_ | refine k_seq_ret ?_ | refine m_nil ?_
          | refine ae_val ?_
          | refine ae_callS ?_
          | refine be_val ?_
          | refine ae_box ?_
          | (refine ae_alloc ?_; intro la ha hn1; have hNE := And.intro hNE hn1)
          | refine ae_store ?_
          | refine a_cond ?_ ?_
          | (with_reducible intro hc; with_reducible exact Bool.noConfusion hc)
          | (with_reducible intro hc; have hC := And.intro hC hc))
      have hK := hK
      rw [hs] at hK
      refine gend rs102 ?_ (fun _ _ h => h) (hK _ _ _ (hO _ ?_ ?_) ?_ ?_)
      · simp (maxDischargeDepth := 8) only [go_sem, hNE, encAn, stA, cast0]
        first | done | rfl
      · simp (maxDischargeDepth := 8) only [go_sem, hNE, hl1, hl2, cast0]
      · simp (maxDischargeDepth := 8) only [go_sem, hNE, hl1, hl2, cast0]
      · simp (maxDischargeDepth := 8) only [go_sem, hNE, hla, encO, cast0]
        first | done | rfl
      · intro l g1
        obtain ⟨c, g2⟩ := hkp l g1
        simp (maxDischargeDepth := 8) only [go_sem, hNE, g2, cast0]
  · have hs : dirF u a = (u, stA 4) := by simp only [dirF, hb, if_false]; rfl
    simp only [btw, Bool.not_eq_true] at hb
    (refine callsG_of_T ok102 (by simp only [List.length_cons, List.length_nil]; decide) ?_; refine t_seq ?_)
    (have hA := And.intro hla (And.intro hl1 (And.intro hl2 (hb))); have hP := And.intro @p100' (And.intro @p58 (True.intro)); have hNE := True.intro; have hC := True.intro; repeat' first
        | with_reducible first | refine k_seq ?_ | refine t_seq ?_ | refine t_reg ?_ | refine t_nil ?_ | refine t_ret ?_ | refine k_seq_ret ?_
        | refine ae_val ?_
        | refine ae_callS ?_
        | refine ae_box ?_
        | (refine ae_alloc ?_; intro la ha hn1; have hNE := And.intro hNE hn1)
        | refine ae_store ?_
        | refine a_cond ?_ ?_
        | (with_reducible intro hc; with_reducible exact Bool.noConfusion hc)
        | (with_reducible intro hc; have hC := And.intro hC hc))
    have hK := hK
    rw [hs] at hK
    refine gend rs102 ?_ (fun _ _ h => h) (hK _ _ _ (hO _ ?_ ?_) ?_ ?_)
    · simp (maxDischargeDepth := 8) only [go_sem, hNE, encAn, stA, cast0]
      first | done | rfl
    · simp (maxDischargeDepth := 8) only [go_sem, hNE, hl1, hl2, cast0]
    · simp (maxDischargeDepth := 8) only [go_sem, hNE, hl1, hl2, cast0]
    · simp (maxDischargeDepth := 8) only [go_sem, hNE, hla, encO, cast0]
      first | done | rfl
    · intro l g1
      obtain ⟨c, g2⟩ := hkp l g1
      simp (maxDischargeDepth := 8) only [go_sem, hNE, g2, cast0]
end Go.Proofs.Ythdgdngdfijfhaa
namespace Go.Proofs.Ythdgdngdfijfhaa
open Go.RowKit Go.Proofs
set_option linter.unusedVariables false
set_option linter.unusedSimpArgs false
attribute [local irreducible] PPure CallN Tops TopsDm T
def doneF (u : Un) (a : Ac) : Un × An :=
  if permF u.access a.kind = false then (u, stA 2)
  else if a.kind = 6 then (u, stA 0)
  else if a.kind = 7 then (u, ⟨0, [], if u.access = 1 then (u.recs.length : Int) else u.pos + 1⟩)
  else if a.kind = 3 then ({ u with pos := 0 }, stA 0)
  else if u.access = 0 then seqF u a else if u.access = 1 then dirF u a else strF u a
set_option maxHeartbeats 4000000 in
theorem p70a (u : Un) (a : Ac) (hl : u.recs.length ≤ 1000) (hl2 : u.there.length ≤ 1000) (hp0 : 0 ≤ u.pos ∧ u.pos ≤ 10000) (h : permF u.access a.kind = false ∨ a.kind = 6 ∨ a.kind = 7 ∨ a.kind = 3) :
    PPure Try.prog 70 [encU u, encAc a] (.tup [encU (doneF u a).1, encAn (doneF u a).2]) := by
  have hc := p69 u hl hl2
  have hw : IntKind.i64.wrap (u.pos + 1) = u.pos + 1 := by rw [IntKind.wrap_i64]; omega
  simp only [encU] at hc
  by_cases h1 : permF u.access a.kind = false
  · have hs : doneF u a = (u, stA 2) := by unfold doneF; rw [if_pos h1]
    rw [hs]
    simp only [encU, encAc, encAn, stA]
    (refine ppure_of_T ok70 (by simp only [List.length_cons, List.length_nil]; decide) ?_; refine t_seq ?_)
    (have hA := h1; have hP := And.intro hc (And.intro @p100' (And.intro @p99 (True.intro))); have hNE := True.intro; have hC := True.intro; repeat' first
        | ((with_reducible apply te_drwA); (focus (simp (maxDischargeDepth := 8) only [effFlA, List.map_cons, List.map_nil]; exact rfl)); (focus decide +kernel))
        | with_reducible first | refine k_seq ?_ | refine t_seq ?_ | refine t_reg ?_ | refine t_nil ?_ | refine t_ret ?_ | refine k_seq_ret ?_ | refine k_blk_ret ?_ | refine t_block ?_ | refine m_nil ?_
        | refine ae_val ?_
        | refine ae_callS ?_
        | refine be_val ?_
        | refine be_callS ?_
        | refine ae_box ?_
        | (refine ae_alloc ?_; intro la ha hn1; have hNE := And.intro hNE hn1)
        | refine ae_store ?_
        | refine be_store ?_
        | refine a_cond ?_ ?_
        | (with_reducible intro hc; with_reducible exact Bool.noConfusion hc)
        | (with_reducible intro hc; have hC := And.intro hC hc))
    (first | apply pend rs70 | apply pendN rs70); (focus (simp (maxDischargeDepth := 8) only [hNE, go_sem]; first | done | exact rfl)); (focus (simp (maxDischargeDepth := 8) only [hNE, go_sem]; first | done | exact rfl))
  have h1t : permF u.access a.kind = true := by simpa using h1
  by_cases h6 : a.kind = 6
  · have e6 : decide (a.kind = 6) = true := by simp [h6]
    have hs : doneF u a = (u, stA 0) := by unfold doneF; rw [if_neg h1, if_pos h6]
    rw [hs]
    simp only [encU, encAc, encAn, stA]
    (refine ppure_of_T ok70 (by simp only [List.length_cons, List.length_nil]; decide) ?_; refine t_seq ?_)
    (have hA := And.intro h1t (e6); have hP := And.intro hc (And.intro @p100' (And.intro @p99 (True.intro))); have hNE := True.intro; have hC := True.intro; repeat' first
        | ((with_reducible apply te_drwA); (focus (simp (maxDischargeDepth := 8) only [effFlA, List.map_cons, List.map_nil]; exact rfl)); (focus decide +kernel))
        | with_reducible first | refine k_seq ?_ | refine t_seq ?_ | refine t_reg ?_ | refine t_nil ?_ | refine t_ret ?_ | refine k_seq_ret ?_ | refine k_blk_ret ?_ | refine t_block ?_ | refine m_nil ?_
        | refine ae_val ?_
        | refine ae_callS ?_
        | refine be_val ?_
        | refine be_callS ?_
        | refine ae_box ?_
        | (refine ae_alloc ?_; intro la ha hn1; have hNE := And.intro hNE hn1)
        | refine ae_store ?_
        | refine be_store ?_
        | refine a_cond ?_ ?_
        | (with_reducible intro hc; with_reducible exact Bool.noConfusion hc)
        | (with_reducible intro hc; have hC := And.intro hC hc))
    (first | apply pend rs70 | apply pendN rs70); (focus (simp (maxDischargeDepth := 8) only [hNE, go_sem]; first | done | exact rfl)); (focus (simp (maxDischargeDepth := 8) only [hNE, go_sem]; first | done | exact rfl))
  have e6 : decide (a.kind = 6) = false := by simp [h6]
  by_cases h7 : a.kind = 7
  · have e7 : decide (a.kind = 7) = true := by simp [h7]
    by_cases hac : u.access = 1
    · have ea : decide (u.access = 1) = true := by simp [hac]
      have hs : doneF u a = (u, ⟨0, [], (u.recs.length : Int)⟩) := by unfold doneF; rw [if_neg h1, if_neg h6, if_pos h7, if_pos hac]
      rw [hs]
      simp only [encU, encAc, encAn, stA]
      (refine ppure_of_T ok70 (by simp only [List.length_cons, List.length_nil]; decide) ?_; refine t_seq ?_)
      (have hA := And.intro h1t (And.intro e6 (And.intro e7 (ea))); have hP := And.intro hc (And.intro @p100' (And.intro @p99 (True.intro))); have hNE := True.intro; have hC := True.intro; repeat' first
          | ((with_reducible apply te_drwK); (focus (simp (maxDischargeDepth := 8) only [effFl, List.map_cons, List.map_nil]; exact rfl)); (focus decide +kernel); (focus (simp (maxDischargeDepth := 8) only [go_sem, hNE, hA]; first | done | exact rfl)))
          | with_reducible first | refine k_seq ?_ | refine t_seq ?_ | refine t_reg ?_ | refine t_nil ?_ | refine t_ret ?_ | refine k_seq_ret ?_ | refine k_blk_ret ?_ | refine t_block ?_ | refine m_nil ?_
          | refine ae_val ?_
          | refine ae_callS ?_
          | refine ae_gval ?_
          | refine be_val ?_
          | refine ae_box ?_
          | (refine ae_alloc ?_; intro la ha hn1; have hNE := And.intro hNE hn1)
          | refine ae_store ?_
          | ((with_reducible apply me_storeZ); (focus (simp (maxDischargeDepth := 8) only [go_sem, hNE, hA]; first | done | exact rfl)); (focus (simp (maxDischargeDepth := 8) only [go_sem, hNE, hA]; first | done | exact rfl)); (focus (first | exact rm_sub _ _ | (intro _ _ e; cases e; done) | (repeat (first | exact rm_sub _ _ | refine upd_sub ?_ (by simp (maxDischargeDepth := 8) only [go_sem, hNE, hA])))) ); (focus (simp (maxDischargeDepth := 8) only [go_sem, hNE, hA]; first | done | exact rfl)); (focus (simp (maxDischargeDepth := 8) only [go_sem, hNE, hA]; first | done | exact rfl)); (focus (simp (maxDischargeDepth := 8) only [go_sem, hNE, hA]; first | done | exact rfl)); (focus (simp (maxDischargeDepth := 8) only [go_sem, hNE, hA]; first | done | exact rfl)); (focus (simp (maxDischargeDepth := 8) only [go_sem, hNE, hA]; first | done | exact rfl)))
          | refine a_cond ?_ ?_
          | (with_reducible intro hc; with_reducible exact Bool.noConfusion hc)
          | (with_reducible intro hc; have hC := And.intro hC hc))
      (first | apply pend rs70 | apply pendN rs70); (focus (simp (maxDischargeDepth := 8) only [hNE, go_sem]; first | done | exact rfl)); (focus (simp (maxDischargeDepth := 8) only [hNE, go_sem]; first | done | exact rfl))
    · have ea : decide (u.access = 1) = false := by simp [hac]
      have hs : doneF u a = (u, ⟨0, [], u.pos + 1⟩) := by unfold doneF; rw [if_neg h1, if_neg h6, if_pos h7, if_neg hac]
      rw [hs]
      simp only [encU, encAc, encAn, stA]
      (refine ppure_of_T ok70 (by simp only [List.length_cons, List.length_nil]; decide) ?_; refine t_seq ?_)
      (have hA := And.intro h1t (And.intro e6 (And.intro e7 (And.intro ea (hw)))); have hP := And.intro hc (And.intro @p100' (And.intro @p99 (True.intro))); have hNE := True.intro; have hC := True.intro; repeat' first
          | ((with_reducible apply te_drwK); (focus (simp (maxDischargeDepth := 8) only [effFl, List.map_cons, List.map_nil]; exact rfl)); (focus decide +kernel); (focus (simp (maxDischargeDepth := 8) only [go_sem, hNE, hA]; first | done | exact rfl)))
          | with_reducible first | refine k_seq ?_ | refine t_seq ?_ | refine t_reg ?_ | refine t_nil ?_ | refine t_ret ?_ | refine k_seq_ret ?_ | refine k_blk_ret ?_ | refine t_block ?_ | refine m_nil ?_
          | refine ae_val ?_
          | refine ae_callS ?_
          | refine ae_gval ?_
          | refine be_val ?_
          | refine ae_box ?_
          | (refine ae_alloc ?_; intro la ha hn1; have hNE := And.intro hNE hn1)
          | refine ae_store ?_
          | ((with_reducible apply me_storeZ); (focus (simp (maxDischargeDepth := 8) only [go_sem, hNE, hA]; first | done | exact rfl)); (focus (simp (maxDischargeDepth := 8) only [go_sem, hNE, hA]; first | done | exact rfl)); (focus (first | exact rm_sub _ _ | (intro _ _ e; cases e; done) | (repeat (first | exact rm_sub _ _ | refine upd_sub ?_ (by simp (maxDischargeDepth := 8) only [go_sem, hNE, hA])))) ); (focus (simp (maxDischargeDepth := 8) only [go_sem, hNE, hA]; first | done | exact rfl)); (focus (simp (maxDischargeDepth := 8) only [go_sem, hNE, hA]; first | done | exact rfl)); (focus (simp (maxDischargeDepth := 8) only [go_sem, hNE, hA]; first | done | exact rfl)); (focus (simp (maxDischargeDepth := 8) only [go_sem, hNE, hA]; first | done | exact rfl)); (focus (simp (maxDischargeDepth := 8) only [go_sem, hNE, hA]; first | done | exact rfl)))
          | refine a_cond ?_ ?_
          | (with_reducible intro hc; with_reducible exact Bool.noConfusion hc)
          | (with_reducible intro hc; have hC := And.intro hC hc))
      (first | apply pend rs70 | apply pendN rs70); (focus (simp (maxDischargeDepth := 8) only [hNE, go_sem]; first | done | exact rfl)); (focus (simp (maxDischargeDepth := 8) only [hNE, go_sem]; first | done | exact rfl))
  have e7 : decide (a.kind = 7) = false := by simp [h7]
  have h3 : a.kind = 3 := by
    rcases h with h | h | h | h
    · exact absurd h h1
    · exact absurd h h6
    · exact absurd h h7
    · exact h
  have e3 : decide (a.kind = 3) = true := by simp [h3]
  have hs : doneF u a = ({ u with pos := 0 }, stA 0) := by unfold doneF; rw [if_neg h1, if_neg h6, if_neg h7, if_pos h3]
  rw [hs]
  simp only [encU, encAc, encAn, stA]
  (refine ppure_of_T ok70 (by simp only [List.length_cons, List.length_nil]; decide) ?_; refine t_seq ?_)
  (have hA := And.intro h1t (And.intro e6 (And.intro e7 (e3))); have hP := And.intro hc (And.intro @p100' (And.intro @p99 (True.intro))); have hNE := True.intro; have hC := True.intro; repeat' first
      | ((with_reducible apply te_drwA); (focus (simp (maxDischargeDepth := 8) only [effFlA, List.map_cons, List.map_nil]; exact rfl)); (focus decide +kernel))
      | with_reducible first | refine k_seq ?_ | refine t_seq ?_ | refine t_reg ?_ | refine t_nil ?_ | refine t_ret ?_ | refine k_seq_ret ?_ | refine k_blk_ret ?_ | refine t_block ?_ | refine m_nil ?_
      | refine ae_val ?_
      | refine ae_callS ?_
      | refine ae_gval ?_
      | refine ae_gno ?_
      | refine be_val ?_
      | refine be_callS ?_
      | refine ae_box ?_
      | (refine ae_alloc ?_; intro la ha hn1; have hNE := And.intro hNE hn1)
      | refine ae_store ?_
      | refine be_store ?_
      | refine a_cond ?_ ?_
      | (with_reducible intro hc; with_reducible exact Bool.noConfusion hc)
      | (with_reducible intro hc; have hC := And.intro hC hc))
  (first | apply pend rs70 | apply pendN rs70); (focus (simp (maxDischargeDepth := 8) only [hNE, go_sem]; first | done | exact rfl)); (focus (simp (maxDischargeDepth := 8) only [hNE, go_sem]; first | done | exact rfl))
end Go.Proofs.Ythdgdngdfijfhaa
namespace Go.Proofs.Ythdgdngdfijfhaa
open Go.RowKit Go.Proofs
set_option linter.unusedVariables false
set_option linter.unusedSimpArgs false
attribute [local irreducible] PPure CallN Tops TopsDm T
attribute [local go_sem] cast0 in
set_option maxHeartbeats 4000000 in
theorem g101e (u : Un) (a : Ac) (hp0 : u.pos = 0 ∨ u.pos = 1) (hr : u.recs = []) (ht : u.there = []) (la : Lab) (H : Hp)
    (hla : H la = some (.row true 7 [encO u (.list .full []) (.list .full [])])) {K : PV → Hp → Prop}
    (hK : ∀ H' v1, OwnL H' v1 ((seqF u a).1.recs.map encS) → H' la = some (.row true 7 [encO (seqF u a).1 v1 (.list .full [])]) → (∀ l c, H l = some c → l ≠ la → H' l = some c) → K (encAn (seqF u a).2) H') :
    CallsG Try.prog 101 [.ref la 7 0 0, encAc a] H K := by
  have hb := p110 u (by simp [hr])
  simp only [encU, ht, hr, List.map_nil, List.length_nil, cast0] at hb
  simp only [encAc]
  have hw1 : IntKind.i64.wrap ((0 : Int) + 1) = 1 := by decide
  have hw3 : IntKind.i64.wrap ((0 : Int) - 1) = -1 := by decide
  have hw4 : IntKind.i64.wrap ((1 : Int) - 1) = 0 := by decide
  have OWN : ∀ Hx : Hp, OwnL Hx (.list .full []) (u.recs.map encS) := fun Hx => .inl ⟨by simp [hr], rfl⟩
  rcases hp0 with hp | hp
  · simp only [encO, hp] at hla hb
    by_cases k2 : a.kind = 2
    · have e2 : decide (a.kind = 2) = true := by simp [k2]
      have hs : seqF u a = ({ u with pos := 0 }, stA 0) := by simp [seqF, k2, hp, hr]
      (refine callsG_of_T ok101 (by simp only [List.length_cons, List.length_nil]; decide) ?_; refine t_seq ?_)
      (have hA := And.intro hla (And.intro e2 (hw3)); have hP := And.intro hb (And.intro @p100' (True.intro)); have hNE := True.intro; have hC := True.intro; repeat' first
          | with_reducible first | refine k_seq ?_ | refine t_seq ?_ | refine t_reg ?_ | refine t_nil ?_ | refine t_ret ?_ | refine k_seq_ret ?_ | refine k_blk_ret ?_ | refine t_block ?_
          | refine ae_val ?_
          | refine ae_callS ?_
          | refine ae_gval ?_
          | refine ae_gcallO ?_
          | refine ae_box ?_
          | (refine ae_alloc ?_; intro la ha hn1; have hNE := And.intro hNE hn1)
          | refine ae_store ?_
          | refine a_cond ?_ ?_
          | (with_reducible intro hc; with_reducible exact Bool.noConfusion hc)
          | (with_reducible intro hc; have hC := And.intro hC hc))
      have hK := hK
      rw [hs] at hK
      refine gend rs101 ?_ (fun _ _ h => h) (hK _ (.list .full []) ?_ ?_ ?_)
      · simp (maxDischargeDepth := 8) only [go_sem, hNE, hla, encAn, stA, cast0]
        first | done | rfl
      · exact OWN _
      · simp (maxDischargeDepth := 8) only [go_sem, hNE, hla, encO, hp, setC, splice, cast0]
        first | done | rfl
      · intro l c g1 g2
        simp (maxDischargeDepth := 8) only [go_sem, hNE, hla, g1, g2, cast0]
    have e2 : decide (a.kind = 2) = false := by simp [k2]
    by_cases k0 : a.kind = 0
    · have e0 : decide (a.kind = 0) = true := by simp [k0]
      have hs : seqF u a = ({ u with pos := 1 }, stA (-1)) := by simp [seqF, k0, hp, hr]
      (refine callsG_of_T ok101 (by simp only [List.length_cons, List.length_nil]; decide) ?_; refine t_seq ?_)
      (have hA := And.intro hla (And.intro e2 (And.intro e0 (hw1))); have hP := And.intro hb (And.intro @p100' (True.intro)); have hNE := True.intro; have hC := True.intro; repeat' first
          | ((with_reducible apply te_drwA); (focus (simp (maxDischargeDepth := 8) only [effFlA, List.map_cons, List.map_nil]; exact rfl)); (focus decide +kernel))
          | with_reducible first | refine k_seq ?_ | refine t_seq ?_ | refine t_reg ?_ | refine t_nil ?_ | refine t_ret ?_ | refine k_seq_ret ?_ | refine k_blk_ret ?_ | refine t_block ?_ | refine m_nil ?_
          | refine ae_val ?_
          | refine ae_callS ?_
          | refine ae_gval ?_
          | refine ae_gno ?_
          | refine be_val ?_
          | refine be_gval ?_
          | refine ae_box ?_
          | (refine ae_alloc ?_; intro la ha hn1; have hNE := And.intro hNE hn1)
          | refine ae_store ?_
          | refine a_cond ?_ ?_
          | (with_reducible intro hc; with_reducible exact Bool.noConfusion hc)
          | (with_reducible intro hc; have hC := And.intro hC hc))
      have hK := hK
      rw [hs] at hK
      refine gend rs101 ?_ (fun _ _ h => h) (hK _ (.list .full []) ?_ ?_ ?_)
      · simp (maxDischargeDepth := 8) only [go_sem, hNE, hla, encAn, stA, cast0]
        first | done | rfl
      · exact OWN _
      · simp (maxDischargeDepth := 8) only [go_sem, hNE, hla, encO, hp, setC, splice, cast0]
        first | done | rfl
      · intro l c g1 g2
        simp (maxDischargeDepth := 8) only [go_sem, hNE, hla, g1, g2, cast0]
    have e0 : decide (a.kind = 0) = false := by simp [k0]
    by_cases k4 : a.kind = 4
    · have e4 : decide (a.kind = 4) = true := by simp [k4]
      have hs : seqF u a = ({ u with recs := [], ended := true, pos := 1 }, stA 0) := by simp [seqF, k4, hp, hr]
      (refine callsG_of_T ok101 (by simp only [List.length_cons, List.length_nil]; decide) ?_; refine t_seq ?_)
      (have hA := And.intro hla (And.intro e2 (And.intro e0 (And.intro e4 (hw1)))); have hP := And.intro hb (And.intro @p100' (True.intro)); have hNE := True.intro; have hC := True.intro; repeat' first
          | ((with_reducible apply te_drwA); (focus (simp (maxDischargeDepth := 8) only [effFlA, List.map_cons, List.map_nil]; exact rfl)); (focus decide +kernel))
          | with_reducible first | refine k_seq ?_ | refine t_seq ?_ | refine t_reg ?_ | refine t_nil ?_ | refine t_ret ?_ | refine k_seq_ret ?_ | refine k_blk_ret ?_ | refine t_block ?_ | refine m_nil ?_
          | refine ae_val ?_
          | refine ae_callS ?_
          | refine ae_gval ?_
          | refine ae_gno ?_
          | refine be_val ?_
          | refine be_gval ?_
          | refine be_gno ?_
          | refine ae_box ?_
          | (refine ae_alloc ?_; intro la ha hn1; have hNE := And.intro hNE hn1)
          | refine ae_store ?_
          | refine be_store ?_
          | refine a_cond ?_ ?_
          | (with_reducible intro hc; with_reducible exact Bool.noConfusion hc)
          | (with_reducible intro hc; have hC := And.intro hC hc))
      have hK := hK
      rw [hs] at hK
      refine gend rs101 ?_ (fun _ _ h => h) (hK _ (.list .full []) ?_ ?_ ?_)
      · simp (maxDischargeDepth := 8) only [go_sem, hNE, hla, encAn, stA, cast0]
        first | done | rfl
      · exact .inl ⟨rfl, rfl⟩
      · simp (maxDischargeDepth := 8) only [go_sem, hNE, hla, encO, hp, setC, splice, cast0]
        first | done | rfl
      · intro l c g1 g2
        simp (maxDischargeDepth := 8) only [go_sem, hNE, hla, g1, g2, cast0]
    have e4 : decide (a.kind = 4) = false := by simp [k4]
    by_cases hby : 200 < a.bytes.length
    · have e6 : decide ((200 : Int) < (a.bytes.length : Int)) = true := by simp; omega
      have hs : seqF u a = (u, stA 5) := by simp [seqF, k0, k2, k4, hp, hr, hby]
      (refine callsG_of_T ok101 (by simp only [List.length_cons, List.length_nil]; decide) ?_; refine t_seq ?_)
      (have hA := And.intro hla (And.intro e2 (And.intro e0 (And.intro e4 (e6)))); have hP := And.intro hb (And.intro @p100' (True.intro)); have hNE := True.intro; have hC := True.intro; repeat' first
          | ((with_reducible apply te_drwA); (focus (simp (maxDischargeDepth := 8) only [effFlA, List.map_cons, List.map_nil]; exact rfl)); (focus decide +kernel))
          | with_reducible first | refine k_seq ?_ | refine t_seq ?_ | refine t_reg ?_ | refine t_nil ?_ | refine t_ret ?_ | refine k_seq_ret ?_ | refine k_blk_ret ?_ | refine t_block ?_ | refine m_nil ?_
          | refine ae_val ?_
          | refine ae_callS ?_
          | refine ae_gval ?_
          | refine ae_gno ?_
          | refine be_val ?_
          | refine be_gval ?_
          | refine be_gno ?_
          | refine ae_box ?_
          | (refine ae_alloc ?_; intro la ha hn1; have hNE := And.intro hNE hn1)
          | refine ae_store ?_
          | refine a_cond ?_ ?_
          | (with_reducible intro hc; with_reducible exact Bool.noConfusion hc)
          | (with_reducible intro hc; have hC := And.intro hC hc))
      have hK := hK
      rw [hs] at hK
      refine gend rs101 ?_ (fun _ _ h => h) (hK _ (.list .full []) ?_ ?_ ?_)
      · simp (maxDischargeDepth := 8) only [go_sem, hNE, hla, encAn, stA, cast0]
        first | done | rfl
      · exact OWN _
      · simp (maxDischargeDepth := 8) only [go_sem, hNE, hla, encO, hp, setC, splice, cast0]
        first | done | rfl
      · intro l c g1 g2
        simp (maxDischargeDepth := 8) only [go_sem, hNE, hla, g1, g2, cast0]
    have e6 : decide ((200 : Int) < (a.bytes.length : Int)) = false := by simp; omega
    have hs : seqF u a = ({ u with recs := [a.bytes], ended := false, pos := 1 }, stA 0) := by simp [seqF, k0, k2, k4, hp, hr, hby]
    (refine callsG_of_T ok101 (by simp only [List.length_cons, List.length_nil]; decide) ?_; refine t_seq ?_)
    (have hA := And.intro hla (And.intro e2 (And.intro e0 (And.intro e4 (And.intro e6 (hw1))))); have hP := And.intro hb (And.intro @p100' (True.intro)); have hNE := True.intro; have hC := True.intro; repeat' first
        | ((with_reducible apply te_drwA); (focus (simp (maxDischargeDepth := 8) only [effFlA, List.map_cons, List.map_nil]; exact rfl)); (focus decide +kernel))
        | with_reducible first | refine k_seq ?_ | refine t_seq ?_ | refine t_reg ?_ | refine t_nil ?_ | refine t_skip ?_ | refine t_ret ?_ | refine k_blk ?_ | refine t_block ?_ | refine m_nil ?_
        | refine ae_val ?_
        | refine ae_callS ?_
        | refine ae_gval ?_
        | refine ae_gno ?_
        | refine be_val ?_
        | refine be_gval ?_
        | refine be_gno ?_
        | refine ae_box ?_
        | (refine ae_alloc ?_; intro la ha hn1; have hNE := And.intro hNE hn1)
        | refine ae_store ?_
        | ((with_reducible apply me_appendL); (with_reducible exact app_22; with_reducible exact c_9); (focus (simp (maxDischargeDepth := 8) only [go_sem, hNE, hA]; first | done | exact rfl)); (focus (simp (maxDischargeDepth := 8) only [go_sem, hNE, hA]; first | done | exact rfl)); exact rfl; (focus (first | exact rfl | (simp (maxDischargeDepth := 8) only [go_sem, hNE, hA]; done))); (focus (simp (maxDischargeDepth := 8) only [go_sem, hNE, hA]; done)); (focus (simp (maxDischargeDepth := 8) only [go_sem, hNE, hA]; done)); (focus (simp (maxDischargeDepth := 8) only [go_sem, hNE, hA, roomB, List.length_take, List.length_append]; first | done | omega)); (intro la ha hn1; have hNE := And.intro hNE hn1))
        | refine be_store ?_
        | refine a_cond ?_ ?_
        | (with_reducible intro hc; with_reducible exact Bool.noConfusion hc)
        | (with_reducible intro hc; have hC := And.intro hC hc))
    have OW2 : ∀ Hx : Hp, Hx la = some (.row true 1 [.str a.bytes]) → OwnL Hx (.arr la 1 0 1) [encS a.bytes] := fun Hx h => .inr ⟨la, [], rfl, by simpa [encS] using h⟩
    have hK := hK
    rw [hs] at hK
    refine gend rs101 ?_ (fun _ _ h => h) (hK _ (.arr la 1 0 1) ?_ ?_ ?_)
    · simp (maxDischargeDepth := 8) only [go_sem, hNE, hla, encAn, stA, cast0]
      first | done | rfl
    · exact OW2 _ (by simp (maxDischargeDepth := 8) only [go_sem, hNE, hla, cast0])
    · simp (maxDischargeDepth := 8) only [go_sem, hNE, hla, encO, hp, setC, splice, cast0]
      first | done | rfl
    · intro l c g1 g2
      simp (maxDischargeDepth := 8) only [go_sem, hNE, hla, g1, g2, cast0]
  · simp only [encO, hp] at hla hb
    by_cases k2 : a.kind = 2
    · have e2 : decide (a.kind = 2) = true := by simp [k2]
      have hs : seqF u a = ({ u with pos := 0 }, stA 0) := by simp [seqF, k2, hp, hr]
      (refine callsG_of_T ok101 (by simp only [List.length_cons, List.length_nil]; decide) ?_; refine t_seq ?_)
      (have hA := And.intro hla (And.intro e2 (hw3)); have hP := And.intro hb (And.intro @p100' (True.intro)); have hNE := True.intro; have hC := True.intro; repeat' first
          | with_reducible first | refine k_seq ?_ | refine t_seq ?_ | refine t_reg ?_ | refine t_nil ?_ | refine t_ret ?_ | refine k_seq_ret ?_ | refine k_blk_ret ?_ | refine t_block ?_
          | refine ae_val ?_
          | refine ae_callS ?_
          | refine ae_gval ?_
          | refine ae_gcallO ?_
          | refine ae_box ?_
          | (refine ae_alloc ?_; intro la ha hn1; have hNE := And.intro hNE hn1)
          | refine ae_store ?_
          | refine a_cond ?_ ?_
          | (with_reducible intro hc; with_reducible exact Bool.noConfusion hc)
          | (with_reducible intro hc; have hC := And.intro hC hc))
      have hK := hK
      rw [hs] at hK
      refine gend rs101 ?_ (fun _ _ h => h) (hK _ (.list .full []) ?_ ?_ ?_)
      · simp (maxDischargeDepth := 8) only [go_sem, hNE, hla, encAn, stA, cast0]
        first | done | rfl
      · exact OWN _
      · simp (maxDischargeDepth := 8) only [go_sem, hNE, hla, encO, hp, setC, splice, cast0]
        first | done | rfl
      · intro l c g1 g2
        simp (maxDischargeDepth := 8) only [go_sem, hNE, hla, g1, g2, cast0]
    have e2 : decide (a.kind = 2) = false := by simp [k2]
    have hs : seqF u a = (u, stA 1) := by simp [seqF, k2, hp, hr]
    (refine callsG_of_T ok101 (by simp only [List.length_cons, List.length_nil]; decide) ?_; refine t_seq ?_)
    (have hA := And.intro hla (e2); have hP := And.intro hb (And.intro @p100' (True.intro)); have hNE := True.intro; have hC := True.intro; repeat' first
        | with_reducible first | refine k_seq ?_ | refine t_seq ?_ | refine t_reg ?_ | refine t_nil ?_ | refine t_ret ?_ | refine k_seq_ret ?_ | refine k_blk_ret ?_ | refine t_block ?_
        | refine ae_val ?_
        | refine ae_callS ?_
        | refine ae_gval ?_
        | refine ae_gno ?_
        | refine ae_box ?_
        | (refine ae_alloc ?_; intro la ha hn1; have hNE := And.intro hNE hn1)
        | refine ae_store ?_
        | refine a_cond ?_ ?_
        | (with_reducible intro hc; with_reducible exact Bool.noConfusion hc)
        | (with_reducible intro hc; have hC := And.intro hC hc))
    have hK := hK
    rw [hs] at hK
    refine gend rs101 ?_ (fun _ _ h => h) (hK _ (.list .full []) ?_ ?_ ?_)
    · simp (maxDischargeDepth := 8) only [go_sem, hNE, hla, encAn, stA, cast0]
      first | done | rfl
    · exact OWN _
    · simp (maxDischargeDepth := 8) only [go_sem, hNE, hla, encO, hp, setC, splice, cast0]
      first | done | rfl
    · intro l c g1 g2
      simp (maxDischargeDepth := 8) only [go_sem, hNE, hla, g1, g2, cast0]
end Go.Proofs.Ythdgdngdfijfhaa
namespace Go.Proofs.Ythdgdngdfijfhaa
open Go.RowKit Go.Proofs
set_option linter.unusedVariables false
set_option linter.unusedSimpArgs false
attribute [local irreducible] PPure CallN Tops TopsDm T
theorem c_149 : Try.prog.cellsOf 149 = 1 := by kernel_rfl
theorem k_149 : kindT Try.prog 149 = some false := by kernel_rfl
attribute [go_sem] c_149 k_149
theorem seqF_there (u : Un) (a : Ac) : (seqF u a).1.there = u.there := by
  unfold seqF
  repeat' split
  all_goals rfl
def zU : PV := .agg [.int .i64 0, .int .i64 0, .list .nil [], .list .nil [], .str [], .bool false, .int .i64 0]
def zAn : PV := .agg [.int .i64 0, .str [], .int .i64 0]
attribute [local go_sem] encAn in
set_option maxHeartbeats 4000000 in
theorem p70s (u : Un) (a : Ac) (p : Nat) (hp : u.pos = (p : Int)) (hpl : p ≤ u.recs.length + 1) (hl : u.recs.length ≤ 60) (hr : u.recs ≠ []) (ht : u.there = []) (hacc : u.access = 0)
    (hperm : permF u.access a.kind = true) (h6 : ¬ a.kind = 6) (h7 : ¬ a.kind = 7) (h3 : ¬ a.kind = 3) :
    PPure Try.prog 70 [encU u, encAc a] (.tup [encU (doneF u a).1, encAn (doneF u a).2]) := by
  have hs : doneF u a = seqF u a := by
    unfold doneF; rw [if_neg (by rw [hperm]; simp), if_neg h6, if_neg h7, if_neg h3, if_pos hacc]
  rw [hs]
  have e6 : decide (a.kind = 6) = false := by simp [h6]
  have e7 : decide (a.kind = 7) = false := by simp [h7]
  have e3 : decide (a.kind = 3) = false := by simp [h3]
  have hth := seqF_there u a
  rw [ht] at hth
  have hg := fun la l1 H hla hl1 hne K hK => g101 u a p hp hpl hl ht la l1 H hla hl1 hne (K := K) hK
  obtain ⟨q, hq⟩ : ∃ q, seqF u a = q := ⟨_, rfl⟩
  rw [hq] at hth
  simp only [hq] at hg
  rw [hq]
  have hc := fun H K hK => g69b u hr ht (by omega) (K := K) H hK
  rw [hacc] at hperm
  simp only [encU, ht, List.map_nil, hacc, hth, encO, encAc] at hc hg ⊢
  (refine ppure_of_T ok70 (by simp only [List.length_cons, List.length_nil]; decide) ?_; refine t_seq ?_)
  (have hA := And.intro hperm (And.intro e6 (And.intro e7 (e3))); have hP := And.intro @p100' (And.intro @p99 (True.intro)); have hNE := True.intro; have hC := True.intro; repeat' first
      | with_reducible first | refine k_seq ?_ | refine t_seq ?_ | refine t_reg ?_ | refine t_nil ?_
      | refine ae_val ?_
      | refine ae_box ?_
      | (refine ae_alloc ?_; intro la ha hn1; have hNE := And.intro hNE hn1))
  rename_i l4 a4 n4 x4
  obtain ⟨l5, h5⟩ : ∃ l, l = la := ⟨la, rfl⟩
  subst h5
  (first | ((with_reducible apply te_callG); (focus (simp (maxDischargeDepth := 8) only [go_sem, hNE, hperm]; first | done | exact rfl)); (focus (simp (maxDischargeDepth := 8) only [go_sem, hNE, hperm]; first | done | exact rfl))) | ((with_reducible apply te_callGB); (focus (simp (maxDischargeDepth := 8) only [go_sem, hNE, hperm]; first | done | exact rfl)); (focus (simp (maxDischargeDepth := 8) only [go_sem, hNE, hperm]; first | done | exact rfl))) | ((with_reducible apply me_callG); (focus (simp (maxDischargeDepth := 8) only [go_sem, hNE, hperm]; first | done | exact rfl)); (focus (simp (maxDischargeDepth := 8) only [go_sem, hNE, hperm]; first | done | exact rfl)); (focus (simp only [List.all_cons, List.all_nil, allocB, PV.isDef, go_sem, hNE, hperm]; first | done | exact rfl))) | ((with_reducible apply me_callGB); (focus (simp (maxDischargeDepth := 8) only [go_sem, hNE, hperm]; first | done | exact rfl)); (focus (simp (maxDischargeDepth := 8) only [go_sem, hNE, hperm]; first | done | exact rfl)); (focus (simp only [List.all_cons, List.all_nil, allocB, PV.isDef, go_sem, hNE, hperm]; first | done | exact rfl)))); refine hc _ _ ?_
  intro l1 b1
  have hN0 := And.intro hNE (fresh_ne b1)
  (have hA := And.intro hN0 (And.intro hperm (And.intro e6 (And.intro e7 (e3)))); have hP := And.intro @p100' (And.intro @p99 (True.intro)); have hNE := True.intro; have hC := True.intro; repeat' first
      | ((with_reducible apply te_drwC); (focus (simp (maxDischargeDepth := 8) only [effFlC, List.map_cons, List.map_nil]; exact rfl)); (focus decide +kernel))
      | with_reducible first | refine k_seq ?_ | refine t_seq ?_ | refine t_reg ?_ | refine t_nil ?_ | refine t_skip ?_ | refine k_blk ?_ | refine t_block ?_
      | refine ae_val ?_
      | refine ae_callS ?_
      | refine ae_gval ?_
      | refine ae_gno ?_
      | refine be_val ?_
      | (refine ae_alloc ?_; intro la ha hn1; have hNE := And.intro hNE hn1)
      | refine ae_store ?_
      | refine a_cond ?_ ?_
      | (with_reducible intro hc; with_reducible exact Bool.noConfusion hc)
      | (with_reducible intro hc; have hC := And.intro hC hc))
  rename_i lo a6 n6 x6 z1 z2 z3 z4 z5 z6 z7 z8
  have hnl : (l1 = lo) = False := by simp (maxDischargeDepth := 8) only [go_sem, hN0, hNE]
  have g45 : (l4 = l5) = False := by simp (maxDischargeDepth := 8) only [go_sem, hN0, hNE]
  have g4o : (l4 = lo) = False := by simp (maxDischargeDepth := 8) only [go_sem, hN0, hNE]
  have g5o : (l5 = lo) = False := by simp (maxDischargeDepth := 8) only [go_sem, hN0, hNE]
  have g41 : (l4 = l1) = False := by simp (maxDischargeDepth := 8) only [go_sem, hN0, hNE]
  have g51 : (l5 = l1) = False := by simp (maxDischargeDepth := 8) only [go_sem, hN0, hNE]
  (first | ((with_reducible apply te_callG); (focus (simp (maxDischargeDepth := 8) only [go_sem, hNE, hN0, hperm]; first | done | exact rfl)); (focus (simp (maxDischargeDepth := 8) only [go_sem, hNE, hN0, hperm]; first | done | exact rfl))) | ((with_reducible apply te_callGB); (focus (simp (maxDischargeDepth := 8) only [go_sem, hNE, hN0, hperm]; first | done | exact rfl)); (focus (simp (maxDischargeDepth := 8) only [go_sem, hNE, hN0, hperm]; first | done | exact rfl))) | ((with_reducible apply me_callG); (focus (simp (maxDischargeDepth := 8) only [go_sem, hNE, hN0, hperm]; first | done | exact rfl)); (focus (simp (maxDischargeDepth := 8) only [go_sem, hNE, hN0, hperm]; first | done | exact rfl)); (focus (simp only [List.all_cons, List.all_nil, allocB, PV.isDef, go_sem, hNE, hN0, hperm]; first | done | exact rfl))) | ((with_reducible apply me_callGB); (focus (simp (maxDischargeDepth := 8) only [go_sem, hNE, hN0, hperm]; first | done | exact rfl)); (focus (simp (maxDischargeDepth := 8) only [go_sem, hNE, hN0, hperm]; first | done | exact rfl)); (focus (simp only [List.all_cons, List.all_nil, allocB, PV.isDef, go_sem, hNE, hN0, hperm]; first | done | exact rfl)))); refine hg lo l1 _ (by simp (maxDischargeDepth := 8) only [go_sem, hN0, hNE, List.length_map]) (by simp (maxDischargeDepth := 8) only [go_sem, hN0, hNE]) (of_eq_false hnl) _ ?_
  intro H2 v1 w1 w2 w3
  have f4 : H2 l4 = some (.row true 7 [zU]) := w3 l4 _ (by simp (maxDischargeDepth := 8) only [go_sem, hN0, hNE]; rfl) (of_eq_false g4o) (of_eq_false g41)
  have f5 : H2 l5 = some (.row true 3 [zAn]) := w3 l5 _ (by simp (maxDischargeDepth := 8) only [go_sem, hN0, hNE]; rfl) (of_eq_false g5o) (of_eq_false g51)
  have g54 : (l5 = l4) = False := eq_false (fun e => of_eq_false g45 e.symm)
  have go4 : (lo = l4) = False := eq_false (fun e => of_eq_false g4o e.symm)
  have go5 : (lo = l5) = False := eq_false (fun e => of_eq_false g5o e.symm)
  simp only [zU, zAn] at f4 f5
  rcases w1 with ⟨r1, rfl⟩ | ⟨lr, ys, rfl, r1⟩
  · have r2 : q.1.recs = [] := by simpa using r1
    (have hA := And.intro w2 (And.intro f4 (And.intro f5 (And.intro g45 (And.intro g54 (And.intro g4o (And.intro go4 (And.intro g5o (go5)))))))); have hP := True.intro; have hNE := True.intro; have hC := True.intro; repeat' first
        | ((with_reducible apply te_drwK); (focus (simp (maxDischargeDepth := 8) only [effFl, List.map_cons, List.map_nil]; exact rfl)); (focus decide +kernel); (focus (simp (maxDischargeDepth := 8) only [go_sem, hNE, hA]; first | done | exact rfl)))
        | with_reducible first | refine k_seq ?_ | refine t_seq ?_ | refine t_ret ?_ | refine m_nil ?_
        | refine be_val ?_
        | (refine be_alloc ?_; intro la ha hn1; have hNE := And.intro hNE hn1)
        | refine be_store ?_
        | ((with_reducible apply me_storeZ); (focus (simp (maxDischargeDepth := 8) only [go_sem, hNE, hA]; first | done | exact rfl)); (focus (simp (maxDischargeDepth := 8) only [go_sem, hNE, hA]; first | done | exact rfl)); (focus (first | exact rm_sub _ _ | (intro _ _ e; cases e; done) | (repeat (first | exact rm_sub _ _ | refine upd_sub ?_ (by simp (maxDischargeDepth := 8) only [go_sem, hNE, hA])))) ); (focus (simp (maxDischargeDepth := 8) only [go_sem, hNE, hA]; first | done | exact rfl)); (focus (simp (maxDischargeDepth := 8) only [go_sem, hNE, hA]; first | done | exact rfl)); (focus (simp (maxDischargeDepth := 8) only [go_sem, hNE, hA]; first | done | exact rfl)); (focus (simp (maxDischargeDepth := 8) only [go_sem, hNE, hA]; first | done | exact rfl)); (focus (simp (maxDischargeDepth := 8) only [go_sem, hNE, hA]; first | done | exact rfl))))
    (first | apply pend rs70 | apply pendN rs70); (focus (simp (maxDischargeDepth := 8) only [hNE, go_sem, w2, f4, f5, g45, g54, g4o, go4, g5o, go5, encAn, r2]; first | done | exact rfl)); (focus (simp (maxDischargeDepth := 8) only [hNE, go_sem, w2, f4, f5, g45, g54, g4o, go4, g5o, go5, encAn, r2]; first | done | exact rfl))
  · have r2 : List.take q.1.recs.length (q.1.recs.map encS ++ ys) = q.1.recs.map encS := by
      have := List.take_left (l₁ := q.1.recs.map encS) (l₂ := ys)
      rwa [List.length_map] at this
    have r3 : (q.1.recs.length ≤ (q.1.recs.map encS ++ ys).length) = True := eq_true (by simp)
    have ge4 : (lr = l4) = False := eq_false (fun e => by rw [e, f4] at r1; cases r1)
    have ge5 : (lr = l5) = False := eq_false (fun e => by rw [e, f5] at r1; cases r1)
    (have hA := And.intro w2 (And.intro f4 (And.intro f5 (And.intro g45 (And.intro g54 (And.intro g4o (And.intro go4 (And.intro g5o (go5)))))))); have hP := True.intro; have hNE := True.intro; have hC := True.intro; repeat' first
        | ((with_reducible apply te_drwK); (focus (simp (maxDischargeDepth := 8) only [effFl, List.map_cons, List.map_nil]; exact rfl)); (focus decide +kernel); (focus (simp (maxDischargeDepth := 8) only [go_sem, hNE, hA]; first | done | exact rfl)))
        | with_reducible first | refine k_seq ?_ | refine t_seq ?_ | refine t_ret ?_ | refine m_nil ?_
        | refine be_val ?_
        | (refine be_alloc ?_; intro la ha hn1; have hNE := And.intro hNE hn1)
        | refine be_store ?_
        | ((with_reducible apply me_storeZ); (focus (simp (maxDischargeDepth := 8) only [go_sem, hNE, hA]; first | done | exact rfl)); (focus (simp (maxDischargeDepth := 8) only [go_sem, hNE, hA]; first | done | exact rfl)); (focus (first | exact rm_sub _ _ | (intro _ _ e; cases e; done) | (repeat (first | exact rm_sub _ _ | refine upd_sub ?_ (by simp (maxDischargeDepth := 8) only [go_sem, hNE, hA])))) ); (focus (simp (maxDischargeDepth := 8) only [go_sem, hNE, hA]; first | done | exact rfl)); (focus (simp (maxDischargeDepth := 8) only [go_sem, hNE, hA]; first | done | exact rfl)); (focus (simp (maxDischargeDepth := 8) only [go_sem, hNE, hA]; first | done | exact rfl)); (focus (simp (maxDischargeDepth := 8) only [go_sem, hNE, hA]; first | done | exact rfl)); (focus (simp (maxDischargeDepth := 8) only [go_sem, hNE, hA]; first | done | exact rfl))))
    (first | apply pend rs70 | apply pendN rs70); (focus (simp (maxDischargeDepth := 8) only [hNE, go_sem, ge4, ge5, w2, f4, f5, g45, g54, g4o, go4, g5o, go5, encAn, r1, r2, r3, mapM_closed7, mapM_closed6, mapM_closed5]; first | done | exact rfl)); (focus (simp (maxDischargeDepth := 8) only [hNE, go_sem, ge4, ge5, w2, f4, f5, g45, g54, g4o, go4, g5o, go5, encAn, r1, r2, r3, mapM_closed7, mapM_closed6, mapM_closed5]; first | done | exact rfl))
end Go.Proofs.Ythdgdngdfijfhaa
namespace Go.Proofs.Ythdgdngdfijfhaa
open Go.RowKit Go.Proofs
set_option linter.unusedVariables false
set_option linter.unusedSimpArgs false
attribute [local irreducible] PPure CallN Tops TopsDm T
attribute [local go_sem] cast0 in
set_option maxHeartbeats 4000000 in
theorem g102e (u : Un) (a : Ac) (hr : u.recs = []) (ht : u.there = []) (hk0 : a.kind = 0 ∨ btw a.number 1 60 = false ∨ u.width < (a.bytes.length : Int)) (la : Lab) (H : Hp) (kp : Lab → Prop)
    (hla : H la = some (.row true 7 [encO u (.list .full []) (.list .full [])])) (hkp : ∀ l, kp l → ∃ c, H l = some c) {K : PV → Hp → Prop} (hK : DirK u la kp H K (dirF u a)) :
    CallsG Try.prog 102 [.ref la 7 0 0, encAc a] H K := by
  have hO : ∀ Hx : Hp, Own2 Hx la kp (.list .full []) (u.recs.map encS) (.list .full []) (u.there.map encB) := fun Hx => .inl ⟨by simp [hr], by simp [ht], rfl, rfl⟩
  simp only [encO] at hla
  simp only [encAc]
  by_cases hb : btw a.number 1 60 = true
  · have hb1 := hb
    simp only [btw] at hb
    have hb2 := hb
    simp at hb2
    obtain ⟨i, hi⟩ : ∃ i : Nat, a.number = (i : Int) + 1 := ⟨(a.number - 1).toNat, by omega⟩
    have hw : IntKind.i64.wrap (a.number - 1) = (i : Int) := by rw [IntKind.wrap_i64]; omega
    by_cases k0 : a.kind = 0
    · have e0 : decide (a.kind = 0) = true := by simp [k0]
      have el : decide ((0 : Int) ≤ (i : Int)) = true := by simp
      have hs : dirF u a = (u, stA 3) := by
        have h3 : (u.recs.length : Int) ≤ a.number - 1 := by rw [hr, hi]; simp
        simp only [dirF, hb1, if_true, k0, h3]
      (refine callsG_of_T ok102 (by simp only [List.length_cons, List.length_nil]; decide) ?_; refine t_seq ?_)
      (have hA := And.intro hla (And.intro e0 (And.intro hb (And.intro hw (el)))); have hP := And.intro @p100' (And.intro @p58 (True.intro)); have hNE := True.intro; have hC := True.intro; repeat' first
          | with_reducible first | refine k_seq ?_ | refine t_seq ?_ | refine t_reg ?_ | refine t_nil ?_ | refine t_skip ?_ | refine t_ret ?_ | refine k_seq_ret ?_
          | refine ae_val ?_
          | refine ae_callS ?_
          | refine ae_gval ?_
          | refine ae_gno ?_
          | refine ae_box ?_
          | (refine ae_alloc ?_; intro la ha hn1; have hNE := And.intro hNE hn1)
          | refine ae_store ?_
          | refine a_cond ?_ ?_
          | (with_reducible intro hc; with_reducible exact Bool.noConfusion hc)
          | (with_reducible intro hc; have hC := And.intro hC hc))
      unfold DirK at hK
      rw [hs] at hK
      refine gend rs102 ?_ (fun _ _ h => h) (hK _ _ _ (hO _) ?_ ?_)
      · simp (maxDischargeDepth := 8) only [go_sem, hNE, encAn, stA, cast0]
        first | done | rfl
      · simp (maxDischargeDepth := 8) only [go_sem, hNE, hla, encO, cast0]
        first | done | rfl
      · intro l g1
        obtain ⟨c, g2⟩ := hkp l g1
        simp (maxDischargeDepth := 8) only [go_sem, hNE, g2, cast0]
    · have e0 : decide (a.kind = 0) = false := by simp [k0]
      have hwl : u.width < (a.bytes.length : Int) := by
        rcases hk0 with h | h | h
        · exact absurd h k0
        · rw [hb1] at h; cases h
        · exact h
      have el : decide (u.width < (a.bytes.length : Int)) = true := by simp [hwl]
      have hs : dirF u a = (u, stA 5) := by simp only [dirF, hb1, if_true, k0, if_false, hwl]
      (refine callsG_of_T ok102 (by simp only [List.length_cons, List.length_nil]; decide) ?_; refine t_seq ?_)
      (have hA := And.intro hla (And.intro e0 (And.intro hb (And.intro hw (el)))); have hP := And.intro @p100' (And.intro @p58 (True.intro)); have hNE := True.intro; have hC := True.intro; repeat' first
          | ((with_reducible apply te_drwA); (focus (simp (maxDischargeDepth := 8) only [effFlA, List.map_cons, List.map_nil]; exact rfl)); (focus decide +kernel))
          | with_reducible first | refine k_seq ?_ | refine t_seq ?_ | refine t_reg ?_ | refine t_nil ?_ | refine t_skip ?_ | refine t_ret ?_ | refine k_seq_ret ?_ | refine m_nil ?_
          | refine ae_val ?_
          | refine ae_callS ?_
          | refine be_val ?_
          | refine ae_box ?_
          | (refine ae_alloc ?_; intro la ha hn1; have hNE := And.intro hNE hn1)
          | refine ae_store ?_
          | refine a_cond ?_ ?_
          | (with_reducible intro hc; with_reducible exact Bool.noConfusion hc)
          | (with_reducible intro hc; have hC := And.intro hC hc))
      unfold DirK at hK
      rw [hs] at hK
      refine gend rs102 ?_ (fun _ _ h => h) (hK _ _ _ (hO _) ?_ ?_)
      · simp (maxDischargeDepth := 8) only [go_sem, hNE, encAn, stA, cast0]
        first | done | rfl
      · simp (maxDischargeDepth := 8) only [go_sem, hNE, hla, encO, cast0]
        first | done | rfl
      · intro l g1
        obtain ⟨c, g2⟩ := hkp l g1
        simp (maxDischargeDepth := 8) only [go_sem, hNE, g2, cast0]
  · have hs : dirF u a = (u, stA 4) := by simp only [dirF, hb, if_false]; rfl
    simp only [btw, Bool.not_eq_true] at hb
    (refine callsG_of_T ok102 (by simp only [List.length_cons, List.length_nil]; decide) ?_; refine t_seq ?_)
    (have hA := And.intro hla (hb); have hP := And.intro @p100' (And.intro @p58 (True.intro)); have hNE := True.intro; have hC := True.intro; repeat' first
        | with_reducible first | refine k_seq ?_ | refine t_seq ?_ | refine t_reg ?_ | refine t_nil ?_ | refine t_ret ?_ | refine k_seq_ret ?_
        | refine ae_val ?_
        | refine ae_callS ?_
        | refine ae_box ?_
        | (refine ae_alloc ?_; intro la ha hn1; have hNE := And.intro hNE hn1)
        | refine ae_store ?_
        | refine a_cond ?_ ?_
        | (with_reducible intro hc; with_reducible exact Bool.noConfusion hc)
        | (with_reducible intro hc; have hC := And.intro hC hc))
    unfold DirK at hK
    rw [hs] at hK
    refine gend rs102 ?_ (fun _ _ h => h) (hK _ _ _ (hO _) ?_ ?_)
    · simp (maxDischargeDepth := 8) only [go_sem, hNE, encAn, stA, cast0]
      first | done | rfl
    · simp (maxDischargeDepth := 8) only [go_sem, hNE, hla, encO, cast0]
      first | done | rfl
    · intro l g1
      obtain ⟨c, g2⟩ := hkp l g1
      simp (maxDischargeDepth := 8) only [go_sem, hNE, g2, cast0]
end Go.Proofs.Ythdgdngdfijfhaa
namespace Go.Proofs.Ythdgdngdfijfhaa
open Go.RowKit Go.Proofs
set_option linter.unusedVariables false
set_option linter.unusedSimpArgs false
attribute [local irreducible] PPure CallN Tops TopsDm T
def DirI (u : Un) (H : Hp) (kp : Lab → Prop) (lu lt : Lab) (m : Nat) (xs : List (List UInt8)) (ys : List Bool) (v1 v2 : PV) (H0 : Hp) : Prop :=
  xs.length = m ∧ ys.length = m ∧ H0 lu = some (.row true 7 [encO u v1 v2]) ∧ H0 lt = some (.row true 3 [.agg [.int .i64 0, .str [], .int .i64 0]]) ∧ (lt = lu) = False ∧ (lu = lt) = False ∧ (∀ l, kp l → H0 l = H l) ∧
  ((m = 0 ∧ v1 = .list .full [] ∧ v2 = .list .full []) ∨
   ∃ l1 l2, v1 = .arr l1 1 0 m ∧ v2 = .arr l2 1 0 m ∧ H0 l1 = some (.row true 1 (xs.map encS)) ∧ H0 l2 = some (.row true 1 (ys.map encB)) ∧
     ((l1 = l2) = False ∧ (l2 = l1) = False ∧ (l1 = lu) = False ∧ (lu = l1) = False ∧ (l2 = lu) = False ∧ (lu = l2) = False ∧ (l1 = lt) = False ∧ (lt = l1) = False ∧ (l2 = lt) = False ∧ (lt = l2) = False) ∧ ∀ l, kp l → (l = l1) = False ∧ (l = l2) = False)
theorem own2_empty {u : Un} {H : Hp} {lu : Lab} {kp : Lab → Prop} {v1 v2 : PV} (h : Own2 H lu kp v1 (u.recs.map encS) v2 (u.there.map encB)) : (u.recs = [] ∧ u.there = [] ∧ v1 = .list .full [] ∧ v2 = .list .full []) ∨
    ∃ l1 l2, v1 = .arr l1 1 0 u.recs.length ∧ v2 = .arr l2 1 0 u.there.length ∧ H l1 = some (.row true 1 (u.recs.map encS)) ∧ H l2 = some (.row true 1 (u.there.map encB)) ∧ l1 ≠ l2 ∧ l1 ≠ lu ∧ l2 ≠ lu ∧ ∀ l, kp l → l ≠ l1 ∧ l ≠ l2 := by
  rcases h with ⟨h1, h2, h3, h4⟩ | ⟨l1, l2, h1, h2, h3⟩
  · exact .inl ⟨by simpa using h1, by simpa using h2, h3, h4⟩
  · exact .inr ⟨l1, l2, by simpa using h1, by simpa using h2, h3⟩
theorem dirI_init {u : Un} {H : Hp} {kp : Lab → Prop} {lu lt : Lab} {v10 v20 : PV} (hn : u.there.length = u.recs.length) (hlt : H lt = none) (hla : H lu = some (.row true 7 [encO u v10 v20])) (hown : Own2 H lu kp v10 (u.recs.map encS) v20 (u.there.map encB)) (hkp : ∀ l, kp l → (∃ c, H l = some c) ∧ l ≠ lu) :
    DirI u H kp lu lt u.recs.length u.recs u.there v10 v20 (upd H lt (some (.row true 3 [.agg [.int .i64 0, .str [], .int .i64 0]]))) := by
  have ne : ∀ l c, H l = some c → l ≠ lt := fun l c h e => by rw [e, hlt] at h; cases h
  have n1 := ne _ _ hla
  refine ⟨rfl, hn, by rw [upd_ne _ _ n1]; exact hla, by simp, eq_false (Ne.symm n1), eq_false n1, fun l hl => upd_ne _ _ (by obtain ⟨⟨c, h⟩, _⟩ := hkp l hl; exact ne _ _ h), ?_⟩
  rcases own2_empty hown with ⟨h1, h2, h3, h4⟩ | ⟨l1, l2, h1, h2, h3, h4, h5, h6, h7, h8⟩
  · exact .inl ⟨by rw [h1]; rfl, h3, h4⟩
  · have n2 := ne _ _ h3
    have n3 := ne _ _ h4
    refine .inr ⟨l1, l2, h1, by rw [h2, hn], by rw [upd_ne _ _ n2]; exact h3, by rw [upd_ne _ _ n3]; exact h4, ⟨eq_false h5, eq_false (Ne.symm h5), eq_false h6, eq_false (Ne.symm h6), eq_false h7, eq_false (Ne.symm h7), eq_false n2, eq_false (Ne.symm n2), eq_false n3, eq_false (Ne.symm n3)⟩, fun l hl => ⟨eq_false (h8 l hl).1, eq_false (h8 l hl).2⟩⟩
theorem dirI_next {u : Un} {H H0 : Hp} {kp : Lab → Prop} {lu lt lb lc : Lab} {m : Nat} {xs : List (List UInt8)} {ys : List Bool} {v1 v2 : PV} {R1 R2 : List PV} {X1 : Option Chunk} (hI : DirI u H kp lu lt m xs ys v1 v2 H0) (hkp : ∀ l, kp l → (∃ c, H l = some c) ∧ l ≠ lu)
    (hR1 : R1 = (xs ++ [[]]).map encS) (hR2 : R2 = (ys ++ [false]).map encB) (hb : H0 lb = none ∨ v1 = .arr lb 1 0 m) (hc : upd H0 lb (some (.row true 1 R1)) lc = none ∨ v2 = .arr lc 1 0 m) :
    DirI u H kp lu lt (m + 1) (xs ++ [[]]) (ys ++ [false]) (.arr lb 1 0 (m + 1)) (.arr lc 1 0 (m + 1))
      (upd (upd (upd (upd H0 lb (some (.row true 1 R1))) lc (some (.row true 1 R2))) lu X1) lu (some (.row true 7 [encO u (.arr lb 1 0 (m + 1)) (.arr lc 1 0 (m + 1))]))) := by
  obtain ⟨q1, q2, q3, q4, q5, q6, q7, q8⟩ := hI
  have hb' : ∀ l, (∃ c, H0 l = some c) → (∀ l1 l2, v1 = .arr l1 1 0 m → v2 = .arr l2 1 0 m → l ≠ l1) → l ≠ lb := by
    rintro l ⟨c, e⟩ h2 rfl
    rcases hb with h | h
    · rw [e] at h; cases h
    · rcases q8 with ⟨_, h1, _⟩ | ⟨l1, l2, h1, h3, _⟩
      · rw [h1] at h; cases h
      · exact h2 l l2 h h3 rfl
  have hc' : ∀ l, (∃ c, H0 l = some c) → l ≠ lb → (∀ l1 l2, v1 = .arr l1 1 0 m → v2 = .arr l2 1 0 m → l ≠ l2) → l ≠ lc := by
    rintro l ⟨c, e⟩ hlb h2 rfl
    rcases hc with h | h
    · rw [upd_ne _ _ hlb, e] at h; cases h
    · rcases q8 with ⟨_, _, h1⟩ | ⟨l1, l2, h1, h3, _⟩
      · rw [h1] at h; cases h
      · exact h2 l1 l h1 h rfl
  have same : ∀ l1 l2, v1 = .arr l1 1 0 m → v2 = .arr l2 1 0 m → (l1 = l2) = False ∧ (l1 = lu) = False ∧ (l2 = lu) = False ∧ (l1 = lt) = False ∧ (l2 = lt) = False ∧ (∀ l, kp l → (l = l1) = False ∧ (l = l2) = False) ∧ (∃ c, H0 l2 = some c) := by
    intro l1 l2 e1 e2
    rcases q8 with ⟨_, h1, _⟩ | ⟨k1, k2, h1, h2, r1, r2, ⟨d1, d2, d3, d4, d5, d6, d7, d8, d9, d10⟩, r3⟩
    · rw [h1] at e1; cases e1
    · rw [h1] at e1; rw [h2] at e2
      cases e1; cases e2
      exact ⟨d1, d3, d5, d7, d9, r3, _, r2⟩
  have nub : lu ≠ lb := hb' lu ⟨_, q3⟩ (fun l1 l2 e1 e2 e => (same l1 l2 e1 e2).2.1 ▸ e.symm)
  have ntb : lt ≠ lb := hb' lt ⟨_, q4⟩ (fun l1 l2 e1 e2 e => (same l1 l2 e1 e2).2.2.2.1 ▸ e.symm)
  have nuc : lu ≠ lc := hc' lu ⟨_, q3⟩ nub (fun l1 l2 e1 e2 e => (same l1 l2 e1 e2).2.2.1 ▸ e.symm)
  have ntc : lt ≠ lc := hc' lt ⟨_, q4⟩ ntb (fun l1 l2 e1 e2 e => (same l1 l2 e1 e2).2.2.2.2.1 ▸ e.symm)
  have nbc : lb ≠ lc := by
    intro e
    rcases hc with h | h
    · rw [e, upd_same] at h; cases h
    · rcases hb with h' | h'
      · rcases q8 with ⟨_, _, h1⟩ | ⟨k1, k2, h1, h2, r1, r2, _⟩
        · rw [h1] at h; cases h
        · rw [h2] at h; cases h; rw [← e, h'] at r2; cases r2
      · have := (same lb lc h' h).1; rw [e] at this; simp at this
  have kpb : ∀ l, kp l → l ≠ lb := fun l hl => hb' l (by obtain ⟨⟨c, hc⟩, _⟩ := hkp l hl; exact ⟨c, by rw [q7 l hl]; exact hc⟩) (fun l1 l2 e1 e2 e => ((same l1 l2 e1 e2).2.2.2.2.2.1 l hl).1 ▸ e)
  have kpc : ∀ l, kp l → l ≠ lc := fun l hl => hc' l (by obtain ⟨⟨c, hc⟩, _⟩ := hkp l hl; exact ⟨c, by rw [q7 l hl]; exact hc⟩) (kpb l hl) (fun l1 l2 e1 e2 e => ((same l1 l2 e1 e2).2.2.2.2.2.1 l hl).2 ▸ e)
  have ntu : lt ≠ lu := fun e => by rw [e] at q5; simp at q5
  rw [upd_twice]
  refine ⟨by simp [q1], by simp [q2], by simp, by rw [upd_ne _ _ ntu, upd_ne _ _ ntc, upd_ne _ _ ntb]; exact q4, q5, q6, fun l hl => by rw [upd_ne _ _ (hkp l hl).2, upd_ne _ _ (kpc l hl), upd_ne _ _ (kpb l hl)]; exact q7 l hl, .inr ⟨lb, lc, rfl, rfl, ?_, ?_, ?_, fun l hl => ⟨eq_false (kpb l hl), eq_false (kpc l hl)⟩⟩⟩
  · rw [upd_ne _ _ (Ne.symm nub), upd_ne _ _ nbc, upd_same, hR1]
  · rw [upd_ne _ _ (Ne.symm nuc), upd_same, hR2]
  · exact ⟨eq_false nbc, eq_false (Ne.symm nbc), eq_false (Ne.symm nub), eq_false nub, eq_false (Ne.symm nuc), eq_false nuc, eq_false (Ne.symm ntb), eq_false ntb, eq_false (Ne.symm ntc), eq_false ntc⟩
attribute [local go_sem] cast0 encS encB Int.toNat_natCast List.getElem?_map Option.map_some in
set_option maxHeartbeats 4000000 in
theorem g102w (u : Un) (a : Ac) (i : Nat) (hi : a.number = (i : Int) + 1) (hi6 : i < 60) (hn : u.there.length = u.recs.length) (hl : u.recs.length ≤ 60) (hkd : ¬ a.kind = 0) (hw0 : (a.bytes.length : Int) ≤ u.width) (hw2 : u.width ≤ 200) (lu : Lab) (H : Hp) (kp : Lab → Prop) (v10 v20 : PV)
    (hla : H lu = some (.row true 7 [encO u v10 v20])) (hown : Own2 H lu kp v10 (u.recs.map encS) v20 (u.there.map encB)) (hkp : ∀ l, kp l → (∃ c, H l = some c) ∧ l ≠ lu) {K : PV → Hp → Prop} (hK : DirK u lu kp H K (dirF u a)) :
    CallsG Try.prog 102 [.ref lu 7 0 0, encAc a] H K := by
  simp only [encAc, hi]
  have hb : (decide ((1 : Int) ≤ (i : Int) + 1) && decide ((i : Int) + 1 ≤ 60)) = true := by simp; omega
  have hw : IntKind.i64.wrap ((i : Int) + 1 - 1) = (i : Int) := by rw [IntKind.wrap_i64]; omega
  have hge : (0 : Int) ≤ (i : Int) := by omega
  have e0 : decide (a.kind = 0) = false := by simp [hkd]
  have el : decide (u.width < (a.bytes.length : Int)) = false := by simp; omega
  simp only [encO] at hla
  (refine callsG_of_T ok102 (by simp only [List.length_cons, List.length_nil]; decide) ?_; refine t_seq ?_)
  (have hA := And.intro hla (And.intro e0 (And.intro hb (And.intro hw (el)))); have hP := And.intro @p100' (And.intro @p58 (True.intro)); have hNE := True.intro; have hC := True.intro; repeat' first
      | ((with_reducible apply te_drwA); (focus (simp (maxDischargeDepth := 8) only [effFlA, List.map_cons, List.map_nil]; exact rfl)); (focus decide +kernel))
      | with_reducible first | refine k_seq ?_ | refine t_seq ?_ | refine t_reg ?_ | refine t_nil ?_ | refine t_skip ?_ | refine t_block ?_ | refine m_nil ?_
      | refine ae_val ?_
      | refine ae_callS ?_
      | refine be_val ?_
      | refine ae_box ?_
      | (refine ae_alloc ?_; intro la ha hn1; have hNE := And.intro hNE hn1)
      | refine a_cond ?_ ?_
      | (with_reducible intro hc; with_reducible exact Bool.noConfusion hc)
      | (with_reducible intro hc; have hC := And.intro hC hc))
  obtain ⟨lt, hlt⟩ : ∃ l, l = la := ⟨la, rfl⟩
  subst hlt
  refine t_loopE (fun (k0 : Nat) (E0 : Nat → PV) (H0 : Hp) => ∃ (m : Nat) (xs : List (List UInt8)) (ys : List Bool) (v1 : PV) (v2 : PV), k0 = (i + 1) - m ∧ (m ≤ max u.recs.length (i + 1) ∧ u.recs.length ≤ m) ∧ (xs = u.recs ++ List.replicate (m - u.recs.length) [] ∧ ys = u.there ++ List.replicate (m - u.recs.length) false) ∧ DirI u H kp lu lt m xs ys v1 v2 H0) ((i + 1) - u.recs.length) ⟨u.recs.length, u.recs, u.there, v10, v20, (by first | omega | rfl | assumption | (simp only [go_sem, cast0]; first | done | rfl | assumption | omega)), (by first | omega | rfl | assumption | (simp only [go_sem, cast0]; first | done | rfl | assumption | omega)), ?_, ?_⟩ ?_
  · simp
  · exact dirI_init hn ha hla hown hkp
  rintro k0 E0 H0 hfr0 ⟨m, xs, ys, v1, v2, hk, hm, hx1, hI⟩
  have e0_0 := hfr0 0 rfl; have e0_3 := hfr0 3 rfl; have e0_4 := hfr0 4 rfl; have e0_5 := hfr0 5 rfl
  simp only [go_sem, cast0] at e0_0 e0_3 e0_4 e0_5
  clear hfr0
  clear hNE hn1
  have hI' := hI
  obtain ⟨q1, q2, q3, q4, q5, q6, q7, q8⟩ := hI
  simp only [encO] at q3
  by_cases him : m ≤ i
  · have em : decide ((m : Int) ≤ (i : Int)) = true := by simp; omega
    rcases q8 with ⟨m0, rfl, rfl⟩ | ⟨l1, l2, rfl, rfl, r1, r2, ⟨d1, d2, d3, d4, d5, d6, d7, d8, d9, d10⟩, r3⟩
    · subst m0
      (have hA := And.intro e0_0 (And.intro e0_3 (And.intro e0_4 (And.intro e0_5 (And.intro q3 (And.intro q4 (And.intro q5 (And.intro q6 (em)))))))); have hP := True.intro; have hNE := True.intro; have hC := True.intro; repeat' first
          | ((with_reducible apply te_drwE); (focus (simp (maxDischargeDepth := 8) only [effFl, List.map_cons, List.map_nil]; exact rfl)); (focus decide +kernel))
          | with_reducible first | refine k_seq ?_ | refine t_seq ?_ | refine t_reg ?_ | refine t_nil ?_ | refine t_skip ?_ | refine k_blk ?_ | refine t_block ?_ | refine m_nil ?_
          | refine ae_val ?_
          | refine be_val ?_
          | ((with_reducible apply me_appendU); (with_reducible exact app_22; with_reducible exact c_9); (focus (simp (maxDischargeDepth := 8) only [go_sem, hNE, hA]; first | done | exact rfl)); (focus (simp (maxDischargeDepth := 8) only [go_sem, hNE, hA]; first | done | exact rfl)); exact rfl; (focus (first | exact rfl | (simp (maxDischargeDepth := 8) only [go_sem, hNE, hA]; done))); (focus (simp (maxDischargeDepth := 8) only [go_sem, hNE, hA]; done)); (focus (simp (maxDischargeDepth := 8) only [go_sem, hNE, hA]; done)); (focus (simp (maxDischargeDepth := 8) only [go_sem, hNE, hA, roomB, List.length_take, List.length_append]; first | done | omega)); (intro la ha hn1; have hNE := And.intro hNE hn1))
          | ((with_reducible apply me_appendU); (with_reducible exact app_23; with_reducible exact c_4); (focus (simp (maxDischargeDepth := 8) only [go_sem, hNE, hA]; first | done | exact rfl)); (focus (simp (maxDischargeDepth := 8) only [go_sem, hNE, hA]; first | done | exact rfl)); exact rfl; (focus (first | exact rfl | (simp (maxDischargeDepth := 8) only [go_sem, hNE, hA]; done))); (focus (simp (maxDischargeDepth := 8) only [go_sem, hNE, hA]; done)); (focus (simp (maxDischargeDepth := 8) only [go_sem, hNE, hA]; done)); (focus (simp (maxDischargeDepth := 8) only [go_sem, hNE, hA, roomB, List.length_take, List.length_append]; first | done | omega)); (intro la ha hn1; have hNE := And.intro hNE hn1))
          | refine be_store ?_
          | refine a_cond ?_ ?_
          | (with_reducible intro hc; with_reducible exact Bool.noConfusion hc)
          | (with_reducible intro hc; have hC := And.intro hC hc))
      rename_i lb a1 n1 e1
      obtain rfl : xs = [] := List.eq_nil_of_length_eq_zero q1
      obtain rfl : ys = [] := List.eq_nil_of_length_eq_zero q2
      refine k_invE (k0 - 1) (by omega) ⟨0 + 1, [] ++ [[]], [] ++ [false], .arr lb 1 0 (0 + 1), .arr la 1 0 (0 + 1), (by omega), (by omega), ?_, ?_⟩
      · have h0 : u.recs = [] := List.eq_nil_of_length_eq_zero (by omega)
        have h1 : u.there = [] := List.eq_nil_of_length_eq_zero (by rw [hn, h0]; rfl)
        rw [h0, h1]; simp
      · exact dirI_next hI' hkp rfl rfl (.inl a1) (.inl ha)
    · have t1 : List.take m (xs.map encS) = xs.map encS := by rw [List.take_of_length_le (by simp [q1])]
      have t2 : List.take m (ys.map encB) = ys.map encB := by rw [List.take_of_length_le (by simp [q2])]
      (have hA := And.intro e0_0 (And.intro e0_3 (And.intro e0_4 (And.intro e0_5 (And.intro q1 (And.intro q2 (And.intro q3 (And.intro q4 (And.intro q5 (And.intro q6 (And.intro r1 (And.intro r2 (And.intro d1 (And.intro d2 (And.intro d3 (And.intro d4 (And.intro d5 (And.intro d6 (And.intro d7 (And.intro d8 (And.intro d9 (And.intro d10 (em)))))))))))))))))))))); have hP := True.intro; have hNE := True.intro; have hC := True.intro; repeat' first
          | ((with_reducible apply te_drwH l1 l2); (focus (simp (maxDischargeDepth := 8) only [effFl, List.map_cons, List.map_nil]; exact rfl)); (focus decide +kernel))
          | with_reducible first | refine k_seq ?_ | refine t_seq ?_ | refine t_reg ?_ | refine t_nil ?_ | refine t_skip ?_ | refine k_blk ?_ | refine t_block ?_ | refine m_nil ?_
          | refine ae_val ?_
          | refine be_val ?_
          | ((with_reducible apply me_appendQ); (with_reducible exact app_22; with_reducible exact c_9); (focus (simp (maxDischargeDepth := 8) only [go_sem, hNE, hA]; first | done | exact rfl)); (focus (simp (maxDischargeDepth := 8) only [go_sem, hNE, hA]; first | done | exact rfl)); (focus (simp (maxDischargeDepth := 8) only [go_sem, hNE, hA]; first | done | exact rfl)); (focus (simp (maxDischargeDepth := 8) only [go_sem, hNE, hA, roomB, List.length_take, List.length_append]; first | done | omega)); (focus (simp (maxDischargeDepth := 8) only [go_sem, hNE, hA]; first | done | exact rfl)); (focus (simp (maxDischargeDepth := 8) only [go_sem, hNE, hA]; done)); (focus (simp (maxDischargeDepth := 8) only [go_sem, hNE, hA, roomB, List.length_take, List.length_append]; first | done | omega)); (intro la ha; have hn1 := or_ne ha; have hNE := And.intro hNE hn1))
          | ((with_reducible apply me_appendQ); (with_reducible exact app_23; with_reducible exact c_4); (focus (simp (maxDischargeDepth := 8) only [go_sem, hNE, hA]; first | done | exact rfl)); (focus (simp (maxDischargeDepth := 8) only [go_sem, hNE, hA]; first | done | exact rfl)); (focus (simp (maxDischargeDepth := 8) only [go_sem, hNE, hA]; first | done | exact rfl)); (focus (simp (maxDischargeDepth := 8) only [go_sem, hNE, hA, roomB, List.length_take, List.length_append]; first | done | omega)); (focus (simp (maxDischargeDepth := 8) only [go_sem, hNE, hA]; first | done | exact rfl)); (focus (simp (maxDischargeDepth := 8) only [go_sem, hNE, hA]; done)); (focus (simp (maxDischargeDepth := 8) only [go_sem, hNE, hA, roomB, List.length_take, List.length_append]; first | done | omega)); (intro la ha; have hn1 := or_ne ha; have hNE := And.intro hNE hn1))
          | refine be_store ?_
          | refine a_cond ?_ ?_
          | (with_reducible intro hc; with_reducible exact Bool.noConfusion hc)
          | (with_reducible intro hc; have hC := And.intro hC hc))
      rename_i lb hor1 n1 e1
      refine k_invE (k0 - 1) (by omega) ⟨m + 1, xs ++ [[]], ys ++ [false], .arr lb 1 0 (m + 1), .arr la 1 0 (m + 1), (by omega), (by omega), ?_, ?_⟩
      · rw [hx1.1, hx1.2, show m + 1 - u.recs.length = (m - u.recs.length) + 1 by omega, List.replicate_succ', List.replicate_succ', List.append_assoc, List.append_assoc]
        exact ⟨rfl, rfl⟩
      · exact dirI_next hI' hkp (by rw [t1]; simp [encS]) (by rw [t2]; simp [encB]) (hor1.imp id (fun e => by rw [e])) (ha.imp id (fun e => by rw [e]))
  · have em : decide ((m : Int) ≤ (i : Int)) = false := by simp; omega
    have hmv : m = max u.recs.length (i + 1) := by omega
    rcases q8 with ⟨m0, _⟩ | ⟨l1, l2, rfl, rfl, r1, r2, ⟨d1, d2, d3, d4, d5, d6, d7, d8, d9, d10⟩, r3⟩
    · omega
    have hlt : (i : Int) < (m : Int) := by omega
    obtain ⟨wn, hwn⟩ : ∃ wn : Nat, u.width = (wn : Int) := ⟨u.width.toNat, by omega⟩
    obtain ⟨sp, hsp⟩ : ∃ sp : Nat, wn = a.bytes.length + sp := ⟨wn - a.bytes.length, by omega⟩
    have hw3 : IntKind.i64.wrap (u.width - (a.bytes.length : Int)) = (sp : Int) := by rw [IntKind.wrap_i64]; omega
    have hp := p108 32 sp (by omega)
    obtain ⟨ox, hox⟩ : ∃ x, xs[i]? = some x := ⟨_, List.getElem?_eq_getElem (by omega)⟩
    obtain ⟨ot, hot⟩ : ∃ x, ys[i]? = some x := ⟨_, List.getElem?_eq_getElem (by omega)⟩
    have hs1 : (((a.bytes.length + sp : Nat) : Int) ≤ 9223372036854775807) = True := eq_true (by omega)
    (have hA := And.intro e0_0 (And.intro e0_3 (And.intro e0_4 (And.intro e0_5 (And.intro q1 (And.intro q2 (And.intro q3 (And.intro q4 (And.intro q5 (And.intro q6 (And.intro r1 (And.intro r2 (And.intro d1 (And.intro d2 (And.intro d3 (And.intro d4 (And.intro d5 (And.intro d6 (And.intro d7 (And.intro d8 (And.intro d9 (And.intro d10 (And.intro em (And.intro hlt (And.intro hge (And.intro hw3 (And.intro hs1 (And.intro hox (hot)))))))))))))))))))))))))))); have hP := And.intro hp (And.intro @p100' (True.intro)); have hNE := True.intro; have hC := True.intro; repeat' first
        | ((with_reducible apply te_drwA); (focus (simp (maxDischargeDepth := 8) only [effFlA, List.map_cons, List.map_nil]; exact rfl)); (focus decide +kernel))
        | with_reducible first | refine k_seq ?_ | refine t_seq ?_ | refine t_reg ?_ | refine t_nil ?_ | refine t_ret ?_ | refine t_exit ?_ | refine k_seq_exit ?_ | refine k_blk_exit ?_ | refine k_invE_exit ?_ | refine m_nil ?_
        | refine ae_val ?_
        | refine ae_callS ?_
        | refine be_val ?_
        | refine be_callS ?_
        | refine ae_store ?_
        | refine be_store ?_
        | refine a_cond ?_ ?_
        | (with_reducible intro hc; with_reducible exact Bool.noConfusion hc)
        | (with_reducible intro hc; have hC := And.intro hC hc))
    have hm2 : a.number.toNat - u.recs.length = m - u.recs.length := by omega
    have hs : dirF u a = ({ u with recs := xs.set i (a.bytes ++ List.replicate sp 32), there := ys.set i true }, stA 0) := by
      have hbt : btw a.number 1 60 = true := by simp [btw]; omega
      have h3 : ¬ u.width < (a.bytes.length : Int) := by omega
      have h4 : (u.width - (a.bytes.length : Int)).toNat = sp := by omega
      have h5 : (a.number - 1).toNat = i := by omega
      simp only [dirF, hbt, if_true, hkd, if_false, h3, h4, h5, hn, hm2, hx1.1, hx1.2]
    unfold DirK at hK
    rw [hs] at hK
    have hO : ∀ Hx : Hp, Hx l1 = some (.row true 1 ((xs.map encS).set i (.str (a.bytes ++ List.replicate sp 32)))) → Hx l2 = some (.row true 1 ((ys.map encB).set i (.bool true))) →
        Own2 Hx lu kp (.arr l1 1 0 m) ((xs.set i (a.bytes ++ List.replicate sp 32)).map encS) (.arr l2 1 0 m) ((ys.set i true).map encB) := fun Hx h1 h2 =>
      .inr ⟨l1, l2, by simp [q1], by simp [q2], by rw [h1, List.map_set]; rfl, by rw [h2, List.map_set]; rfl, of_eq_false d1, of_eq_false d3, of_eq_false d5, fun l hl => ⟨of_eq_false (r3 l hl).1, of_eq_false (r3 l hl).2⟩⟩
    refine gend rs102 ?_ (fun _ _ h => h) (hK _ _ _ (hO _ ?_ ?_) ?_ ?_)
    · simp (maxDischargeDepth := 8) only [go_sem, hNE, encAn, stA, cast0, e0_4]
      first | done | rfl
    · simp (maxDischargeDepth := 8) only [go_sem, hNE, r1, r2, d1, d2, d3, d4, d5, d6, d7, d8, d9, d10, setC]
    · simp (maxDischargeDepth := 8) only [go_sem, hNE, r1, r2, d1, d2, d3, d4, d5, d6, d7, d8, d9, d10, setC]
    · simp (maxDischargeDepth := 8) only [go_sem, hNE, q3, q5, q6, encO, r1, r2, d1, d2, d3, d4, d5, d6, d7, d8, d9, d10, setC]
      first | done | rfl
    · intro l g1
      obtain ⟨⟨c, g2⟩, g3⟩ := hkp l g1
      have g4 := q7 l g1
      have g5 : (l = lt) = False := eq_false (fun e => by rw [e, q4, ← e, g2] at g4; rw [e] at g2; rw [ha] at g2; cases g2)
      simp (maxDischargeDepth := 8) only [go_sem, hNE, g4, g5, (r3 l g1).1, (r3 l g1).2, eq_false g3]
end Go.Proofs.Ythdgdngdfijfhaa
