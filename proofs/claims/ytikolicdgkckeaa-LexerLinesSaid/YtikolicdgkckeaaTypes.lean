/- Facts on the types of this seat's program, for the abstract machine. Printed by gen_types.py. -/
import Derived.Test.YtikolicdgkckeaaRows
import Derived.Test.YtikolicdgkckeaaMachU
namespace Go.Proofs.Ytikolicdgkckeaa
set_option linter.unusedVariables false
set_option linter.unusedSimpArgs false
set_option maxRecDepth 100000
theorem tyR2 : rowT Try.prog 2 = some false := by kernel_rfl
theorem tyS2 : szT Try.prog 2 = some 1 := by kernel_rfl
theorem tyZ2 : zT Try.prog 2 = some [.int .i64 0] := by kernel_rfl
theorem tyU2 : Try.prog.underlying 2 = some (.int .i64) := by kernel_rfl
theorem tyR3 : rowT Try.prog 3 = some false := by kernel_rfl
theorem tyS3 : szT Try.prog 3 = some 1 := by kernel_rfl
theorem tyZ3 : zT Try.prog 3 = some [.int .i64 0] := by kernel_rfl
theorem tyU3 : Try.prog.underlying 3 = some (.int .i64) := by kernel_rfl
theorem tyR4 : rowT Try.prog 4 = some false := by kernel_rfl
theorem tyS4 : szT Try.prog 4 = some 1 := by kernel_rfl
theorem tyZ4 : zT Try.prog 4 = some [.bool false] := by kernel_rfl
theorem tyU4 : Try.prog.underlying 4 = some .bool := by kernel_rfl
theorem tyR5 : rowT Try.prog 5 = some false := by kernel_rfl
theorem tyS5 : szT Try.prog 5 = some 1 := by kernel_rfl
theorem tyZ5 : zT Try.prog 5 = some [.int .u8 0] := by kernel_rfl
theorem tyU5 : Try.prog.underlying 5 = some (.int .u8) := by kernel_rfl
theorem tyR7 : rowT Try.prog 7 = some true := by kernel_rfl
theorem tyS7 : szT Try.prog 7 = some 4 := by kernel_rfl
theorem tyZ7 : zT Try.prog 7 = some [.int .i64 0, .int .i64 0, .bool false, .int .u8 0] := by kernel_rfl
theorem tyF7_0 : fldT Try.prog 7 0 = some (0, 2) := by kernel_rfl
theorem tyF7_1 : fldT Try.prog 7 1 = some (1, 3) := by kernel_rfl
theorem tyF7_2 : fldT Try.prog 7 2 = some (2, 4) := by kernel_rfl
theorem tyF7_3 : fldT Try.prog 7 3 = some (3, 6) := by kernel_rfl
theorem tyB7 : bldT Try.prog 7 = some ([.int .i64 0, .int .i64 0, .bool false, .int .u8 0], [(0, 1), (1, 1), (2, 1), (3, 1)]) := by kernel_rfl
theorem tyR9 : rowT Try.prog 9 = some false := by kernel_rfl
theorem tyS9 : szT Try.prog 9 = some 1 := by kernel_rfl
theorem tyZ9 : zT Try.prog 9 = some [.string ⟨#[]⟩] := by kernel_rfl
theorem tyU9 : Try.prog.underlying 9 = some .string := by kernel_rfl
theorem tyR12 : rowT Try.prog 12 = some false := by kernel_rfl
theorem tyS12 : szT Try.prog 12 = some 1 := by kernel_rfl
theorem tyZ12 : zT Try.prog 12 = some [.int .u64 0] := by kernel_rfl
theorem tyU12 : Try.prog.underlying 12 = some (.int .u64) := by kernel_rfl
theorem tyR13 : rowT Try.prog 13 = some true := by kernel_rfl
theorem tyS13 : szT Try.prog 13 = some 2 := by kernel_rfl
theorem tyZ13 : zT Try.prog 13 = some [.string ⟨#[]⟩, .int .u64 0] := by kernel_rfl
theorem tyF13_0 : fldT Try.prog 13 0 = some (0, 9) := by kernel_rfl
theorem tyF13_1 : fldT Try.prog 13 1 = some (1, 12) := by kernel_rfl
theorem tyB13 : bldT Try.prog 13 = some ([.string ⟨#[]⟩, .int .u64 0], [(0, 1), (1, 1)]) := by kernel_rfl
theorem tyR15 : rowT Try.prog 15 = some false := by kernel_rfl
theorem tyS15 : szT Try.prog 15 = some 1 := by kernel_rfl
theorem tyZ15 : zT Try.prog 15 = some [.pointer none] := by kernel_rfl
theorem tyR16 : rowT Try.prog 16 = some false := by kernel_rfl
theorem tyS16 : szT Try.prog 16 = some 1 := by kernel_rfl
theorem tyZ16 : zT Try.prog 16 = some [.pointer none] := by kernel_rfl
theorem tyR17 : rowT Try.prog 17 = some false := by kernel_rfl
theorem tyS17 : szT Try.prog 17 = some 1 := by kernel_rfl
theorem tyZ17 : zT Try.prog 17 = some [.pointer none] := by kernel_rfl
theorem tyR18 : rowT Try.prog 18 = some true := by kernel_rfl
theorem tyS18 : szT Try.prog 18 = some 1 := by kernel_rfl
theorem tyZ18 : zT Try.prog 18 = some [.pointer none] := by kernel_rfl
theorem tyF18_0 : fldT Try.prog 18 0 = some (0, 17) := by kernel_rfl
theorem tyB18 : bldT Try.prog 18 = some ([.pointer none], [(0, 1)]) := by kernel_rfl
theorem tyR21 : rowT Try.prog 21 = some false := by kernel_rfl
theorem tyS21 : szT Try.prog 21 = some 1 := by kernel_rfl
theorem tyZ21 : zT Try.prog 21 = some [.int .i32 0] := by kernel_rfl
theorem tyU21 : Try.prog.underlying 21 = some (.int .i32) := by kernel_rfl
theorem tyR26 : rowT Try.prog 26 = some false := by kernel_rfl
theorem tyS26 : szT Try.prog 26 = some 1 := by kernel_rfl
theorem tyZ26 : zT Try.prog 26 = some [.int .i64 0] := by kernel_rfl
theorem tyU26 : Try.prog.underlying 26 = some (.int .i64) := by kernel_rfl
theorem tyR31 : rowT Try.prog 31 = some true := by kernel_rfl
theorem tyS31 : szT Try.prog 31 = some 4 := by kernel_rfl
theorem tyZ31 : zT Try.prog 31 = some [.int .i64 0, .int .i64 0, .int .i64 0, .string ⟨#[]⟩] := by kernel_rfl
theorem tyF31_0 : fldT Try.prog 31 0 = some (0, 3) := by kernel_rfl
theorem tyF31_1 : fldT Try.prog 31 1 = some (1, 3) := by kernel_rfl
theorem tyF31_2 : fldT Try.prog 31 2 = some (2, 3) := by kernel_rfl
theorem tyF31_3 : fldT Try.prog 31 3 = some (3, 9) := by kernel_rfl
theorem tyB31 : bldT Try.prog 31 = some ([.int .i64 0, .int .i64 0, .int .i64 0, .string ⟨#[]⟩], [(0, 1), (1, 1), (2, 1), (3, 1)]) := by kernel_rfl
theorem tyR32 : rowT Try.prog 32 = some true := by kernel_rfl
theorem tyS32 : szT Try.prog 32 = some 4 := by kernel_rfl
theorem tyZ32 : zT Try.prog 32 = some [.int .i64 0, .int .i64 0, .int .i64 0, .string ⟨#[]⟩] := by kernel_rfl
theorem tyF32_0 : fldT Try.prog 32 0 = some (0, 3) := by kernel_rfl
theorem tyF32_1 : fldT Try.prog 32 1 = some (1, 3) := by kernel_rfl
theorem tyF32_2 : fldT Try.prog 32 2 = some (2, 3) := by kernel_rfl
theorem tyF32_3 : fldT Try.prog 32 3 = some (3, 9) := by kernel_rfl
theorem tyB32 : bldT Try.prog 32 = some ([.int .i64 0, .int .i64 0, .int .i64 0, .string ⟨#[]⟩], [(0, 1), (1, 1), (2, 1), (3, 1)]) := by kernel_rfl
theorem tyR37 : rowT Try.prog 37 = some false := by kernel_rfl
theorem tyS37 : szT Try.prog 37 = some 1 := by kernel_rfl
theorem tyZ37 : zT Try.prog 37 = some [.slice none 0 0] := by kernel_rfl
theorem tyE37 : elT Try.prog 37 = some (32, 4, 40) := by kernel_rfl
theorem tyL37 : isSlT Try.prog 37 = true := by kernel_rfl
theorem tyR48 : rowT Try.prog 48 = some true := by kernel_rfl
theorem tyS48 : szT Try.prog 48 = some 2 := by kernel_rfl
theorem tyZ48 : zT Try.prog 48 = some [.bool false, .bool false] := by kernel_rfl
theorem tyF48_0 : fldT Try.prog 48 0 = some (0, 4) := by kernel_rfl
theorem tyF48_1 : fldT Try.prog 48 1 = some (1, 4) := by kernel_rfl
theorem tyB48 : bldT Try.prog 48 = some ([.bool false, .bool false], [(0, 1), (1, 1)]) := by kernel_rfl
theorem tyR49 : rowT Try.prog 49 = some true := by kernel_rfl
theorem tyS49 : szT Try.prog 49 = some 2 := by kernel_rfl
theorem tyZ49 : zT Try.prog 49 = some [.bool false, .bool false] := by kernel_rfl
theorem tyF49_0 : fldT Try.prog 49 0 = some (0, 4) := by kernel_rfl
theorem tyF49_1 : fldT Try.prog 49 1 = some (1, 4) := by kernel_rfl
theorem tyB49 : bldT Try.prog 49 = some ([.bool false, .bool false], [(0, 1), (1, 1)]) := by kernel_rfl
theorem tyR55 : rowT Try.prog 55 = some true := by kernel_rfl
theorem tyS55 : szT Try.prog 55 = some 4 := by kernel_rfl
theorem tyZ55 : zT Try.prog 55 = some [.pointer none, .pointer none, .pointer none, .string ⟨#[]⟩] := by kernel_rfl
theorem tyF55_0 : fldT Try.prog 55 0 = some (0, 17) := by kernel_rfl
theorem tyF55_1 : fldT Try.prog 55 1 = some (1, 17) := by kernel_rfl
theorem tyF55_2 : fldT Try.prog 55 2 = some (2, 17) := by kernel_rfl
theorem tyF55_3 : fldT Try.prog 55 3 = some (3, 9) := by kernel_rfl
theorem tyB55 : bldT Try.prog 55 = some ([.pointer none, .pointer none, .pointer none, .string ⟨#[]⟩], [(0, 1), (1, 1), (2, 1), (3, 1)]) := by kernel_rfl
theorem tyR57 : rowT Try.prog 57 = some true := by kernel_rfl
theorem tyS57 : szT Try.prog 57 = some 0 := by kernel_rfl
theorem tyZ57 : zT Try.prog 57 = some [] := by kernel_rfl
theorem tyA57 : arT Try.prog 57 = some (0, 16, 1) := by kernel_rfl
theorem tyR58 : rowT Try.prog 58 = some true := by kernel_rfl
theorem tyS58 : szT Try.prog 58 = some 0 := by kernel_rfl
theorem tyZ58 : zT Try.prog 58 = some [] := by kernel_rfl
theorem tyR61 : rowT Try.prog 61 = some false := by kernel_rfl
theorem tyS61 : szT Try.prog 61 = some 1 := by kernel_rfl
theorem tyZ61 : zT Try.prog 61 = some [.int .u32 0] := by kernel_rfl
theorem tyU61 : Try.prog.underlying 61 = some (.int .u32) := by kernel_rfl
theorem tyR65 : rowT Try.prog 65 = some false := by kernel_rfl
theorem tyS65 : szT Try.prog 65 = some 1 := by kernel_rfl
theorem tyZ65 : zT Try.prog 65 = some [.pointer none] := by kernel_rfl
theorem tyR68 : rowT Try.prog 68 = some true := by kernel_rfl
theorem tyS68 : szT Try.prog 68 = some 11 := by kernel_rfl
theorem tyZ68 : zT Try.prog 68 = some [.int .u64 0, .int .u64 0, .int .u32 0, .int .u8 0, .int .u8 0, .int .u8 0, .int .u8 0, .nilFunc, .pointer none, .int .i32 0, .int .i32 0] := by kernel_rfl
theorem tyF68_0 : fldT Try.prog 68 0 = some (0, 12) := by kernel_rfl
theorem tyF68_1 : fldT Try.prog 68 1 = some (1, 12) := by kernel_rfl
theorem tyF68_2 : fldT Try.prog 68 2 = some (2, 61) := by kernel_rfl
theorem tyF68_3 : fldT Try.prog 68 3 = some (3, 62) := by kernel_rfl
theorem tyF68_4 : fldT Try.prog 68 4 = some (4, 5) := by kernel_rfl
theorem tyF68_5 : fldT Try.prog 68 5 = some (5, 5) := by kernel_rfl
theorem tyF68_6 : fldT Try.prog 68 6 = some (6, 63) := by kernel_rfl
theorem tyF68_7 : fldT Try.prog 68 7 = some (7, 64) := by kernel_rfl
theorem tyF68_8 : fldT Try.prog 68 8 = some (8, 65) := by kernel_rfl
theorem tyF68_9 : fldT Try.prog 68 9 = some (9, 66) := by kernel_rfl
theorem tyF68_10 : fldT Try.prog 68 10 = some (10, 67) := by kernel_rfl
theorem tyB68 : bldT Try.prog 68 = some ([.int .u64 0, .int .u64 0, .int .u32 0, .int .u8 0, .int .u8 0, .int .u8 0, .int .u8 0, .nilFunc, .pointer none, .int .i32 0, .int .i32 0], [(0, 1), (1, 1), (2, 1), (3, 1), (4, 1), (5, 1), (6, 1), (7, 1), (8, 1), (9, 1), (10, 1)]) := by kernel_rfl
attribute [go_sem] tyR2 tyS2 tyZ2 tyU2 tyR3 tyS3 tyZ3 tyU3 tyR4 tyS4 tyZ4 tyU4 tyR5 tyS5 tyZ5 tyU5 tyR7 tyS7 tyZ7 tyF7_0 tyF7_1 tyF7_2 tyF7_3 tyB7 tyR9 tyS9 tyZ9 tyU9 tyR12 tyS12 tyZ12 tyU12 tyR13 tyS13 tyZ13 tyF13_0 tyF13_1 tyB13 tyR15 tyS15 tyZ15 tyR16 tyS16 tyZ16 tyR17 tyS17 tyZ17 tyR18 tyS18 tyZ18 tyF18_0 tyB18 tyR21 tyS21 tyZ21 tyU21 tyR26 tyS26 tyZ26 tyU26 tyR31 tyS31 tyZ31 tyF31_0 tyF31_1 tyF31_2 tyF31_3 tyB31 tyR32 tyS32 tyZ32 tyF32_0 tyF32_1 tyF32_2 tyF32_3 tyB32 tyR37 tyS37 tyZ37 tyE37 tyL37 tyR48 tyS48 tyZ48 tyF48_0 tyF48_1 tyB48 tyR49 tyS49 tyZ49 tyF49_0 tyF49_1 tyB49 tyR55 tyS55 tyZ55 tyF55_0 tyF55_1 tyF55_2 tyF55_3 tyB55 tyR57 tyS57 tyZ57 tyA57 tyR58 tyS58 tyZ58 tyR61 tyS61 tyZ61 tyU61 tyR65 tyS65 tyZ65 tyR68 tyS68 tyZ68 tyF68_0 tyF68_1 tyF68_2 tyF68_3 tyF68_4 tyF68_5 tyF68_6 tyF68_7 tyF68_8 tyF68_9 tyF68_10 tyB68
end Go.Proofs.Ytikolicdgkckeaa
