/- Facts on the types of this seat's program, for the abstract machine. Printed by gen_types.py. -/
import Derived.Test.YtbjhecllejdfaaaDoorRows
import Derived.Test.YtbjhecllejdfaaaDoorMgC
namespace Go.Proofs.YtbjhecllejdfaaaDoor
set_option linter.unusedVariables false
set_option linter.unusedSimpArgs false
set_option maxRecDepth 100000
theorem tyR2 : rowT Tryd.prog 2 = some false := by kernel_rfl
theorem tyS2 : szT Tryd.prog 2 = some 1 := by kernel_rfl
theorem tyZ2 : zT Tryd.prog 2 = some [.int .i64 0] := by kernel_rfl
theorem tyU2 : Tryd.prog.underlying 2 = some (.int .i64) := by kernel_rfl
theorem tyR3 : rowT Tryd.prog 3 = some false := by kernel_rfl
theorem tyS3 : szT Tryd.prog 3 = some 1 := by kernel_rfl
theorem tyZ3 : zT Tryd.prog 3 = some [.int .i64 0] := by kernel_rfl
theorem tyU3 : Tryd.prog.underlying 3 = some (.int .i64) := by kernel_rfl
theorem tyR4 : rowT Tryd.prog 4 = some false := by kernel_rfl
theorem tyS4 : szT Tryd.prog 4 = some 1 := by kernel_rfl
theorem tyZ4 : zT Tryd.prog 4 = some [.bool false] := by kernel_rfl
theorem tyU4 : Tryd.prog.underlying 4 = some .bool := by kernel_rfl
theorem tyR5 : rowT Tryd.prog 5 = some false := by kernel_rfl
theorem tyS5 : szT Tryd.prog 5 = some 1 := by kernel_rfl
theorem tyZ5 : zT Tryd.prog 5 = some [.int .u8 0] := by kernel_rfl
theorem tyU5 : Tryd.prog.underlying 5 = some (.int .u8) := by kernel_rfl
theorem tyR7 : rowT Tryd.prog 7 = some true := by kernel_rfl
theorem tyS7 : szT Tryd.prog 7 = some 4 := by kernel_rfl
theorem tyZ7 : zT Tryd.prog 7 = some [.int .i64 0, .int .i64 0, .bool false, .int .u8 0] := by kernel_rfl
theorem tyF7_0 : fldT Tryd.prog 7 0 = some (0, 2) := by kernel_rfl
theorem tyF7_1 : fldT Tryd.prog 7 1 = some (1, 3) := by kernel_rfl
theorem tyF7_2 : fldT Tryd.prog 7 2 = some (2, 4) := by kernel_rfl
theorem tyF7_3 : fldT Tryd.prog 7 3 = some (3, 6) := by kernel_rfl
theorem tyB7 : bldT Tryd.prog 7 = some ([.int .i64 0, .int .i64 0, .bool false, .int .u8 0], [(0, 1), (1, 1), (2, 1), (3, 1)]) := by kernel_rfl
theorem tyR9 : rowT Tryd.prog 9 = some false := by kernel_rfl
theorem tyS9 : szT Tryd.prog 9 = some 1 := by kernel_rfl
theorem tyZ9 : zT Tryd.prog 9 = some [.string ⟨#[]⟩] := by kernel_rfl
theorem tyU9 : Tryd.prog.underlying 9 = some .string := by kernel_rfl
theorem tyR12 : rowT Tryd.prog 12 = some false := by kernel_rfl
theorem tyS12 : szT Tryd.prog 12 = some 1 := by kernel_rfl
theorem tyZ12 : zT Tryd.prog 12 = some [.int .u64 0] := by kernel_rfl
theorem tyU12 : Tryd.prog.underlying 12 = some (.int .u64) := by kernel_rfl
theorem tyR13 : rowT Tryd.prog 13 = some true := by kernel_rfl
theorem tyS13 : szT Tryd.prog 13 = some 2 := by kernel_rfl
theorem tyZ13 : zT Tryd.prog 13 = some [.string ⟨#[]⟩, .int .u64 0] := by kernel_rfl
theorem tyF13_0 : fldT Tryd.prog 13 0 = some (0, 9) := by kernel_rfl
theorem tyF13_1 : fldT Tryd.prog 13 1 = some (1, 12) := by kernel_rfl
theorem tyB13 : bldT Tryd.prog 13 = some ([.string ⟨#[]⟩, .int .u64 0], [(0, 1), (1, 1)]) := by kernel_rfl
theorem tyR15 : rowT Tryd.prog 15 = some false := by kernel_rfl
theorem tyS15 : szT Tryd.prog 15 = some 1 := by kernel_rfl
theorem tyZ15 : zT Tryd.prog 15 = some [.pointer none] := by kernel_rfl
theorem tyR16 : rowT Tryd.prog 16 = some false := by kernel_rfl
theorem tyS16 : szT Tryd.prog 16 = some 1 := by kernel_rfl
theorem tyZ16 : zT Tryd.prog 16 = some [.pointer none] := by kernel_rfl
theorem tyR17 : rowT Tryd.prog 17 = some false := by kernel_rfl
theorem tyS17 : szT Tryd.prog 17 = some 1 := by kernel_rfl
theorem tyZ17 : zT Tryd.prog 17 = some [.pointer none] := by kernel_rfl
theorem tyR18 : rowT Tryd.prog 18 = some true := by kernel_rfl
theorem tyS18 : szT Tryd.prog 18 = some 1 := by kernel_rfl
theorem tyZ18 : zT Tryd.prog 18 = some [.pointer none] := by kernel_rfl
theorem tyF18_0 : fldT Tryd.prog 18 0 = some (0, 17) := by kernel_rfl
theorem tyB18 : bldT Tryd.prog 18 = some ([.pointer none], [(0, 1)]) := by kernel_rfl
theorem tyR21 : rowT Tryd.prog 21 = some false := by kernel_rfl
theorem tyS21 : szT Tryd.prog 21 = some 1 := by kernel_rfl
theorem tyZ21 : zT Tryd.prog 21 = some [.int .i32 0] := by kernel_rfl
theorem tyU21 : Tryd.prog.underlying 21 = some (.int .i32) := by kernel_rfl
theorem tyR25 : rowT Tryd.prog 25 = some false := by kernel_rfl
theorem tyS25 : szT Tryd.prog 25 = some 1 := by kernel_rfl
theorem tyZ25 : zT Tryd.prog 25 = some [.int .i64 0] := by kernel_rfl
theorem tyU25 : Tryd.prog.underlying 25 = some (.int .i64) := by kernel_rfl
theorem tyR31 : rowT Tryd.prog 31 = some false := by kernel_rfl
theorem tyS31 : szT Tryd.prog 31 = some 1 := by kernel_rfl
theorem tyZ31 : zT Tryd.prog 31 = some [.slice none 0 0] := by kernel_rfl
theorem tyE31 : elT Tryd.prog 31 = some (9, 1, 16) := by kernel_rfl
theorem tyL31 : isSlT Tryd.prog 31 = true := by kernel_rfl
theorem tyR34 : rowT Tryd.prog 34 = some false := by kernel_rfl
theorem tyS34 : szT Tryd.prog 34 = some 1 := by kernel_rfl
theorem tyZ34 : zT Tryd.prog 34 = some [.slice none 0 0] := by kernel_rfl
theorem tyE34 : elT Tryd.prog 34 = some (53, 3, 32) := by kernel_rfl
theorem tyL34 : isSlT Tryd.prog 34 = true := by kernel_rfl
theorem tyR41 : rowT Tryd.prog 41 = some false := by kernel_rfl
theorem tyS41 : szT Tryd.prog 41 = some 1 := by kernel_rfl
theorem tyZ41 : zT Tryd.prog 41 = some [.int .u16 0] := by kernel_rfl
theorem tyU41 : Tryd.prog.underlying 41 = some (.int .u16) := by kernel_rfl
theorem tyR42 : rowT Tryd.prog 42 = some true := by kernel_rfl
theorem tyS42 : szT Tryd.prog 42 = some 2 := by kernel_rfl
theorem tyZ42 : zT Tryd.prog 42 = some [.int .u16 0, .int .u16 0] := by kernel_rfl
theorem tyA42 : arT Tryd.prog 42 = some (2, 41, 1) := by kernel_rfl
theorem tyR52 : rowT Tryd.prog 52 = some true := by kernel_rfl
theorem tyS52 : szT Tryd.prog 52 = some 3 := by kernel_rfl
theorem tyZ52 : zT Tryd.prog 52 = some [.int .i64 0, .int .i64 0, .string ⟨#[]⟩] := by kernel_rfl
theorem tyF52_0 : fldT Tryd.prog 52 0 = some (0, 3) := by kernel_rfl
theorem tyF52_1 : fldT Tryd.prog 52 1 = some (1, 3) := by kernel_rfl
theorem tyF52_2 : fldT Tryd.prog 52 2 = some (2, 9) := by kernel_rfl
theorem tyB52 : bldT Tryd.prog 52 = some ([.int .i64 0, .int .i64 0, .string ⟨#[]⟩], [(0, 1), (1, 1), (2, 1)]) := by kernel_rfl
theorem tyR53 : rowT Tryd.prog 53 = some true := by kernel_rfl
theorem tyS53 : szT Tryd.prog 53 = some 3 := by kernel_rfl
theorem tyZ53 : zT Tryd.prog 53 = some [.int .i64 0, .int .i64 0, .string ⟨#[]⟩] := by kernel_rfl
theorem tyF53_0 : fldT Tryd.prog 53 0 = some (0, 3) := by kernel_rfl
theorem tyF53_1 : fldT Tryd.prog 53 1 = some (1, 3) := by kernel_rfl
theorem tyF53_2 : fldT Tryd.prog 53 2 = some (2, 9) := by kernel_rfl
theorem tyB53 : bldT Tryd.prog 53 = some ([.int .i64 0, .int .i64 0, .string ⟨#[]⟩], [(0, 1), (1, 1), (2, 1)]) := by kernel_rfl
theorem tyR57 : rowT Tryd.prog 57 = some false := by kernel_rfl
theorem tyS57 : szT Tryd.prog 57 = some 1 := by kernel_rfl
theorem tyZ57 : zT Tryd.prog 57 = some [.pointer none] := by kernel_rfl
theorem tyR58 : rowT Tryd.prog 58 = some false := by kernel_rfl
theorem tyS58 : szT Tryd.prog 58 = some 1 := by kernel_rfl
theorem tyZ58 : zT Tryd.prog 58 = some [.slice none 0 0] := by kernel_rfl
theorem tyE58 : elT Tryd.prog 58 = some (5, 1, 1) := by kernel_rfl
theorem tyL58 : isSlT Tryd.prog 58 = true := by kernel_rfl
theorem tyC58_9 : bsT Tryd.prog 58 9 = true := by kernel_rfl
theorem tyR59 : rowT Tryd.prog 59 = some true := by kernel_rfl
theorem tyS59 : szT Tryd.prog 59 = some 2 := by kernel_rfl
theorem tyZ59 : zT Tryd.prog 59 = some [.pointer none, .slice none 0 0] := by kernel_rfl
theorem tyF59_0 : fldT Tryd.prog 59 0 = some (0, 57) := by kernel_rfl
theorem tyF59_1 : fldT Tryd.prog 59 1 = some (1, 58) := by kernel_rfl
theorem tyB59 : bldT Tryd.prog 59 = some ([.pointer none, .slice none 0 0], [(0, 1), (1, 1)]) := by kernel_rfl
theorem tyR60 : rowT Tryd.prog 60 = some true := by kernel_rfl
theorem tyS60 : szT Tryd.prog 60 = some 2 := by kernel_rfl
theorem tyZ60 : zT Tryd.prog 60 = some [.pointer none, .slice none 0 0] := by kernel_rfl
theorem tyF60_0 : fldT Tryd.prog 60 0 = some (0, 57) := by kernel_rfl
theorem tyF60_1 : fldT Tryd.prog 60 1 = some (1, 58) := by kernel_rfl
theorem tyB60 : bldT Tryd.prog 60 = some ([.pointer none, .slice none 0 0], [(0, 1), (1, 1)]) := by kernel_rfl
theorem tyR69 : rowT Tryd.prog 69 = some false := by kernel_rfl
theorem tyS69 : szT Tryd.prog 69 = some 1 := by kernel_rfl
theorem tyZ69 : zT Tryd.prog 69 = some [.pointer none] := by kernel_rfl
theorem tyR79 : rowT Tryd.prog 79 = some false := by kernel_rfl
theorem tyS79 : szT Tryd.prog 79 = some 1 := by kernel_rfl
theorem tyZ79 : zT Tryd.prog 79 = some [.int .u64 0] := by kernel_rfl
theorem tyU79 : Tryd.prog.underlying 79 = some (.int .u64) := by kernel_rfl
theorem tyR80 : rowT Tryd.prog 80 = some true := by kernel_rfl
theorem tyS80 : szT Tryd.prog 80 = some 256 := by kernel_rfl
theorem tyA80 : arT Tryd.prog 80 = some (256, 5, 1) := by kernel_rfl
theorem tyR81 : rowT Tryd.prog 81 = some true := by kernel_rfl
theorem tyS81 : szT Tryd.prog 81 = some 2 := by kernel_rfl
theorem tyZ81 : zT Tryd.prog 81 = some [.int .u8 0, .int .u8 0] := by kernel_rfl
theorem tyF81_0 : fldT Tryd.prog 81 0 = some (0, 5) := by kernel_rfl
theorem tyF81_1 : fldT Tryd.prog 81 1 = some (1, 5) := by kernel_rfl
theorem tyB81 : bldT Tryd.prog 81 = some ([.int .u8 0, .int .u8 0], [(0, 1), (1, 1)]) := by kernel_rfl
theorem tyR82 : rowT Tryd.prog 82 = some true := by kernel_rfl
theorem tyS82 : szT Tryd.prog 82 = some 2 := by kernel_rfl
theorem tyZ82 : zT Tryd.prog 82 = some [.int .u8 0, .int .u8 0] := by kernel_rfl
theorem tyF82_0 : fldT Tryd.prog 82 0 = some (0, 5) := by kernel_rfl
theorem tyF82_1 : fldT Tryd.prog 82 1 = some (1, 5) := by kernel_rfl
theorem tyB82 : bldT Tryd.prog 82 = some ([.int .u8 0, .int .u8 0], [(0, 1), (1, 1)]) := by kernel_rfl
theorem tyR83 : rowT Tryd.prog 83 = some true := by kernel_rfl
theorem tyS83 : szT Tryd.prog 83 = some 32 := by kernel_rfl
theorem tyZ83 : zT Tryd.prog 83 = some [.int .u8 0, .int .u8 0, .int .u8 0, .int .u8 0, .int .u8 0, .int .u8 0, .int .u8 0, .int .u8 0, .int .u8 0, .int .u8 0, .int .u8 0, .int .u8 0, .int .u8 0, .int .u8 0, .int .u8 0, .int .u8 0, .int .u8 0, .int .u8 0, .int .u8 0, .int .u8 0, .int .u8 0, .int .u8 0, .int .u8 0, .int .u8 0, .int .u8 0, .int .u8 0, .int .u8 0, .int .u8 0, .int .u8 0, .int .u8 0, .int .u8 0, .int .u8 0] := by kernel_rfl
theorem tyA83 : arT Tryd.prog 83 = some (16, 82, 2) := by kernel_rfl
theorem tyR84 : rowT Tryd.prog 84 = some false := by kernel_rfl
theorem tyS84 : szT Tryd.prog 84 = some 1 := by kernel_rfl
theorem tyZ84 : zT Tryd.prog 84 = some [.int .u32 0] := by kernel_rfl
theorem tyU84 : Tryd.prog.underlying 84 = some (.int .u32) := by kernel_rfl
theorem tyR87 : rowT Tryd.prog 87 = some true := by kernel_rfl
theorem tyS87 : szT Tryd.prog 87 = some 4 := by kernel_rfl
theorem tyZ87 : zT Tryd.prog 87 = some [.pointer none, .pointer none, .pointer none, .string ⟨#[]⟩] := by kernel_rfl
theorem tyF87_0 : fldT Tryd.prog 87 0 = some (0, 17) := by kernel_rfl
theorem tyF87_1 : fldT Tryd.prog 87 1 = some (1, 17) := by kernel_rfl
theorem tyF87_2 : fldT Tryd.prog 87 2 = some (2, 17) := by kernel_rfl
theorem tyF87_3 : fldT Tryd.prog 87 3 = some (3, 9) := by kernel_rfl
theorem tyB87 : bldT Tryd.prog 87 = some ([.pointer none, .pointer none, .pointer none, .string ⟨#[]⟩], [(0, 1), (1, 1), (2, 1), (3, 1)]) := by kernel_rfl
theorem tyR89 : rowT Tryd.prog 89 = some true := by kernel_rfl
theorem tyS89 : szT Tryd.prog 89 = some 0 := by kernel_rfl
theorem tyZ89 : zT Tryd.prog 89 = some [] := by kernel_rfl
theorem tyA89 : arT Tryd.prog 89 = some (0, 16, 1) := by kernel_rfl
theorem tyR90 : rowT Tryd.prog 90 = some true := by kernel_rfl
theorem tyS90 : szT Tryd.prog 90 = some 0 := by kernel_rfl
theorem tyZ90 : zT Tryd.prog 90 = some [] := by kernel_rfl
theorem tyR98 : rowT Tryd.prog 98 = some true := by kernel_rfl
theorem tyS98 : szT Tryd.prog 98 = some 11 := by kernel_rfl
theorem tyZ98 : zT Tryd.prog 98 = some [.int .u64 0, .int .u64 0, .int .u32 0, .int .u8 0, .int .u8 0, .int .u8 0, .int .u8 0, .nilFunc, .pointer none, .int .i32 0, .int .i32 0] := by kernel_rfl
theorem tyF98_0 : fldT Tryd.prog 98 0 = some (0, 12) := by kernel_rfl
theorem tyF98_1 : fldT Tryd.prog 98 1 = some (1, 12) := by kernel_rfl
theorem tyF98_2 : fldT Tryd.prog 98 2 = some (2, 84) := by kernel_rfl
theorem tyF98_3 : fldT Tryd.prog 98 3 = some (3, 93) := by kernel_rfl
theorem tyF98_4 : fldT Tryd.prog 98 4 = some (4, 5) := by kernel_rfl
theorem tyF98_5 : fldT Tryd.prog 98 5 = some (5, 5) := by kernel_rfl
theorem tyF98_6 : fldT Tryd.prog 98 6 = some (6, 94) := by kernel_rfl
theorem tyF98_7 : fldT Tryd.prog 98 7 = some (7, 95) := by kernel_rfl
theorem tyF98_8 : fldT Tryd.prog 98 8 = some (8, 69) := by kernel_rfl
theorem tyF98_9 : fldT Tryd.prog 98 9 = some (9, 96) := by kernel_rfl
theorem tyF98_10 : fldT Tryd.prog 98 10 = some (10, 97) := by kernel_rfl
theorem tyB98 : bldT Tryd.prog 98 = some ([.int .u64 0, .int .u64 0, .int .u32 0, .int .u8 0, .int .u8 0, .int .u8 0, .int .u8 0, .nilFunc, .pointer none, .int .i32 0, .int .i32 0], [(0, 1), (1, 1), (2, 1), (3, 1), (4, 1), (5, 1), (6, 1), (7, 1), (8, 1), (9, 1), (10, 1)]) := by kernel_rfl
attribute [go_sem] tyR2 tyS2 tyZ2 tyU2 tyR3 tyS3 tyZ3 tyU3 tyR4 tyS4 tyZ4 tyU4 tyR5 tyS5 tyZ5 tyU5 tyR7 tyS7 tyZ7 tyF7_0 tyF7_1 tyF7_2 tyF7_3 tyB7 tyR9 tyS9 tyZ9 tyU9 tyR12 tyS12 tyZ12 tyU12 tyR13 tyS13 tyZ13 tyF13_0 tyF13_1 tyB13 tyR15 tyS15 tyZ15 tyR16 tyS16 tyZ16 tyR17 tyS17 tyZ17 tyR18 tyS18 tyZ18 tyF18_0 tyB18 tyR21 tyS21 tyZ21 tyU21 tyR25 tyS25 tyZ25 tyU25 tyR31 tyS31 tyZ31 tyE31 tyL31 tyR34 tyS34 tyZ34 tyE34 tyL34 tyR41 tyS41 tyZ41 tyU41 tyR42 tyS42 tyZ42 tyA42 tyR52 tyS52 tyZ52 tyF52_0 tyF52_1 tyF52_2 tyB52 tyR53 tyS53 tyZ53 tyF53_0 tyF53_1 tyF53_2 tyB53 tyR57 tyS57 tyZ57 tyR58 tyS58 tyZ58 tyE58 tyL58 tyC58_9 tyR59 tyS59 tyZ59 tyF59_0 tyF59_1 tyB59 tyR60 tyS60 tyZ60 tyF60_0 tyF60_1 tyB60 tyR69 tyS69 tyZ69 tyR79 tyS79 tyZ79 tyU79 tyR80 tyS80 tyA80 tyR81 tyS81 tyZ81 tyF81_0 tyF81_1 tyB81 tyR82 tyS82 tyZ82 tyF82_0 tyF82_1 tyB82 tyR83 tyS83 tyZ83 tyA83 tyR84 tyS84 tyZ84 tyU84 tyR87 tyS87 tyZ87 tyF87_0 tyF87_1 tyF87_2 tyF87_3 tyB87 tyR89 tyS89 tyZ89 tyA89 tyR90 tyS90 tyZ90 tyR98 tyS98 tyZ98 tyF98_0 tyF98_1 tyF98_2 tyF98_3 tyF98_4 tyF98_5 tyF98_6 tyF98_7 tyF98_8 tyF98_9 tyF98_10 tyB98
end Go.Proofs.YtbjhecllejdfaaaDoor
