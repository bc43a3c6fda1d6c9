/- Facts on the types of this seat's program, for the abstract machine. Printed by gen_types.py. -/
import Derived.Test.YtoncfnbgajnhgaaDoorRows
import Derived.Test.YtoncfnbgajnhgaaDoorMgC
namespace Go.Proofs.YtoncfnbgajnhgaaDoor
set_option linter.unusedVariables false
set_option linter.unusedSimpArgs false
set_option maxRecDepth 100000
theorem tyR2 : rowT Tryd.prog 2 = some false := by kernel_rfl
theorem tyS2 : szT Tryd.prog 2 = some 1 := by kernel_rfl
theorem tyZ2 : zT Tryd.prog 2 = some [.int .i64 0] := by kernel_rfl
theorem tyU2 : Tryd.prog.underlying 2 = some (.int .i64) := by kernel_rfl
theorem tyR3 : rowT Tryd.prog 3 = some false := by kernel_rfl
theorem tyS3 : szT Tryd.prog 3 = some 1 := by kernel_rfl
theorem tyZ3 : zT Tryd.prog 3 = some [.int .i64 0] := by kernel_rfl
theorem tyU3 : Tryd.prog.underlying 3 = some (.int .i64) := by kernel_rfl
theorem tyR4 : rowT Tryd.prog 4 = some false := by kernel_rfl
theorem tyS4 : szT Tryd.prog 4 = some 1 := by kernel_rfl
theorem tyZ4 : zT Tryd.prog 4 = some [.bool false] := by kernel_rfl
theorem tyU4 : Tryd.prog.underlying 4 = some .bool := by kernel_rfl
theorem tyR5 : rowT Tryd.prog 5 = some false := by kernel_rfl
theorem tyS5 : szT Tryd.prog 5 = some 1 := by kernel_rfl
theorem tyZ5 : zT Tryd.prog 5 = some [.int .u8 0] := by kernel_rfl
theorem tyU5 : Tryd.prog.underlying 5 = some (.int .u8) := by kernel_rfl
theorem tyR7 : rowT Tryd.prog 7 = some true := by kernel_rfl
theorem tyS7 : szT Tryd.prog 7 = some 4 := by kernel_rfl
theorem tyZ7 : zT Tryd.prog 7 = some [.int .i64 0, .int .i64 0, .bool false, .int .u8 0] := by kernel_rfl
theorem tyF7_0 : fldT Tryd.prog 7 0 = some (0, 2) := by kernel_rfl
theorem tyF7_1 : fldT Tryd.prog 7 1 = some (1, 3) := by kernel_rfl
theorem tyF7_2 : fldT Tryd.prog 7 2 = some (2, 4) := by kernel_rfl
theorem tyF7_3 : fldT Tryd.prog 7 3 = some (3, 6) := by kernel_rfl
theorem tyB7 : bldT Tryd.prog 7 = some ([.int .i64 0, .int .i64 0, .bool false, .int .u8 0], [(0, 1), (1, 1), (2, 1), (3, 1)]) := by kernel_rfl
theorem tyR9 : rowT Tryd.prog 9 = some false := by kernel_rfl
theorem tyS9 : szT Tryd.prog 9 = some 1 := by kernel_rfl
theorem tyZ9 : zT Tryd.prog 9 = some [.string ⟨#[]⟩] := by kernel_rfl
theorem tyU9 : Tryd.prog.underlying 9 = some .string := by kernel_rfl
theorem tyR12 : rowT Tryd.prog 12 = some false := by kernel_rfl
theorem tyS12 : szT Tryd.prog 12 = some 1 := by kernel_rfl
theorem tyZ12 : zT Tryd.prog 12 = some [.int .u64 0] := by kernel_rfl
theorem tyU12 : Tryd.prog.underlying 12 = some (.int .u64) := by kernel_rfl
theorem tyR13 : rowT Tryd.prog 13 = some true := by kernel_rfl
theorem tyS13 : szT Tryd.prog 13 = some 2 := by kernel_rfl
theorem tyZ13 : zT Tryd.prog 13 = some [.string ⟨#[]⟩, .int .u64 0] := by kernel_rfl
theorem tyF13_0 : fldT Tryd.prog 13 0 = some (0, 9) := by kernel_rfl
theorem tyF13_1 : fldT Tryd.prog 13 1 = some (1, 12) := by kernel_rfl
theorem tyB13 : bldT Tryd.prog 13 = some ([.string ⟨#[]⟩, .int .u64 0], [(0, 1), (1, 1)]) := by kernel_rfl
theorem tyR15 : rowT Tryd.prog 15 = some false := by kernel_rfl
theorem tyS15 : szT Tryd.prog 15 = some 1 := by kernel_rfl
theorem tyZ15 : zT Tryd.prog 15 = some [.pointer none] := by kernel_rfl
theorem tyR16 : rowT Tryd.prog 16 = some false := by kernel_rfl
theorem tyS16 : szT Tryd.prog 16 = some 1 := by kernel_rfl
theorem tyZ16 : zT Tryd.prog 16 = some [.pointer none] := by kernel_rfl
theorem tyR17 : rowT Tryd.prog 17 = some false := by kernel_rfl
theorem tyS17 : szT Tryd.prog 17 = some 1 := by kernel_rfl
theorem tyZ17 : zT Tryd.prog 17 = some [.pointer none] := by kernel_rfl
theorem tyR18 : rowT Tryd.prog 18 = some true := by kernel_rfl
theorem tyS18 : szT Tryd.prog 18 = some 1 := by kernel_rfl
theorem tyZ18 : zT Tryd.prog 18 = some [.pointer none] := by kernel_rfl
theorem tyF18_0 : fldT Tryd.prog 18 0 = some (0, 17) := by kernel_rfl
theorem tyB18 : bldT Tryd.prog 18 = some ([.pointer none], [(0, 1)]) := by kernel_rfl
theorem tyR21 : rowT Tryd.prog 21 = some false := by kernel_rfl
theorem tyS21 : szT Tryd.prog 21 = some 1 := by kernel_rfl
theorem tyZ21 : zT Tryd.prog 21 = some [.int .i32 0] := by kernel_rfl
theorem tyU21 : Tryd.prog.underlying 21 = some (.int .i32) := by kernel_rfl
theorem tyR23 : rowT Tryd.prog 23 = some false := by kernel_rfl
theorem tyS23 : szT Tryd.prog 23 = some 1 := by kernel_rfl
theorem tyZ23 : zT Tryd.prog 23 = some [.int .i64 0] := by kernel_rfl
theorem tyU23 : Tryd.prog.underlying 23 = some (.int .i64) := by kernel_rfl
theorem tyR30 : rowT Tryd.prog 30 = some false := by kernel_rfl
theorem tyS30 : szT Tryd.prog 30 = some 1 := by kernel_rfl
theorem tyZ30 : zT Tryd.prog 30 = some [.slice none 0 0] := by kernel_rfl
theorem tyE30 : elT Tryd.prog 30 = some (45, 2, 24) := by kernel_rfl
theorem tyL30 : isSlT Tryd.prog 30 = true := by kernel_rfl
theorem tyR44 : rowT Tryd.prog 44 = some true := by kernel_rfl
theorem tyS44 : szT Tryd.prog 44 = some 2 := by kernel_rfl
theorem tyZ44 : zT Tryd.prog 44 = some [.string ⟨#[]⟩, .int .i64 0] := by kernel_rfl
theorem tyF44_0 : fldT Tryd.prog 44 0 = some (0, 9) := by kernel_rfl
theorem tyF44_1 : fldT Tryd.prog 44 1 = some (1, 3) := by kernel_rfl
theorem tyB44 : bldT Tryd.prog 44 = some ([.string ⟨#[]⟩, .int .i64 0], [(0, 1), (1, 1)]) := by kernel_rfl
theorem tyR45 : rowT Tryd.prog 45 = some true := by kernel_rfl
theorem tyS45 : szT Tryd.prog 45 = some 2 := by kernel_rfl
theorem tyZ45 : zT Tryd.prog 45 = some [.string ⟨#[]⟩, .int .i64 0] := by kernel_rfl
theorem tyF45_0 : fldT Tryd.prog 45 0 = some (0, 9) := by kernel_rfl
theorem tyF45_1 : fldT Tryd.prog 45 1 = some (1, 3) := by kernel_rfl
theorem tyB45 : bldT Tryd.prog 45 = some ([.string ⟨#[]⟩, .int .i64 0], [(0, 1), (1, 1)]) := by kernel_rfl
theorem tyR46 : rowT Tryd.prog 46 = some false := by kernel_rfl
theorem tyS46 : szT Tryd.prog 46 = some 1 := by kernel_rfl
theorem tyZ46 : zT Tryd.prog 46 = some [.slice none 0 0] := by kernel_rfl
theorem tyE46 : elT Tryd.prog 46 = some (5, 1, 1) := by kernel_rfl
theorem tyL46 : isSlT Tryd.prog 46 = true := by kernel_rfl
theorem tyC46_9 : bsT Tryd.prog 46 9 = true := by kernel_rfl
theorem tyR51 : rowT Tryd.prog 51 = some false := by kernel_rfl
theorem tyS51 : szT Tryd.prog 51 = some 1 := by kernel_rfl
theorem tyZ51 : zT Tryd.prog 51 = some [.pointer none] := by kernel_rfl
theorem tyR52 : rowT Tryd.prog 52 = some true := by kernel_rfl
theorem tyS52 : szT Tryd.prog 52 = some 2 := by kernel_rfl
theorem tyZ52 : zT Tryd.prog 52 = some [.pointer none, .slice none 0 0] := by kernel_rfl
theorem tyF52_0 : fldT Tryd.prog 52 0 = some (0, 51) := by kernel_rfl
theorem tyF52_1 : fldT Tryd.prog 52 1 = some (1, 46) := by kernel_rfl
theorem tyB52 : bldT Tryd.prog 52 = some ([.pointer none, .slice none 0 0], [(0, 1), (1, 1)]) := by kernel_rfl
theorem tyR53 : rowT Tryd.prog 53 = some true := by kernel_rfl
theorem tyS53 : szT Tryd.prog 53 = some 2 := by kernel_rfl
theorem tyZ53 : zT Tryd.prog 53 = some [.pointer none, .slice none 0 0] := by kernel_rfl
theorem tyF53_0 : fldT Tryd.prog 53 0 = some (0, 51) := by kernel_rfl
theorem tyF53_1 : fldT Tryd.prog 53 1 = some (1, 46) := by kernel_rfl
theorem tyB53 : bldT Tryd.prog 53 = some ([.pointer none, .slice none 0 0], [(0, 1), (1, 1)]) := by kernel_rfl
theorem tyR54 : rowT Tryd.prog 54 = some true := by kernel_rfl
theorem tyS54 : szT Tryd.prog 54 = some 32 := by kernel_rfl
theorem tyZ54 : zT Tryd.prog 54 = some [.string ⟨#[]⟩, .string ⟨#[]⟩, .string ⟨#[]⟩, .string ⟨#[]⟩, .string ⟨#[]⟩, .string ⟨#[]⟩, .string ⟨#[]⟩, .string ⟨#[]⟩, .string ⟨#[]⟩, .string ⟨#[]⟩, .string ⟨#[]⟩, .string ⟨#[]⟩, .string ⟨#[]⟩, .string ⟨#[]⟩, .string ⟨#[]⟩, .string ⟨#[]⟩, .string ⟨#[]⟩, .string ⟨#[]⟩, .string ⟨#[]⟩, .string ⟨#[]⟩, .string ⟨#[]⟩, .string ⟨#[]⟩, .string ⟨#[]⟩, .string ⟨#[]⟩, .string ⟨#[]⟩, .string ⟨#[]⟩, .string ⟨#[]⟩, .string ⟨#[]⟩, .string ⟨#[]⟩, .string ⟨#[]⟩, .string ⟨#[]⟩, .string ⟨#[]⟩] := by kernel_rfl
theorem tyA54 : arT Tryd.prog 54 = some (32, 9, 1) := by kernel_rfl
theorem tyR60 : rowT Tryd.prog 60 = some false := by kernel_rfl
theorem tyS60 : szT Tryd.prog 60 = some 1 := by kernel_rfl
theorem tyZ60 : zT Tryd.prog 60 = some [.int .u64 0] := by kernel_rfl
theorem tyU60 : Tryd.prog.underlying 60 = some (.int .u64) := by kernel_rfl
theorem tyR73 : rowT Tryd.prog 73 = some false := by kernel_rfl
theorem tyS73 : szT Tryd.prog 73 = some 1 := by kernel_rfl
theorem tyZ73 : zT Tryd.prog 73 = some [.pointer none] := by kernel_rfl
theorem tyR79 : rowT Tryd.prog 79 = some true := by kernel_rfl
theorem tyS79 : szT Tryd.prog 79 = some 4 := by kernel_rfl
theorem tyZ79 : zT Tryd.prog 79 = some [.pointer none, .pointer none, .pointer none, .string ⟨#[]⟩] := by kernel_rfl
theorem tyF79_0 : fldT Tryd.prog 79 0 = some (0, 17) := by kernel_rfl
theorem tyF79_1 : fldT Tryd.prog 79 1 = some (1, 17) := by kernel_rfl
theorem tyF79_2 : fldT Tryd.prog 79 2 = some (2, 17) := by kernel_rfl
theorem tyF79_3 : fldT Tryd.prog 79 3 = some (3, 9) := by kernel_rfl
theorem tyB79 : bldT Tryd.prog 79 = some ([.pointer none, .pointer none, .pointer none, .string ⟨#[]⟩], [(0, 1), (1, 1), (2, 1), (3, 1)]) := by kernel_rfl
theorem tyR81 : rowT Tryd.prog 81 = some true := by kernel_rfl
theorem tyS81 : szT Tryd.prog 81 = some 0 := by kernel_rfl
theorem tyZ81 : zT Tryd.prog 81 = some [] := by kernel_rfl
theorem tyA81 : arT Tryd.prog 81 = some (0, 16, 1) := by kernel_rfl
theorem tyR82 : rowT Tryd.prog 82 = some true := by kernel_rfl
theorem tyS82 : szT Tryd.prog 82 = some 0 := by kernel_rfl
theorem tyZ82 : zT Tryd.prog 82 = some [] := by kernel_rfl
theorem tyR85 : rowT Tryd.prog 85 = some false := by kernel_rfl
theorem tyS85 : szT Tryd.prog 85 = some 1 := by kernel_rfl
theorem tyZ85 : zT Tryd.prog 85 = some [.int .u32 0] := by kernel_rfl
theorem tyU85 : Tryd.prog.underlying 85 = some (.int .u32) := by kernel_rfl
theorem tyR91 : rowT Tryd.prog 91 = some true := by kernel_rfl
theorem tyS91 : szT Tryd.prog 91 = some 11 := by kernel_rfl
theorem tyZ91 : zT Tryd.prog 91 = some [.int .u64 0, .int .u64 0, .int .u32 0, .int .u8 0, .int .u8 0, .int .u8 0, .int .u8 0, .nilFunc, .pointer none, .int .i32 0, .int .i32 0] := by kernel_rfl
theorem tyF91_0 : fldT Tryd.prog 91 0 = some (0, 12) := by kernel_rfl
theorem tyF91_1 : fldT Tryd.prog 91 1 = some (1, 12) := by kernel_rfl
theorem tyF91_2 : fldT Tryd.prog 91 2 = some (2, 85) := by kernel_rfl
theorem tyF91_3 : fldT Tryd.prog 91 3 = some (3, 86) := by kernel_rfl
theorem tyF91_4 : fldT Tryd.prog 91 4 = some (4, 5) := by kernel_rfl
theorem tyF91_5 : fldT Tryd.prog 91 5 = some (5, 5) := by kernel_rfl
theorem tyF91_6 : fldT Tryd.prog 91 6 = some (6, 87) := by kernel_rfl
theorem tyF91_7 : fldT Tryd.prog 91 7 = some (7, 88) := by kernel_rfl
theorem tyF91_8 : fldT Tryd.prog 91 8 = some (8, 73) := by kernel_rfl
theorem tyF91_9 : fldT Tryd.prog 91 9 = some (9, 89) := by kernel_rfl
theorem tyF91_10 : fldT Tryd.prog 91 10 = some (10, 90) := by kernel_rfl
theorem tyB91 : bldT Tryd.prog 91 = some ([.int .u64 0, .int .u64 0, .int .u32 0, .int .u8 0, .int .u8 0, .int .u8 0, .int .u8 0, .nilFunc, .pointer none, .int .i32 0, .int .i32 0], [(0, 1), (1, 1), (2, 1), (3, 1), (4, 1), (5, 1), (6, 1), (7, 1), (8, 1), (9, 1), (10, 1)]) := by kernel_rfl
attribute [go_sem] tyR2 tyS2 tyZ2 tyU2 tyR3 tyS3 tyZ3 tyU3 tyR4 tyS4 tyZ4 tyU4 tyR5 tyS5 tyZ5 tyU5 tyR7 tyS7 tyZ7 tyF7_0 tyF7_1 tyF7_2 tyF7_3 tyB7 tyR9 tyS9 tyZ9 tyU9 tyR12 tyS12 tyZ12 tyU12 tyR13 tyS13 tyZ13 tyF13_0 tyF13_1 tyB13 tyR15 tyS15 tyZ15 tyR16 tyS16 tyZ16 tyR17 tyS17 tyZ17 tyR18 tyS18 tyZ18 tyF18_0 tyB18 tyR21 tyS21 tyZ21 tyU21 tyR23 tyS23 tyZ23 tyU23 tyR30 tyS30 tyZ30 tyE30 tyL30 tyR44 tyS44 tyZ44 tyF44_0 tyF44_1 tyB44 tyR45 tyS45 tyZ45 tyF45_0 tyF45_1 tyB45 tyR46 tyS46 tyZ46 tyE46 tyL46 tyC46_9 tyR51 tyS51 tyZ51 tyR52 tyS52 tyZ52 tyF52_0 tyF52_1 tyB52 tyR53 tyS53 tyZ53 tyF53_0 tyF53_1 tyB53 tyR54 tyS54 tyZ54 tyA54 tyR60 tyS60 tyZ60 tyU60 tyR73 tyS73 tyZ73 tyR79 tyS79 tyZ79 tyF79_0 tyF79_1 tyF79_2 tyF79_3 tyB79 tyR81 tyS81 tyZ81 tyA81 tyR82 tyS82 tyZ82 tyR85 tyS85 tyZ85 tyU85 tyR91 tyS91 tyZ91 tyF91_0 tyF91_1 tyF91_2 tyF91_3 tyF91_4 tyF91_5 tyF91_6 tyF91_7 tyF91_8 tyF91_9 tyF91_10 tyB91
end Go.Proofs.YtoncfnbgajnhgaaDoor
