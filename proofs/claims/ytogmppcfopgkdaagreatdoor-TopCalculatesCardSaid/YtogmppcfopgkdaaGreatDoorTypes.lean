/- Facts on the types of this seat's program, for the abstract machine. Printed by gen_types.py. -/
import Derived.Test.YtogmppcfopgkdaaGreatDoorRows
import Derived.Test.YtogmppcfopgkdaaGreatDoorMgC
namespace Go.Proofs.YtogmppcfopgkdaaGreatDoor
set_option linter.unusedVariables false
set_option linter.unusedSimpArgs false
set_option maxRecDepth 100000
theorem tyR1 : rowT Tryz.prog 1 = some false := by kernel_rfl
theorem tyS1 : szT Tryz.prog 1 = some 1 := by kernel_rfl
theorem tyZ1 : zT Tryz.prog 1 = some [.nilFunc] := by kernel_rfl
theorem tyR2 : rowT Tryz.prog 2 = some false := by kernel_rfl
theorem tyS2 : szT Tryz.prog 2 = some 1 := by kernel_rfl
theorem tyZ2 : zT Tryz.prog 2 = some [.int .i64 0] := by kernel_rfl
theorem tyU2 : Tryz.prog.underlying 2 = some (.int .i64) := by kernel_rfl
theorem tyR3 : rowT Tryz.prog 3 = some false := by kernel_rfl
theorem tyS3 : szT Tryz.prog 3 = some 1 := by kernel_rfl
theorem tyZ3 : zT Tryz.prog 3 = some [.int .i64 0] := by kernel_rfl
theorem tyU3 : Tryz.prog.underlying 3 = some (.int .i64) := by kernel_rfl
theorem tyR4 : rowT Tryz.prog 4 = some false := by kernel_rfl
theorem tyS4 : szT Tryz.prog 4 = some 1 := by kernel_rfl
theorem tyZ4 : zT Tryz.prog 4 = some [.bool false] := by kernel_rfl
theorem tyU4 : Tryz.prog.underlying 4 = some .bool := by kernel_rfl
theorem tyR5 : rowT Tryz.prog 5 = some false := by kernel_rfl
theorem tyS5 : szT Tryz.prog 5 = some 1 := by kernel_rfl
theorem tyZ5 : zT Tryz.prog 5 = some [.int .u8 0] := by kernel_rfl
theorem tyU5 : Tryz.prog.underlying 5 = some (.int .u8) := by kernel_rfl
theorem tyR7 : rowT Tryz.prog 7 = some true := by kernel_rfl
theorem tyS7 : szT Tryz.prog 7 = some 4 := by kernel_rfl
theorem tyZ7 : zT Tryz.prog 7 = some [.int .i64 0, .int .i64 0, .bool false, .int .u8 0] := by kernel_rfl
theorem tyF7_0 : fldT Tryz.prog 7 0 = some (0, 2) := by kernel_rfl
theorem tyF7_1 : fldT Tryz.prog 7 1 = some (1, 3) := by kernel_rfl
theorem tyF7_2 : fldT Tryz.prog 7 2 = some (2, 4) := by kernel_rfl
theorem tyF7_3 : fldT Tryz.prog 7 3 = some (3, 6) := by kernel_rfl
theorem tyB7 : bldT Tryz.prog 7 = some ([.int .i64 0, .int .i64 0, .bool false, .int .u8 0], [(0, 1), (1, 1), (2, 1), (3, 1)]) := by kernel_rfl
theorem tyR9 : rowT Tryz.prog 9 = some false := by kernel_rfl
theorem tyS9 : szT Tryz.prog 9 = some 1 := by kernel_rfl
theorem tyZ9 : zT Tryz.prog 9 = some [.string ⟨#[]⟩] := by kernel_rfl
theorem tyU9 : Tryz.prog.underlying 9 = some .string := by kernel_rfl
theorem tyR12 : rowT Tryz.prog 12 = some false := by kernel_rfl
theorem tyS12 : szT Tryz.prog 12 = some 1 := by kernel_rfl
theorem tyZ12 : zT Tryz.prog 12 = some [.int .u64 0] := by kernel_rfl
theorem tyU12 : Tryz.prog.underlying 12 = some (.int .u64) := by kernel_rfl
theorem tyR13 : rowT Tryz.prog 13 = some true := by kernel_rfl
theorem tyS13 : szT Tryz.prog 13 = some 2 := by kernel_rfl
theorem tyZ13 : zT Tryz.prog 13 = some [.string ⟨#[]⟩, .int .u64 0] := by kernel_rfl
theorem tyF13_0 : fldT Tryz.prog 13 0 = some (0, 9) := by kernel_rfl
theorem tyF13_1 : fldT Tryz.prog 13 1 = some (1, 12) := by kernel_rfl
theorem tyB13 : bldT Tryz.prog 13 = some ([.string ⟨#[]⟩, .int .u64 0], [(0, 1), (1, 1)]) := by kernel_rfl
theorem tyR15 : rowT Tryz.prog 15 = some false := by kernel_rfl
theorem tyS15 : szT Tryz.prog 15 = some 1 := by kernel_rfl
theorem tyZ15 : zT Tryz.prog 15 = some [.pointer none] := by kernel_rfl
theorem tyR16 : rowT Tryz.prog 16 = some false := by kernel_rfl
theorem tyS16 : szT Tryz.prog 16 = some 1 := by kernel_rfl
theorem tyZ16 : zT Tryz.prog 16 = some [.pointer none] := by kernel_rfl
theorem tyR17 : rowT Tryz.prog 17 = some false := by kernel_rfl
theorem tyS17 : szT Tryz.prog 17 = some 1 := by kernel_rfl
theorem tyZ17 : zT Tryz.prog 17 = some [.pointer none] := by kernel_rfl
theorem tyR18 : rowT Tryz.prog 18 = some true := by kernel_rfl
theorem tyS18 : szT Tryz.prog 18 = some 1 := by kernel_rfl
theorem tyZ18 : zT Tryz.prog 18 = some [.pointer none] := by kernel_rfl
theorem tyF18_0 : fldT Tryz.prog 18 0 = some (0, 17) := by kernel_rfl
theorem tyB18 : bldT Tryz.prog 18 = some ([.pointer none], [(0, 1)]) := by kernel_rfl
theorem tyR20 : rowT Tryz.prog 20 = some false := by kernel_rfl
theorem tyS20 : szT Tryz.prog 20 = some 1 := by kernel_rfl
theorem tyZ20 : zT Tryz.prog 20 = some [.nilIface] := by kernel_rfl
theorem tyR21 : rowT Tryz.prog 21 = some false := by kernel_rfl
theorem tyS21 : szT Tryz.prog 21 = some 1 := by kernel_rfl
theorem tyZ21 : zT Tryz.prog 21 = some [.int .i32 0] := by kernel_rfl
theorem tyU21 : Tryz.prog.underlying 21 = some (.int .i32) := by kernel_rfl
theorem tyR22 : rowT Tryz.prog 22 = some false := by kernel_rfl
theorem tyS22 : szT Tryz.prog 22 = some 1 := by kernel_rfl
theorem tyZ22 : zT Tryz.prog 22 = some [.nilFunc] := by kernel_rfl
theorem tyR23 : rowT Tryz.prog 23 = some false := by kernel_rfl
theorem tyS23 : szT Tryz.prog 23 = some 1 := by kernel_rfl
theorem tyZ23 : zT Tryz.prog 23 = some [.nilFunc] := by kernel_rfl
theorem tyR24 : rowT Tryz.prog 24 = some false := by kernel_rfl
theorem tyS24 : szT Tryz.prog 24 = some 1 := by kernel_rfl
theorem tyZ24 : zT Tryz.prog 24 = some [.slice none 0 0] := by kernel_rfl
theorem tyE24 : elT Tryz.prog 24 = some (37, 5, 40) := by kernel_rfl
theorem tyL24 : isSlT Tryz.prog 24 = true := by kernel_rfl
theorem tyR25 : rowT Tryz.prog 25 = some false := by kernel_rfl
theorem tyS25 : szT Tryz.prog 25 = some 1 := by kernel_rfl
theorem tyZ25 : zT Tryz.prog 25 = some [.slice none 0 0] := by kernel_rfl
theorem tyE25 : elT Tryz.prog 25 = some (9, 1, 16) := by kernel_rfl
theorem tyL25 : isSlT Tryz.prog 25 = true := by kernel_rfl
theorem tyR26 : rowT Tryz.prog 26 = some false := by kernel_rfl
theorem tyS26 : szT Tryz.prog 26 = some 1 := by kernel_rfl
theorem tyZ26 : zT Tryz.prog 26 = some [.slice none 0 0] := by kernel_rfl
theorem tyE26 : elT Tryz.prog 26 = some (190, 10, 176) := by kernel_rfl
theorem tyL26 : isSlT Tryz.prog 26 = true := by kernel_rfl
theorem tyR27 : rowT Tryz.prog 27 = some false := by kernel_rfl
theorem tyS27 : szT Tryz.prog 27 = some 1 := by kernel_rfl
theorem tyZ27 : zT Tryz.prog 27 = some [.slice none 0 0] := by kernel_rfl
theorem tyE27 : elT Tryz.prog 27 = some (178, 2, 32) := by kernel_rfl
theorem tyL27 : isSlT Tryz.prog 27 = true := by kernel_rfl
theorem tyR28 : rowT Tryz.prog 28 = some false := by kernel_rfl
theorem tyS28 : szT Tryz.prog 28 = some 1 := by kernel_rfl
theorem tyZ28 : zT Tryz.prog 28 = some [.slice none 0 0] := by kernel_rfl
theorem tyE28 : elT Tryz.prog 28 = some (181, 2, 24) := by kernel_rfl
theorem tyL28 : isSlT Tryz.prog 28 = true := by kernel_rfl
theorem tyR29 : rowT Tryz.prog 29 = some true := by kernel_rfl
theorem tyS29 : szT Tryz.prog 29 = some 2 := by kernel_rfl
theorem tyZ29 : zT Tryz.prog 29 = some [.int .i64 0, .int .i64 0] := by kernel_rfl
theorem tyF29_0 : fldT Tryz.prog 29 0 = some (0, 3) := by kernel_rfl
theorem tyF29_1 : fldT Tryz.prog 29 1 = some (1, 3) := by kernel_rfl
theorem tyB29 : bldT Tryz.prog 29 = some ([.int .i64 0, .int .i64 0], [(0, 1), (1, 1)]) := by kernel_rfl
theorem tyR30 : rowT Tryz.prog 30 = some true := by kernel_rfl
theorem tyS30 : szT Tryz.prog 30 = some 2 := by kernel_rfl
theorem tyZ30 : zT Tryz.prog 30 = some [.int .i64 0, .int .i64 0] := by kernel_rfl
theorem tyF30_0 : fldT Tryz.prog 30 0 = some (0, 3) := by kernel_rfl
theorem tyF30_1 : fldT Tryz.prog 30 1 = some (1, 3) := by kernel_rfl
theorem tyB30 : bldT Tryz.prog 30 = some ([.int .i64 0, .int .i64 0], [(0, 1), (1, 1)]) := by kernel_rfl
theorem tyR31 : rowT Tryz.prog 31 = some true := by kernel_rfl
theorem tyS31 : szT Tryz.prog 31 = some 15 := by kernel_rfl
theorem tyZ31 : zT Tryz.prog 31 = some [.string ⟨#[]⟩, .slice none 0 0, .slice none 0 0, .slice none 0 0, .slice none 0 0, .slice none 0 0, .int .i64 0, .int .i64 0, .int .i64 0, .int .i64 0, .string ⟨#[]⟩, .int .i64 0, .int .i64 0, .int .i64 0, .bool false] := by kernel_rfl
theorem tyF31_0 : fldT Tryz.prog 31 0 = some (0, 9) := by kernel_rfl
theorem tyF31_1 : fldT Tryz.prog 31 1 = some (1, 24) := by kernel_rfl
theorem tyF31_2 : fldT Tryz.prog 31 2 = some (2, 25) := by kernel_rfl
theorem tyF31_3 : fldT Tryz.prog 31 3 = some (3, 26) := by kernel_rfl
theorem tyF31_4 : fldT Tryz.prog 31 4 = some (4, 27) := by kernel_rfl
theorem tyF31_5 : fldT Tryz.prog 31 5 = some (5, 28) := by kernel_rfl
theorem tyF31_6 : fldT Tryz.prog 31 6 = some (6, 3) := by kernel_rfl
theorem tyF31_7 : fldT Tryz.prog 31 7 = some (7, 3) := by kernel_rfl
theorem tyF31_8 : fldT Tryz.prog 31 8 = some (8, 3) := by kernel_rfl
theorem tyF31_9 : fldT Tryz.prog 31 9 = some (9, 3) := by kernel_rfl
theorem tyF31_10 : fldT Tryz.prog 31 10 = some (10, 9) := by kernel_rfl
theorem tyF31_11 : fldT Tryz.prog 31 11 = some (11, 30) := by kernel_rfl
theorem tyF31_12 : fldT Tryz.prog 31 12 = some (13, 3) := by kernel_rfl
theorem tyF31_13 : fldT Tryz.prog 31 13 = some (14, 4) := by kernel_rfl
theorem tyB31 : bldT Tryz.prog 31 = some ([.string ⟨#[]⟩, .slice none 0 0, .slice none 0 0, .slice none 0 0, .slice none 0 0, .slice none 0 0, .int .i64 0, .int .i64 0, .int .i64 0, .int .i64 0, .string ⟨#[]⟩, .int .i64 0, .int .i64 0, .int .i64 0, .bool false], [(0, 1), (1, 1), (2, 1), (3, 1), (4, 1), (5, 1), (6, 1), (7, 1), (8, 1), (9, 1), (10, 1), (11, 2), (13, 1), (14, 1)]) := by kernel_rfl
theorem tyR32 : rowT Tryz.prog 32 = some true := by kernel_rfl
theorem tyS32 : szT Tryz.prog 32 = some 15 := by kernel_rfl
theorem tyZ32 : zT Tryz.prog 32 = some [.string ⟨#[]⟩, .slice none 0 0, .slice none 0 0, .slice none 0 0, .slice none 0 0, .slice none 0 0, .int .i64 0, .int .i64 0, .int .i64 0, .int .i64 0, .string ⟨#[]⟩, .int .i64 0, .int .i64 0, .int .i64 0, .bool false] := by kernel_rfl
theorem tyF32_0 : fldT Tryz.prog 32 0 = some (0, 9) := by kernel_rfl
theorem tyF32_1 : fldT Tryz.prog 32 1 = some (1, 24) := by kernel_rfl
theorem tyF32_2 : fldT Tryz.prog 32 2 = some (2, 25) := by kernel_rfl
theorem tyF32_3 : fldT Tryz.prog 32 3 = some (3, 26) := by kernel_rfl
theorem tyF32_4 : fldT Tryz.prog 32 4 = some (4, 27) := by kernel_rfl
theorem tyF32_5 : fldT Tryz.prog 32 5 = some (5, 28) := by kernel_rfl
theorem tyF32_6 : fldT Tryz.prog 32 6 = some (6, 3) := by kernel_rfl
theorem tyF32_7 : fldT Tryz.prog 32 7 = some (7, 3) := by kernel_rfl
theorem tyF32_8 : fldT Tryz.prog 32 8 = some (8, 3) := by kernel_rfl
theorem tyF32_9 : fldT Tryz.prog 32 9 = some (9, 3) := by kernel_rfl
theorem tyF32_10 : fldT Tryz.prog 32 10 = some (10, 9) := by kernel_rfl
theorem tyF32_11 : fldT Tryz.prog 32 11 = some (11, 30) := by kernel_rfl
theorem tyF32_12 : fldT Tryz.prog 32 12 = some (13, 3) := by kernel_rfl
theorem tyF32_13 : fldT Tryz.prog 32 13 = some (14, 4) := by kernel_rfl
theorem tyB32 : bldT Tryz.prog 32 = some ([.string ⟨#[]⟩, .slice none 0 0, .slice none 0 0, .slice none 0 0, .slice none 0 0, .slice none 0 0, .int .i64 0, .int .i64 0, .int .i64 0, .int .i64 0, .string ⟨#[]⟩, .int .i64 0, .int .i64 0, .int .i64 0, .bool false], [(0, 1), (1, 1), (2, 1), (3, 1), (4, 1), (5, 1), (6, 1), (7, 1), (8, 1), (9, 1), (10, 1), (11, 2), (13, 1), (14, 1)]) := by kernel_rfl
theorem tyR34 : rowT Tryz.prog 34 = some false := by kernel_rfl
theorem tyS34 : szT Tryz.prog 34 = some 1 := by kernel_rfl
theorem tyZ34 : zT Tryz.prog 34 = some [.nilFunc] := by kernel_rfl
theorem tyR35 : rowT Tryz.prog 35 = some false := by kernel_rfl
theorem tyS35 : szT Tryz.prog 35 = some 1 := by kernel_rfl
theorem tyZ35 : zT Tryz.prog 35 = some [.slice none 0 0] := by kernel_rfl
theorem tyE35 : elT Tryz.prog 35 = some (39, 2, 32) := by kernel_rfl
theorem tyL35 : isSlT Tryz.prog 35 = true := by kernel_rfl
theorem tyR36 : rowT Tryz.prog 36 = some true := by kernel_rfl
theorem tyS36 : szT Tryz.prog 36 = some 5 := by kernel_rfl
theorem tyZ36 : zT Tryz.prog 36 = some [.string ⟨#[]⟩, .string ⟨#[]⟩, .bool false, .bool false, .bool false] := by kernel_rfl
theorem tyF36_0 : fldT Tryz.prog 36 0 = some (0, 9) := by kernel_rfl
theorem tyF36_1 : fldT Tryz.prog 36 1 = some (1, 9) := by kernel_rfl
theorem tyF36_2 : fldT Tryz.prog 36 2 = some (2, 4) := by kernel_rfl
theorem tyF36_3 : fldT Tryz.prog 36 3 = some (3, 4) := by kernel_rfl
theorem tyF36_4 : fldT Tryz.prog 36 4 = some (4, 4) := by kernel_rfl
theorem tyB36 : bldT Tryz.prog 36 = some ([.string ⟨#[]⟩, .string ⟨#[]⟩, .bool false, .bool false, .bool false], [(0, 1), (1, 1), (2, 1), (3, 1), (4, 1)]) := by kernel_rfl
theorem tyR37 : rowT Tryz.prog 37 = some true := by kernel_rfl
theorem tyS37 : szT Tryz.prog 37 = some 5 := by kernel_rfl
theorem tyZ37 : zT Tryz.prog 37 = some [.string ⟨#[]⟩, .string ⟨#[]⟩, .bool false, .bool false, .bool false] := by kernel_rfl
theorem tyF37_0 : fldT Tryz.prog 37 0 = some (0, 9) := by kernel_rfl
theorem tyF37_1 : fldT Tryz.prog 37 1 = some (1, 9) := by kernel_rfl
theorem tyF37_2 : fldT Tryz.prog 37 2 = some (2, 4) := by kernel_rfl
theorem tyF37_3 : fldT Tryz.prog 37 3 = some (3, 4) := by kernel_rfl
theorem tyF37_4 : fldT Tryz.prog 37 4 = some (4, 4) := by kernel_rfl
theorem tyB37 : bldT Tryz.prog 37 = some ([.string ⟨#[]⟩, .string ⟨#[]⟩, .bool false, .bool false, .bool false], [(0, 1), (1, 1), (2, 1), (3, 1), (4, 1)]) := by kernel_rfl
theorem tyR38 : rowT Tryz.prog 38 = some true := by kernel_rfl
theorem tyS38 : szT Tryz.prog 38 = some 2 := by kernel_rfl
theorem tyZ38 : zT Tryz.prog 38 = some [.string ⟨#[]⟩, .string ⟨#[]⟩] := by kernel_rfl
theorem tyF38_0 : fldT Tryz.prog 38 0 = some (0, 9) := by kernel_rfl
theorem tyF38_1 : fldT Tryz.prog 38 1 = some (1, 9) := by kernel_rfl
theorem tyB38 : bldT Tryz.prog 38 = some ([.string ⟨#[]⟩, .string ⟨#[]⟩], [(0, 1), (1, 1)]) := by kernel_rfl
theorem tyR39 : rowT Tryz.prog 39 = some true := by kernel_rfl
theorem tyS39 : szT Tryz.prog 39 = some 2 := by kernel_rfl
theorem tyZ39 : zT Tryz.prog 39 = some [.string ⟨#[]⟩, .string ⟨#[]⟩] := by kernel_rfl
theorem tyF39_0 : fldT Tryz.prog 39 0 = some (0, 9) := by kernel_rfl
theorem tyF39_1 : fldT Tryz.prog 39 1 = some (1, 9) := by kernel_rfl
theorem tyB39 : bldT Tryz.prog 39 = some ([.string ⟨#[]⟩, .string ⟨#[]⟩], [(0, 1), (1, 1)]) := by kernel_rfl
theorem tyR40 : rowT Tryz.prog 40 = some false := by kernel_rfl
theorem tyS40 : szT Tryz.prog 40 = some 1 := by kernel_rfl
theorem tyZ40 : zT Tryz.prog 40 = some [.int .i64 0] := by kernel_rfl
theorem tyU40 : Tryz.prog.underlying 40 = some (.int .i64) := by kernel_rfl
theorem tyR42 : rowT Tryz.prog 42 = some false := by kernel_rfl
theorem tyS42 : szT Tryz.prog 42 = some 1 := by kernel_rfl
theorem tyZ42 : zT Tryz.prog 42 = some [.nilFunc] := by kernel_rfl
theorem tyR43 : rowT Tryz.prog 43 = some false := by kernel_rfl
theorem tyS43 : szT Tryz.prog 43 = some 1 := by kernel_rfl
theorem tyZ43 : zT Tryz.prog 43 = some [.slice none 0 0] := by kernel_rfl
theorem tyE43 : elT Tryz.prog 43 = some (143, 5, 64) := by kernel_rfl
theorem tyL43 : isSlT Tryz.prog 43 = true := by kernel_rfl
theorem tyR45 : rowT Tryz.prog 45 = some false := by kernel_rfl
theorem tyS45 : szT Tryz.prog 45 = some 1 := by kernel_rfl
theorem tyZ45 : zT Tryz.prog 45 = some [.nilFunc] := by kernel_rfl
theorem tyR46 : rowT Tryz.prog 46 = some true := by kernel_rfl
theorem tyS46 : szT Tryz.prog 46 = some 20 := by kernel_rfl
theorem tyZ46 : zT Tryz.prog 46 = some [.slice none 0 0, .string ⟨#[]⟩, .slice none 0 0, .slice none 0 0, .slice none 0 0, .slice none 0 0, .slice none 0 0, .int .i64 0, .int .i64 0, .int .i64 0, .int .i64 0, .string ⟨#[]⟩, .int .i64 0, .int .i64 0, .int .i64 0, .bool false, .bool false, .string ⟨#[]⟩, .string ⟨#[]⟩, .int .i64 0] := by kernel_rfl
theorem tyF46_0 : fldT Tryz.prog 46 0 = some (0, 25) := by kernel_rfl
theorem tyF46_1 : fldT Tryz.prog 46 1 = some (1, 32) := by kernel_rfl
theorem tyF46_2 : fldT Tryz.prog 46 2 = some (16, 4) := by kernel_rfl
theorem tyF46_3 : fldT Tryz.prog 46 3 = some (17, 9) := by kernel_rfl
theorem tyF46_4 : fldT Tryz.prog 46 4 = some (18, 9) := by kernel_rfl
theorem tyF46_5 : fldT Tryz.prog 46 5 = some (19, 3) := by kernel_rfl
theorem tyB46 : bldT Tryz.prog 46 = some ([.slice none 0 0, .string ⟨#[]⟩, .slice none 0 0, .slice none 0 0, .slice none 0 0, .slice none 0 0, .slice none 0 0, .int .i64 0, .int .i64 0, .int .i64 0, .int .i64 0, .string ⟨#[]⟩, .int .i64 0, .int .i64 0, .int .i64 0, .bool false, .bool false, .string ⟨#[]⟩, .string ⟨#[]⟩, .int .i64 0], [(0, 1), (1, 15), (16, 1), (17, 1), (18, 1), (19, 1)]) := by kernel_rfl
theorem tyR47 : rowT Tryz.prog 47 = some true := by kernel_rfl
theorem tyS47 : szT Tryz.prog 47 = some 20 := by kernel_rfl
theorem tyZ47 : zT Tryz.prog 47 = some [.slice none 0 0, .string ⟨#[]⟩, .slice none 0 0, .slice none 0 0, .slice none 0 0, .slice none 0 0, .slice none 0 0, .int .i64 0, .int .i64 0, .int .i64 0, .int .i64 0, .string ⟨#[]⟩, .int .i64 0, .int .i64 0, .int .i64 0, .bool false, .bool false, .string ⟨#[]⟩, .string ⟨#[]⟩, .int .i64 0] := by kernel_rfl
theorem tyF47_0 : fldT Tryz.prog 47 0 = some (0, 25) := by kernel_rfl
theorem tyF47_1 : fldT Tryz.prog 47 1 = some (1, 32) := by kernel_rfl
theorem tyF47_2 : fldT Tryz.prog 47 2 = some (16, 4) := by kernel_rfl
theorem tyF47_3 : fldT Tryz.prog 47 3 = some (17, 9) := by kernel_rfl
theorem tyF47_4 : fldT Tryz.prog 47 4 = some (18, 9) := by kernel_rfl
theorem tyF47_5 : fldT Tryz.prog 47 5 = some (19, 3) := by kernel_rfl
theorem tyB47 : bldT Tryz.prog 47 = some ([.slice none 0 0, .string ⟨#[]⟩, .slice none 0 0, .slice none 0 0, .slice none 0 0, .slice none 0 0, .slice none 0 0, .int .i64 0, .int .i64 0, .int .i64 0, .int .i64 0, .string ⟨#[]⟩, .int .i64 0, .int .i64 0, .int .i64 0, .bool false, .bool false, .string ⟨#[]⟩, .string ⟨#[]⟩, .int .i64 0], [(0, 1), (1, 15), (16, 1), (17, 1), (18, 1), (19, 1)]) := by kernel_rfl
theorem tyR49 : rowT Tryz.prog 49 = some false := by kernel_rfl
theorem tyS49 : szT Tryz.prog 49 = some 1 := by kernel_rfl
theorem tyZ49 : zT Tryz.prog 49 = some [.nilFunc] := by kernel_rfl
theorem tyR50 : rowT Tryz.prog 50 = some false := by kernel_rfl
theorem tyS50 : szT Tryz.prog 50 = some 1 := by kernel_rfl
theorem tyZ50 : zT Tryz.prog 50 = some [.slice none 0 0] := by kernel_rfl
theorem tyE50 : elT Tryz.prog 50 = some (79, 3, 40) := by kernel_rfl
theorem tyL50 : isSlT Tryz.prog 50 = true := by kernel_rfl
theorem tyR51 : rowT Tryz.prog 51 = some false := by kernel_rfl
theorem tyS51 : szT Tryz.prog 51 = some 1 := by kernel_rfl
theorem tyZ51 : zT Tryz.prog 51 = some [.nilFunc] := by kernel_rfl
theorem tyR52 : rowT Tryz.prog 52 = some true := by kernel_rfl
theorem tyS52 : szT Tryz.prog 52 = some 2 := by kernel_rfl
theorem tyZ52 : zT Tryz.prog 52 = some [.int .i64 0, .slice none 0 0] := by kernel_rfl
theorem tyF52_0 : fldT Tryz.prog 52 0 = some (0, 3) := by kernel_rfl
theorem tyF52_1 : fldT Tryz.prog 52 1 = some (1, 43) := by kernel_rfl
theorem tyB52 : bldT Tryz.prog 52 = some ([.int .i64 0, .slice none 0 0], [(0, 1), (1, 1)]) := by kernel_rfl
theorem tyR53 : rowT Tryz.prog 53 = some true := by kernel_rfl
theorem tyS53 : szT Tryz.prog 53 = some 2 := by kernel_rfl
theorem tyZ53 : zT Tryz.prog 53 = some [.int .i64 0, .slice none 0 0] := by kernel_rfl
theorem tyF53_0 : fldT Tryz.prog 53 0 = some (0, 3) := by kernel_rfl
theorem tyF53_1 : fldT Tryz.prog 53 1 = some (1, 43) := by kernel_rfl
theorem tyB53 : bldT Tryz.prog 53 = some ([.int .i64 0, .slice none 0 0], [(0, 1), (1, 1)]) := by kernel_rfl
theorem tyR54 : rowT Tryz.prog 54 = some false := by kernel_rfl
theorem tyS54 : szT Tryz.prog 54 = some 1 := by kernel_rfl
theorem tyZ54 : zT Tryz.prog 54 = some [.slice none 0 0] := by kernel_rfl
theorem tyE54 : elT Tryz.prog 54 = some (53, 2, 32) := by kernel_rfl
theorem tyL54 : isSlT Tryz.prog 54 = true := by kernel_rfl
theorem tyR55 : rowT Tryz.prog 55 = some false := by kernel_rfl
theorem tyS55 : szT Tryz.prog 55 = some 1 := by kernel_rfl
theorem tyZ55 : zT Tryz.prog 55 = some [.nilFunc] := by kernel_rfl
theorem tyR57 : rowT Tryz.prog 57 = some false := by kernel_rfl
theorem tyS57 : szT Tryz.prog 57 = some 1 := by kernel_rfl
theorem tyZ57 : zT Tryz.prog 57 = some [.nilFunc] := by kernel_rfl
theorem tyR58 : rowT Tryz.prog 58 = some false := by kernel_rfl
theorem tyS58 : szT Tryz.prog 58 = some 1 := by kernel_rfl
theorem tyZ58 : zT Tryz.prog 58 = some [.nilFunc] := by kernel_rfl
theorem tyR60 : rowT Tryz.prog 60 = some false := by kernel_rfl
theorem tyS60 : szT Tryz.prog 60 = some 1 := by kernel_rfl
theorem tyZ60 : zT Tryz.prog 60 = some [.nilFunc] := by kernel_rfl
theorem tyR61 : rowT Tryz.prog 61 = some false := by kernel_rfl
theorem tyS61 : szT Tryz.prog 61 = some 1 := by kernel_rfl
theorem tyZ61 : zT Tryz.prog 61 = some [.nilFunc] := by kernel_rfl
theorem tyR63 : rowT Tryz.prog 63 = some false := by kernel_rfl
theorem tyS63 : szT Tryz.prog 63 = some 1 := by kernel_rfl
theorem tyZ63 : zT Tryz.prog 63 = some [.nilFunc] := by kernel_rfl
theorem tyR64 : rowT Tryz.prog 64 = some false := by kernel_rfl
theorem tyS64 : szT Tryz.prog 64 = some 1 := by kernel_rfl
theorem tyZ64 : zT Tryz.prog 64 = some [.slice none 0 0] := by kernel_rfl
theorem tyE64 : elT Tryz.prog 64 = some (66, 4, 56) := by kernel_rfl
theorem tyL64 : isSlT Tryz.prog 64 = true := by kernel_rfl
theorem tyR65 : rowT Tryz.prog 65 = some true := by kernel_rfl
theorem tyS65 : szT Tryz.prog 65 = some 4 := by kernel_rfl
theorem tyZ65 : zT Tryz.prog 65 = some [.int .i64 0, .int .i64 0, .string ⟨#[]⟩, .slice none 0 0] := by kernel_rfl
theorem tyF65_0 : fldT Tryz.prog 65 0 = some (0, 3) := by kernel_rfl
theorem tyF65_1 : fldT Tryz.prog 65 1 = some (1, 3) := by kernel_rfl
theorem tyF65_2 : fldT Tryz.prog 65 2 = some (2, 9) := by kernel_rfl
theorem tyF65_3 : fldT Tryz.prog 65 3 = some (3, 64) := by kernel_rfl
theorem tyB65 : bldT Tryz.prog 65 = some ([.int .i64 0, .int .i64 0, .string ⟨#[]⟩, .slice none 0 0], [(0, 1), (1, 1), (2, 1), (3, 1)]) := by kernel_rfl
theorem tyR66 : rowT Tryz.prog 66 = some true := by kernel_rfl
theorem tyS66 : szT Tryz.prog 66 = some 4 := by kernel_rfl
theorem tyZ66 : zT Tryz.prog 66 = some [.int .i64 0, .int .i64 0, .string ⟨#[]⟩, .slice none 0 0] := by kernel_rfl
theorem tyF66_0 : fldT Tryz.prog 66 0 = some (0, 3) := by kernel_rfl
theorem tyF66_1 : fldT Tryz.prog 66 1 = some (1, 3) := by kernel_rfl
theorem tyF66_2 : fldT Tryz.prog 66 2 = some (2, 9) := by kernel_rfl
theorem tyF66_3 : fldT Tryz.prog 66 3 = some (3, 64) := by kernel_rfl
theorem tyB66 : bldT Tryz.prog 66 = some ([.int .i64 0, .int .i64 0, .string ⟨#[]⟩, .slice none 0 0], [(0, 1), (1, 1), (2, 1), (3, 1)]) := by kernel_rfl
theorem tyR68 : rowT Tryz.prog 68 = some false := by kernel_rfl
theorem tyS68 : szT Tryz.prog 68 = some 1 := by kernel_rfl
theorem tyZ68 : zT Tryz.prog 68 = some [.nilFunc] := by kernel_rfl
theorem tyR69 : rowT Tryz.prog 69 = some false := by kernel_rfl
theorem tyS69 : szT Tryz.prog 69 = some 1 := by kernel_rfl
theorem tyZ69 : zT Tryz.prog 69 = some [.nilFunc] := by kernel_rfl
theorem tyR70 : rowT Tryz.prog 70 = some false := by kernel_rfl
theorem tyS70 : szT Tryz.prog 70 = some 1 := by kernel_rfl
theorem tyZ70 : zT Tryz.prog 70 = some [.nilFunc] := by kernel_rfl
theorem tyR71 : rowT Tryz.prog 71 = some false := by kernel_rfl
theorem tyS71 : szT Tryz.prog 71 = some 1 := by kernel_rfl
theorem tyZ71 : zT Tryz.prog 71 = some [.int .i64 0] := by kernel_rfl
theorem tyU71 : Tryz.prog.underlying 71 = some (.int .i64) := by kernel_rfl
theorem tyR72 : rowT Tryz.prog 72 = some false := by kernel_rfl
theorem tyS72 : szT Tryz.prog 72 = some 1 := by kernel_rfl
theorem tyZ72 : zT Tryz.prog 72 = some [.slice none 0 0] := by kernel_rfl
theorem tyE72 : elT Tryz.prog 72 = some (276, 2, 24) := by kernel_rfl
theorem tyL72 : isSlT Tryz.prog 72 = true := by kernel_rfl
theorem tyR73 : rowT Tryz.prog 73 = some false := by kernel_rfl
theorem tyS73 : szT Tryz.prog 73 = some 1 := by kernel_rfl
theorem tyZ73 : zT Tryz.prog 73 = some [.pointer none] := by kernel_rfl
theorem tyR74 : rowT Tryz.prog 74 = some false := by kernel_rfl
theorem tyS74 : szT Tryz.prog 74 = some 1 := by kernel_rfl
theorem tyZ74 : zT Tryz.prog 74 = some [.nilFunc] := by kernel_rfl
theorem tyR75 : rowT Tryz.prog 75 = some false := by kernel_rfl
theorem tyS75 : szT Tryz.prog 75 = some 1 := by kernel_rfl
theorem tyZ75 : zT Tryz.prog 75 = some [.nilFunc] := by kernel_rfl
theorem tyR76 : rowT Tryz.prog 76 = some false := by kernel_rfl
theorem tyS76 : szT Tryz.prog 76 = some 1 := by kernel_rfl
theorem tyZ76 : zT Tryz.prog 76 = some [.nilFunc] := by kernel_rfl
theorem tyR77 : rowT Tryz.prog 77 = some false := by kernel_rfl
theorem tyS77 : szT Tryz.prog 77 = some 1 := by kernel_rfl
theorem tyZ77 : zT Tryz.prog 77 = some [.nilFunc] := by kernel_rfl
theorem tyR78 : rowT Tryz.prog 78 = some true := by kernel_rfl
theorem tyS78 : szT Tryz.prog 78 = some 3 := by kernel_rfl
theorem tyZ78 : zT Tryz.prog 78 = some [.string ⟨#[]⟩, .bool false, .string ⟨#[]⟩] := by kernel_rfl
theorem tyF78_0 : fldT Tryz.prog 78 0 = some (0, 9) := by kernel_rfl
theorem tyF78_1 : fldT Tryz.prog 78 1 = some (1, 4) := by kernel_rfl
theorem tyF78_2 : fldT Tryz.prog 78 2 = some (2, 9) := by kernel_rfl
theorem tyB78 : bldT Tryz.prog 78 = some ([.string ⟨#[]⟩, .bool false, .string ⟨#[]⟩], [(0, 1), (1, 1), (2, 1)]) := by kernel_rfl
theorem tyR79 : rowT Tryz.prog 79 = some true := by kernel_rfl
theorem tyS79 : szT Tryz.prog 79 = some 3 := by kernel_rfl
theorem tyZ79 : zT Tryz.prog 79 = some [.string ⟨#[]⟩, .bool false, .string ⟨#[]⟩] := by kernel_rfl
theorem tyF79_0 : fldT Tryz.prog 79 0 = some (0, 9) := by kernel_rfl
theorem tyF79_1 : fldT Tryz.prog 79 1 = some (1, 4) := by kernel_rfl
theorem tyF79_2 : fldT Tryz.prog 79 2 = some (2, 9) := by kernel_rfl
theorem tyB79 : bldT Tryz.prog 79 = some ([.string ⟨#[]⟩, .bool false, .string ⟨#[]⟩], [(0, 1), (1, 1), (2, 1)]) := by kernel_rfl
theorem tyR80 : rowT Tryz.prog 80 = some false := by kernel_rfl
theorem tyS80 : szT Tryz.prog 80 = some 1 := by kernel_rfl
theorem tyZ80 : zT Tryz.prog 80 = some [.nilFunc] := by kernel_rfl
theorem tyR81 : rowT Tryz.prog 81 = some false := by kernel_rfl
theorem tyS81 : szT Tryz.prog 81 = some 1 := by kernel_rfl
theorem tyZ81 : zT Tryz.prog 81 = some [.nilFunc] := by kernel_rfl
theorem tyR82 : rowT Tryz.prog 82 = some false := by kernel_rfl
theorem tyS82 : szT Tryz.prog 82 = some 1 := by kernel_rfl
theorem tyZ82 : zT Tryz.prog 82 = some [.nilFunc] := by kernel_rfl
theorem tyR84 : rowT Tryz.prog 84 = some false := by kernel_rfl
theorem tyS84 : szT Tryz.prog 84 = some 1 := by kernel_rfl
theorem tyZ84 : zT Tryz.prog 84 = some [.nilFunc] := by kernel_rfl
theorem tyR85 : rowT Tryz.prog 85 = some false := by kernel_rfl
theorem tyS85 : szT Tryz.prog 85 = some 1 := by kernel_rfl
theorem tyZ85 : zT Tryz.prog 85 = some [.nilFunc] := by kernel_rfl
theorem tyR86 : rowT Tryz.prog 86 = some true := by kernel_rfl
theorem tyS86 : szT Tryz.prog 86 = some 2 := by kernel_rfl
theorem tyZ86 : zT Tryz.prog 86 = some [.int .i64 0, .int .i64 0] := by kernel_rfl
theorem tyF86_0 : fldT Tryz.prog 86 0 = some (0, 3) := by kernel_rfl
theorem tyF86_1 : fldT Tryz.prog 86 1 = some (1, 40) := by kernel_rfl
theorem tyB86 : bldT Tryz.prog 86 = some ([.int .i64 0, .int .i64 0], [(0, 1), (1, 1)]) := by kernel_rfl
theorem tyR87 : rowT Tryz.prog 87 = some true := by kernel_rfl
theorem tyS87 : szT Tryz.prog 87 = some 2 := by kernel_rfl
theorem tyZ87 : zT Tryz.prog 87 = some [.int .i64 0, .int .i64 0] := by kernel_rfl
theorem tyF87_0 : fldT Tryz.prog 87 0 = some (0, 3) := by kernel_rfl
theorem tyF87_1 : fldT Tryz.prog 87 1 = some (1, 40) := by kernel_rfl
theorem tyB87 : bldT Tryz.prog 87 = some ([.int .i64 0, .int .i64 0], [(0, 1), (1, 1)]) := by kernel_rfl
theorem tyR89 : rowT Tryz.prog 89 = some false := by kernel_rfl
theorem tyS89 : szT Tryz.prog 89 = some 1 := by kernel_rfl
theorem tyZ89 : zT Tryz.prog 89 = some [.pointer none] := by kernel_rfl
theorem tyR90 : rowT Tryz.prog 90 = some true := by kernel_rfl
theorem tyS90 : szT Tryz.prog 90 = some 3 := by kernel_rfl
theorem tyZ90 : zT Tryz.prog 90 = some [.int .i64 0, .int .i64 0, .string ⟨#[]⟩] := by kernel_rfl
theorem tyF90_0 : fldT Tryz.prog 90 0 = some (0, 3) := by kernel_rfl
theorem tyF90_1 : fldT Tryz.prog 90 1 = some (1, 3) := by kernel_rfl
theorem tyF90_2 : fldT Tryz.prog 90 2 = some (2, 9) := by kernel_rfl
theorem tyB90 : bldT Tryz.prog 90 = some ([.int .i64 0, .int .i64 0, .string ⟨#[]⟩], [(0, 1), (1, 1), (2, 1)]) := by kernel_rfl
theorem tyR91 : rowT Tryz.prog 91 = some true := by kernel_rfl
theorem tyS91 : szT Tryz.prog 91 = some 3 := by kernel_rfl
theorem tyZ91 : zT Tryz.prog 91 = some [.int .i64 0, .int .i64 0, .string ⟨#[]⟩] := by kernel_rfl
theorem tyF91_0 : fldT Tryz.prog 91 0 = some (0, 3) := by kernel_rfl
theorem tyF91_1 : fldT Tryz.prog 91 1 = some (1, 3) := by kernel_rfl
theorem tyF91_2 : fldT Tryz.prog 91 2 = some (2, 9) := by kernel_rfl
theorem tyB91 : bldT Tryz.prog 91 = some ([.int .i64 0, .int .i64 0, .string ⟨#[]⟩], [(0, 1), (1, 1), (2, 1)]) := by kernel_rfl
theorem tyR92 : rowT Tryz.prog 92 = some false := by kernel_rfl
theorem tyS92 : szT Tryz.prog 92 = some 1 := by kernel_rfl
theorem tyZ92 : zT Tryz.prog 92 = some [.nilFunc] := by kernel_rfl
theorem tyR93 : rowT Tryz.prog 93 = some true := by kernel_rfl
theorem tyS93 : szT Tryz.prog 93 = some 4 := by kernel_rfl
theorem tyZ93 : zT Tryz.prog 93 = some [.string ⟨#[]⟩, .int .i64 0, .int .i64 0, .string ⟨#[]⟩] := by kernel_rfl
theorem tyF93_0 : fldT Tryz.prog 93 0 = some (0, 9) := by kernel_rfl
theorem tyF93_1 : fldT Tryz.prog 93 1 = some (1, 91) := by kernel_rfl
theorem tyB93 : bldT Tryz.prog 93 = some ([.string ⟨#[]⟩, .int .i64 0, .int .i64 0, .string ⟨#[]⟩], [(0, 1), (1, 3)]) := by kernel_rfl
theorem tyR94 : rowT Tryz.prog 94 = some true := by kernel_rfl
theorem tyS94 : szT Tryz.prog 94 = some 4 := by kernel_rfl
theorem tyZ94 : zT Tryz.prog 94 = some [.string ⟨#[]⟩, .int .i64 0, .int .i64 0, .string ⟨#[]⟩] := by kernel_rfl
theorem tyF94_0 : fldT Tryz.prog 94 0 = some (0, 9) := by kernel_rfl
theorem tyF94_1 : fldT Tryz.prog 94 1 = some (1, 91) := by kernel_rfl
theorem tyB94 : bldT Tryz.prog 94 = some ([.string ⟨#[]⟩, .int .i64 0, .int .i64 0, .string ⟨#[]⟩], [(0, 1), (1, 3)]) := by kernel_rfl
theorem tyR95 : rowT Tryz.prog 95 = some false := by kernel_rfl
theorem tyS95 : szT Tryz.prog 95 = some 1 := by kernel_rfl
theorem tyZ95 : zT Tryz.prog 95 = some [.nilFunc] := by kernel_rfl
theorem tyR96 : rowT Tryz.prog 96 = some false := by kernel_rfl
theorem tyS96 : szT Tryz.prog 96 = some 1 := by kernel_rfl
theorem tyZ96 : zT Tryz.prog 96 = some [.nilFunc] := by kernel_rfl
theorem tyR97 : rowT Tryz.prog 97 = some false := by kernel_rfl
theorem tyS97 : szT Tryz.prog 97 = some 1 := by kernel_rfl
theorem tyZ97 : zT Tryz.prog 97 = some [.nilFunc] := by kernel_rfl
theorem tyR98 : rowT Tryz.prog 98 = some false := by kernel_rfl
theorem tyS98 : szT Tryz.prog 98 = some 1 := by kernel_rfl
theorem tyZ98 : zT Tryz.prog 98 = some [.map none] := by kernel_rfl
theorem tyR99 : rowT Tryz.prog 99 = some false := by kernel_rfl
theorem tyS99 : szT Tryz.prog 99 = some 1 := by kernel_rfl
theorem tyZ99 : zT Tryz.prog 99 = some [.nilFunc] := by kernel_rfl
theorem tyR100 : rowT Tryz.prog 100 = some false := by kernel_rfl
theorem tyS100 : szT Tryz.prog 100 = some 1 := by kernel_rfl
theorem tyZ100 : zT Tryz.prog 100 = some [.nilFunc] := by kernel_rfl
theorem tyR102 : rowT Tryz.prog 102 = some true := by kernel_rfl
theorem tyS102 : szT Tryz.prog 102 = some 2 := by kernel_rfl
theorem tyZ102 : zT Tryz.prog 102 = some [.nilFunc, .nilFunc] := by kernel_rfl
theorem tyF102_0 : fldT Tryz.prog 102 0 = some (0, 100) := by kernel_rfl
theorem tyF102_1 : fldT Tryz.prog 102 1 = some (1, 99) := by kernel_rfl
theorem tyB102 : bldT Tryz.prog 102 = some ([.nilFunc, .nilFunc], [(0, 1), (1, 1)]) := by kernel_rfl
theorem tyR103 : rowT Tryz.prog 103 = some true := by kernel_rfl
theorem tyS103 : szT Tryz.prog 103 = some 2 := by kernel_rfl
theorem tyZ103 : zT Tryz.prog 103 = some [.nilFunc, .nilFunc] := by kernel_rfl
theorem tyF103_0 : fldT Tryz.prog 103 0 = some (0, 100) := by kernel_rfl
theorem tyF103_1 : fldT Tryz.prog 103 1 = some (1, 99) := by kernel_rfl
theorem tyB103 : bldT Tryz.prog 103 = some ([.nilFunc, .nilFunc], [(0, 1), (1, 1)]) := by kernel_rfl
theorem tyR104 : rowT Tryz.prog 104 = some false := by kernel_rfl
theorem tyS104 : szT Tryz.prog 104 = some 1 := by kernel_rfl
theorem tyZ104 : zT Tryz.prog 104 = some [.nilFunc] := by kernel_rfl
theorem tyR105 : rowT Tryz.prog 105 = some false := by kernel_rfl
theorem tyS105 : szT Tryz.prog 105 = some 1 := by kernel_rfl
theorem tyZ105 : zT Tryz.prog 105 = some [.nilFunc] := by kernel_rfl
theorem tyR106 : rowT Tryz.prog 106 = some false := by kernel_rfl
theorem tyS106 : szT Tryz.prog 106 = some 1 := by kernel_rfl
theorem tyZ106 : zT Tryz.prog 106 = some [.nilFunc] := by kernel_rfl
theorem tyR107 : rowT Tryz.prog 107 = some false := by kernel_rfl
theorem tyS107 : szT Tryz.prog 107 = some 1 := by kernel_rfl
theorem tyZ107 : zT Tryz.prog 107 = some [.nilFunc] := by kernel_rfl
theorem tyR108 : rowT Tryz.prog 108 = some false := by kernel_rfl
theorem tyS108 : szT Tryz.prog 108 = some 1 := by kernel_rfl
theorem tyZ108 : zT Tryz.prog 108 = some [.nilFunc] := by kernel_rfl
theorem tyR109 : rowT Tryz.prog 109 = some true := by kernel_rfl
theorem tyS109 : szT Tryz.prog 109 = some 2 := by kernel_rfl
theorem tyZ109 : zT Tryz.prog 109 = some [.int .i64 0, .int .i64 0] := by kernel_rfl
theorem tyF109_0 : fldT Tryz.prog 109 0 = some (0, 3) := by kernel_rfl
theorem tyF109_1 : fldT Tryz.prog 109 1 = some (1, 40) := by kernel_rfl
theorem tyB109 : bldT Tryz.prog 109 = some ([.int .i64 0, .int .i64 0], [(0, 1), (1, 1)]) := by kernel_rfl
theorem tyR110 : rowT Tryz.prog 110 = some true := by kernel_rfl
theorem tyS110 : szT Tryz.prog 110 = some 2 := by kernel_rfl
theorem tyZ110 : zT Tryz.prog 110 = some [.int .i64 0, .int .i64 0] := by kernel_rfl
theorem tyF110_0 : fldT Tryz.prog 110 0 = some (0, 3) := by kernel_rfl
theorem tyF110_1 : fldT Tryz.prog 110 1 = some (1, 40) := by kernel_rfl
theorem tyB110 : bldT Tryz.prog 110 = some ([.int .i64 0, .int .i64 0], [(0, 1), (1, 1)]) := by kernel_rfl
theorem tyR112 : rowT Tryz.prog 112 = some false := by kernel_rfl
theorem tyS112 : szT Tryz.prog 112 = some 1 := by kernel_rfl
theorem tyZ112 : zT Tryz.prog 112 = some [.nilFunc] := by kernel_rfl
theorem tyR113 : rowT Tryz.prog 113 = some false := by kernel_rfl
theorem tyS113 : szT Tryz.prog 113 = some 1 := by kernel_rfl
theorem tyZ113 : zT Tryz.prog 113 = some [.pointer none] := by kernel_rfl
theorem tyR114 : rowT Tryz.prog 114 = some false := by kernel_rfl
theorem tyS114 : szT Tryz.prog 114 = some 1 := by kernel_rfl
theorem tyZ114 : zT Tryz.prog 114 = some [.slice none 0 0] := by kernel_rfl
theorem tyE114 : elT Tryz.prog 114 = some (5, 1, 1) := by kernel_rfl
theorem tyL114 : isSlT Tryz.prog 114 = true := by kernel_rfl
theorem tyC114_9 : bsT Tryz.prog 114 9 = true := by kernel_rfl
theorem tyR115 : rowT Tryz.prog 115 = some true := by kernel_rfl
theorem tyS115 : szT Tryz.prog 115 = some 9 := by kernel_rfl
theorem tyZ115 : zT Tryz.prog 115 = some [.string ⟨#[]⟩, .int .i64 0, .int .i64 0, .bool false, .int .i64 0, .int .i64 0, .int .i64 0, .slice none 0 0, .slice none 0 0] := by kernel_rfl
theorem tyF115_0 : fldT Tryz.prog 115 0 = some (0, 9) := by kernel_rfl
theorem tyF115_1 : fldT Tryz.prog 115 1 = some (1, 3) := by kernel_rfl
theorem tyF115_2 : fldT Tryz.prog 115 2 = some (2, 71) := by kernel_rfl
theorem tyF115_3 : fldT Tryz.prog 115 3 = some (3, 4) := by kernel_rfl
theorem tyF115_4 : fldT Tryz.prog 115 4 = some (4, 3) := by kernel_rfl
theorem tyF115_5 : fldT Tryz.prog 115 5 = some (5, 3) := by kernel_rfl
theorem tyF115_6 : fldT Tryz.prog 115 6 = some (6, 3) := by kernel_rfl
theorem tyF115_7 : fldT Tryz.prog 115 7 = some (7, 114) := by kernel_rfl
theorem tyF115_8 : fldT Tryz.prog 115 8 = some (8, 43) := by kernel_rfl
theorem tyB115 : bldT Tryz.prog 115 = some ([.string ⟨#[]⟩, .int .i64 0, .int .i64 0, .bool false, .int .i64 0, .int .i64 0, .int .i64 0, .slice none 0 0, .slice none 0 0], [(0, 1), (1, 1), (2, 1), (3, 1), (4, 1), (5, 1), (6, 1), (7, 1), (8, 1)]) := by kernel_rfl
theorem tyR116 : rowT Tryz.prog 116 = some true := by kernel_rfl
theorem tyS116 : szT Tryz.prog 116 = some 9 := by kernel_rfl
theorem tyZ116 : zT Tryz.prog 116 = some [.string ⟨#[]⟩, .int .i64 0, .int .i64 0, .bool false, .int .i64 0, .int .i64 0, .int .i64 0, .slice none 0 0, .slice none 0 0] := by kernel_rfl
theorem tyF116_0 : fldT Tryz.prog 116 0 = some (0, 9) := by kernel_rfl
theorem tyF116_1 : fldT Tryz.prog 116 1 = some (1, 3) := by kernel_rfl
theorem tyF116_2 : fldT Tryz.prog 116 2 = some (2, 71) := by kernel_rfl
theorem tyF116_3 : fldT Tryz.prog 116 3 = some (3, 4) := by kernel_rfl
theorem tyF116_4 : fldT Tryz.prog 116 4 = some (4, 3) := by kernel_rfl
theorem tyF116_5 : fldT Tryz.prog 116 5 = some (5, 3) := by kernel_rfl
theorem tyF116_6 : fldT Tryz.prog 116 6 = some (6, 3) := by kernel_rfl
theorem tyF116_7 : fldT Tryz.prog 116 7 = some (7, 114) := by kernel_rfl
theorem tyF116_8 : fldT Tryz.prog 116 8 = some (8, 43) := by kernel_rfl
theorem tyB116 : bldT Tryz.prog 116 = some ([.string ⟨#[]⟩, .int .i64 0, .int .i64 0, .bool false, .int .i64 0, .int .i64 0, .int .i64 0, .slice none 0 0, .slice none 0 0], [(0, 1), (1, 1), (2, 1), (3, 1), (4, 1), (5, 1), (6, 1), (7, 1), (8, 1)]) := by kernel_rfl
theorem tyR117 : rowT Tryz.prog 117 = some true := by kernel_rfl
theorem tyS117 : szT Tryz.prog 117 = some 22 := by kernel_rfl
theorem tyZ117 : zT Tryz.prog 117 = some [.string ⟨#[]⟩, .slice none 0 0, .slice none 0 0, .slice none 0 0, .slice none 0 0, .slice none 0 0, .int .i64 0, .int .i64 0, .int .i64 0, .int .i64 0, .string ⟨#[]⟩, .int .i64 0, .int .i64 0, .int .i64 0, .bool false, .slice none 0 0, .slice none 0 0, .int .i64 0, .bool false, .string ⟨#[]⟩, .string ⟨#[]⟩, .int .i64 0] := by kernel_rfl
theorem tyF117_0 : fldT Tryz.prog 117 0 = some (0, 32) := by kernel_rfl
theorem tyF117_1 : fldT Tryz.prog 117 1 = some (15, 50) := by kernel_rfl
theorem tyF117_2 : fldT Tryz.prog 117 2 = some (16, 72) := by kernel_rfl
theorem tyF117_3 : fldT Tryz.prog 117 3 = some (17, 3) := by kernel_rfl
theorem tyF117_4 : fldT Tryz.prog 117 4 = some (18, 4) := by kernel_rfl
theorem tyF117_5 : fldT Tryz.prog 117 5 = some (19, 9) := by kernel_rfl
theorem tyF117_6 : fldT Tryz.prog 117 6 = some (20, 9) := by kernel_rfl
theorem tyF117_7 : fldT Tryz.prog 117 7 = some (21, 40) := by kernel_rfl
theorem tyB117 : bldT Tryz.prog 117 = some ([.string ⟨#[]⟩, .slice none 0 0, .slice none 0 0, .slice none 0 0, .slice none 0 0, .slice none 0 0, .int .i64 0, .int .i64 0, .int .i64 0, .int .i64 0, .string ⟨#[]⟩, .int .i64 0, .int .i64 0, .int .i64 0, .bool false, .slice none 0 0, .slice none 0 0, .int .i64 0, .bool false, .string ⟨#[]⟩, .string ⟨#[]⟩, .int .i64 0], [(0, 15), (15, 1), (16, 1), (17, 1), (18, 1), (19, 1), (20, 1), (21, 1)]) := by kernel_rfl
theorem tyR118 : rowT Tryz.prog 118 = some true := by kernel_rfl
theorem tyS118 : szT Tryz.prog 118 = some 22 := by kernel_rfl
theorem tyZ118 : zT Tryz.prog 118 = some [.string ⟨#[]⟩, .slice none 0 0, .slice none 0 0, .slice none 0 0, .slice none 0 0, .slice none 0 0, .int .i64 0, .int .i64 0, .int .i64 0, .int .i64 0, .string ⟨#[]⟩, .int .i64 0, .int .i64 0, .int .i64 0, .bool false, .slice none 0 0, .slice none 0 0, .int .i64 0, .bool false, .string ⟨#[]⟩, .string ⟨#[]⟩, .int .i64 0] := by kernel_rfl
theorem tyF118_0 : fldT Tryz.prog 118 0 = some (0, 32) := by kernel_rfl
theorem tyF118_1 : fldT Tryz.prog 118 1 = some (15, 50) := by kernel_rfl
theorem tyF118_2 : fldT Tryz.prog 118 2 = some (16, 72) := by kernel_rfl
theorem tyF118_3 : fldT Tryz.prog 118 3 = some (17, 3) := by kernel_rfl
theorem tyF118_4 : fldT Tryz.prog 118 4 = some (18, 4) := by kernel_rfl
theorem tyF118_5 : fldT Tryz.prog 118 5 = some (19, 9) := by kernel_rfl
theorem tyF118_6 : fldT Tryz.prog 118 6 = some (20, 9) := by kernel_rfl
theorem tyF118_7 : fldT Tryz.prog 118 7 = some (21, 40) := by kernel_rfl
theorem tyB118 : bldT Tryz.prog 118 = some ([.string ⟨#[]⟩, .slice none 0 0, .slice none 0 0, .slice none 0 0, .slice none 0 0, .slice none 0 0, .int .i64 0, .int .i64 0, .int .i64 0, .int .i64 0, .string ⟨#[]⟩, .int .i64 0, .int .i64 0, .int .i64 0, .bool false, .slice none 0 0, .slice none 0 0, .int .i64 0, .bool false, .string ⟨#[]⟩, .string ⟨#[]⟩, .int .i64 0], [(0, 15), (15, 1), (16, 1), (17, 1), (18, 1), (19, 1), (20, 1), (21, 1)]) := by kernel_rfl
theorem tyR119 : rowT Tryz.prog 119 = some false := by kernel_rfl
theorem tyS119 : szT Tryz.prog 119 = some 1 := by kernel_rfl
theorem tyZ119 : zT Tryz.prog 119 = some [.slice none 0 0] := by kernel_rfl
theorem tyE119 : elT Tryz.prog 119 = some (153, 2, 24) := by kernel_rfl
theorem tyL119 : isSlT Tryz.prog 119 = true := by kernel_rfl
theorem tyR121 : rowT Tryz.prog 121 = some false := by kernel_rfl
theorem tyS121 : szT Tryz.prog 121 = some 1 := by kernel_rfl
theorem tyZ121 : zT Tryz.prog 121 = some [.nilFunc] := by kernel_rfl
theorem tyR122 : rowT Tryz.prog 122 = some true := by kernel_rfl
theorem tyS122 : szT Tryz.prog 122 = some 3 := by kernel_rfl
theorem tyZ122 : zT Tryz.prog 122 = some [.bool false, .bool false, .int .i64 0] := by kernel_rfl
theorem tyF122_0 : fldT Tryz.prog 122 0 = some (0, 4) := by kernel_rfl
theorem tyF122_1 : fldT Tryz.prog 122 1 = some (1, 4) := by kernel_rfl
theorem tyF122_2 : fldT Tryz.prog 122 2 = some (2, 3) := by kernel_rfl
theorem tyB122 : bldT Tryz.prog 122 = some ([.bool false, .bool false, .int .i64 0], [(0, 1), (1, 1), (2, 1)]) := by kernel_rfl
theorem tyR123 : rowT Tryz.prog 123 = some true := by kernel_rfl
theorem tyS123 : szT Tryz.prog 123 = some 3 := by kernel_rfl
theorem tyZ123 : zT Tryz.prog 123 = some [.bool false, .bool false, .int .i64 0] := by kernel_rfl
theorem tyF123_0 : fldT Tryz.prog 123 0 = some (0, 4) := by kernel_rfl
theorem tyF123_1 : fldT Tryz.prog 123 1 = some (1, 4) := by kernel_rfl
theorem tyF123_2 : fldT Tryz.prog 123 2 = some (2, 3) := by kernel_rfl
theorem tyB123 : bldT Tryz.prog 123 = some ([.bool false, .bool false, .int .i64 0], [(0, 1), (1, 1), (2, 1)]) := by kernel_rfl
theorem tyR124 : rowT Tryz.prog 124 = some false := by kernel_rfl
theorem tyS124 : szT Tryz.prog 124 = some 1 := by kernel_rfl
theorem tyZ124 : zT Tryz.prog 124 = some [.slice none 0 0] := by kernel_rfl
theorem tyE124 : elT Tryz.prog 124 = some (119, 1, 24) := by kernel_rfl
theorem tyL124 : isSlT Tryz.prog 124 = true := by kernel_rfl
theorem tyR125 : rowT Tryz.prog 125 = some false := by kernel_rfl
theorem tyS125 : szT Tryz.prog 125 = some 1 := by kernel_rfl
theorem tyZ125 : zT Tryz.prog 125 = some [.nilFunc] := by kernel_rfl
theorem tyR126 : rowT Tryz.prog 126 = some false := by kernel_rfl
theorem tyS126 : szT Tryz.prog 126 = some 1 := by kernel_rfl
theorem tyZ126 : zT Tryz.prog 126 = some [.nilFunc] := by kernel_rfl
theorem tyR128 : rowT Tryz.prog 128 = some false := by kernel_rfl
theorem tyS128 : szT Tryz.prog 128 = some 1 := by kernel_rfl
theorem tyZ128 : zT Tryz.prog 128 = some [.nilFunc] := by kernel_rfl
theorem tyR129 : rowT Tryz.prog 129 = some false := by kernel_rfl
theorem tyS129 : szT Tryz.prog 129 = some 1 := by kernel_rfl
theorem tyZ129 : zT Tryz.prog 129 = some [.nilFunc] := by kernel_rfl
theorem tyR130 : rowT Tryz.prog 130 = some false := by kernel_rfl
theorem tyS130 : szT Tryz.prog 130 = some 1 := by kernel_rfl
theorem tyZ130 : zT Tryz.prog 130 = some [.nilFunc] := by kernel_rfl
theorem tyR131 : rowT Tryz.prog 131 = some false := by kernel_rfl
theorem tyS131 : szT Tryz.prog 131 = some 1 := by kernel_rfl
theorem tyZ131 : zT Tryz.prog 131 = some [.nilFunc] := by kernel_rfl
theorem tyR132 : rowT Tryz.prog 132 = some false := by kernel_rfl
theorem tyS132 : szT Tryz.prog 132 = some 1 := by kernel_rfl
theorem tyZ132 : zT Tryz.prog 132 = some [.nilFunc] := by kernel_rfl
theorem tyR133 : rowT Tryz.prog 133 = some false := by kernel_rfl
theorem tyS133 : szT Tryz.prog 133 = some 1 := by kernel_rfl
theorem tyZ133 : zT Tryz.prog 133 = some [.nilFunc] := by kernel_rfl
theorem tyR134 : rowT Tryz.prog 134 = some false := by kernel_rfl
theorem tyS134 : szT Tryz.prog 134 = some 1 := by kernel_rfl
theorem tyZ134 : zT Tryz.prog 134 = some [.nilFunc] := by kernel_rfl
theorem tyR135 : rowT Tryz.prog 135 = some false := by kernel_rfl
theorem tyS135 : szT Tryz.prog 135 = some 1 := by kernel_rfl
theorem tyZ135 : zT Tryz.prog 135 = some [.nilFunc] := by kernel_rfl
theorem tyR136 : rowT Tryz.prog 136 = some false := by kernel_rfl
theorem tyS136 : szT Tryz.prog 136 = some 1 := by kernel_rfl
theorem tyZ136 : zT Tryz.prog 136 = some [.nilFunc] := by kernel_rfl
theorem tyR137 : rowT Tryz.prog 137 = some false := by kernel_rfl
theorem tyS137 : szT Tryz.prog 137 = some 1 := by kernel_rfl
theorem tyZ137 : zT Tryz.prog 137 = some [.nilFunc] := by kernel_rfl
theorem tyR138 : rowT Tryz.prog 138 = some false := by kernel_rfl
theorem tyS138 : szT Tryz.prog 138 = some 1 := by kernel_rfl
theorem tyZ138 : zT Tryz.prog 138 = some [.nilFunc] := by kernel_rfl
theorem tyR139 : rowT Tryz.prog 139 = some false := by kernel_rfl
theorem tyS139 : szT Tryz.prog 139 = some 1 := by kernel_rfl
theorem tyZ139 : zT Tryz.prog 139 = some [.nilFunc] := by kernel_rfl
theorem tyR140 : rowT Tryz.prog 140 = some false := by kernel_rfl
theorem tyS140 : szT Tryz.prog 140 = some 1 := by kernel_rfl
theorem tyZ140 : zT Tryz.prog 140 = some [.nilFunc] := by kernel_rfl
theorem tyR141 : rowT Tryz.prog 141 = some false := by kernel_rfl
theorem tyS141 : szT Tryz.prog 141 = some 1 := by kernel_rfl
theorem tyZ141 : zT Tryz.prog 141 = some [.nilFunc] := by kernel_rfl
theorem tyR142 : rowT Tryz.prog 142 = some true := by kernel_rfl
theorem tyS142 : szT Tryz.prog 142 = some 5 := by kernel_rfl
theorem tyZ142 : zT Tryz.prog 142 = some [.int .i64 0, .string ⟨#[]⟩, .int .i64 0, .bool false, .slice none 0 0] := by kernel_rfl
theorem tyF142_0 : fldT Tryz.prog 142 0 = some (0, 3) := by kernel_rfl
theorem tyF142_1 : fldT Tryz.prog 142 1 = some (1, 9) := by kernel_rfl
theorem tyF142_2 : fldT Tryz.prog 142 2 = some (2, 3) := by kernel_rfl
theorem tyF142_3 : fldT Tryz.prog 142 3 = some (3, 4) := by kernel_rfl
theorem tyF142_4 : fldT Tryz.prog 142 4 = some (4, 43) := by kernel_rfl
theorem tyB142 : bldT Tryz.prog 142 = some ([.int .i64 0, .string ⟨#[]⟩, .int .i64 0, .bool false, .slice none 0 0], [(0, 1), (1, 1), (2, 1), (3, 1), (4, 1)]) := by kernel_rfl
theorem tyR143 : rowT Tryz.prog 143 = some true := by kernel_rfl
theorem tyS143 : szT Tryz.prog 143 = some 5 := by kernel_rfl
theorem tyZ143 : zT Tryz.prog 143 = some [.int .i64 0, .string ⟨#[]⟩, .int .i64 0, .bool false, .slice none 0 0] := by kernel_rfl
theorem tyF143_0 : fldT Tryz.prog 143 0 = some (0, 3) := by kernel_rfl
theorem tyF143_1 : fldT Tryz.prog 143 1 = some (1, 9) := by kernel_rfl
theorem tyF143_2 : fldT Tryz.prog 143 2 = some (2, 3) := by kernel_rfl
theorem tyF143_3 : fldT Tryz.prog 143 3 = some (3, 4) := by kernel_rfl
theorem tyF143_4 : fldT Tryz.prog 143 4 = some (4, 43) := by kernel_rfl
theorem tyB143 : bldT Tryz.prog 143 = some ([.int .i64 0, .string ⟨#[]⟩, .int .i64 0, .bool false, .slice none 0 0], [(0, 1), (1, 1), (2, 1), (3, 1), (4, 1)]) := by kernel_rfl
theorem tyR144 : rowT Tryz.prog 144 = some false := by kernel_rfl
theorem tyS144 : szT Tryz.prog 144 = some 1 := by kernel_rfl
theorem tyZ144 : zT Tryz.prog 144 = some [.slice none 0 0] := by kernel_rfl
theorem tyE144 : elT Tryz.prog 144 = some (146, 1, 24) := by kernel_rfl
theorem tyL144 : isSlT Tryz.prog 144 = true := by kernel_rfl
theorem tyR145 : rowT Tryz.prog 145 = some false := by kernel_rfl
theorem tyS145 : szT Tryz.prog 145 = some 1 := by kernel_rfl
theorem tyZ145 : zT Tryz.prog 145 = some [.nilFunc] := by kernel_rfl
theorem tyR146 : rowT Tryz.prog 146 = some false := by kernel_rfl
theorem tyS146 : szT Tryz.prog 146 = some 1 := by kernel_rfl
theorem tyZ146 : zT Tryz.prog 146 = some [.slice none 0 0] := by kernel_rfl
theorem tyE146 : elT Tryz.prog 146 = some (215, 2, 24) := by kernel_rfl
theorem tyL146 : isSlT Tryz.prog 146 = true := by kernel_rfl
theorem tyR147 : rowT Tryz.prog 147 = some false := by kernel_rfl
theorem tyS147 : szT Tryz.prog 147 = some 1 := by kernel_rfl
theorem tyZ147 : zT Tryz.prog 147 = some [.nilFunc] := by kernel_rfl
theorem tyR148 : rowT Tryz.prog 148 = some false := by kernel_rfl
theorem tyS148 : szT Tryz.prog 148 = some 1 := by kernel_rfl
theorem tyZ148 : zT Tryz.prog 148 = some [.nilFunc] := by kernel_rfl
theorem tyR149 : rowT Tryz.prog 149 = some false := by kernel_rfl
theorem tyS149 : szT Tryz.prog 149 = some 1 := by kernel_rfl
theorem tyZ149 : zT Tryz.prog 149 = some [.pointer none] := by kernel_rfl
theorem tyR150 : rowT Tryz.prog 150 = some true := by kernel_rfl
theorem tyS150 : szT Tryz.prog 150 = some 2 := by kernel_rfl
theorem tyZ150 : zT Tryz.prog 150 = some [.pointer none, .slice none 0 0] := by kernel_rfl
theorem tyF150_0 : fldT Tryz.prog 150 0 = some (0, 149) := by kernel_rfl
theorem tyF150_1 : fldT Tryz.prog 150 1 = some (1, 114) := by kernel_rfl
theorem tyB150 : bldT Tryz.prog 150 = some ([.pointer none, .slice none 0 0], [(0, 1), (1, 1)]) := by kernel_rfl
theorem tyR151 : rowT Tryz.prog 151 = some true := by kernel_rfl
theorem tyS151 : szT Tryz.prog 151 = some 2 := by kernel_rfl
theorem tyZ151 : zT Tryz.prog 151 = some [.pointer none, .slice none 0 0] := by kernel_rfl
theorem tyF151_0 : fldT Tryz.prog 151 0 = some (0, 149) := by kernel_rfl
theorem tyF151_1 : fldT Tryz.prog 151 1 = some (1, 114) := by kernel_rfl
theorem tyB151 : bldT Tryz.prog 151 = some ([.pointer none, .slice none 0 0], [(0, 1), (1, 1)]) := by kernel_rfl
theorem tyR152 : rowT Tryz.prog 152 = some true := by kernel_rfl
theorem tyS152 : szT Tryz.prog 152 = some 2 := by kernel_rfl
theorem tyZ152 : zT Tryz.prog 152 = some [.string ⟨#[]⟩, .int .i64 0] := by kernel_rfl
theorem tyF152_0 : fldT Tryz.prog 152 0 = some (0, 9) := by kernel_rfl
theorem tyF152_1 : fldT Tryz.prog 152 1 = some (1, 3) := by kernel_rfl
theorem tyB152 : bldT Tryz.prog 152 = some ([.string ⟨#[]⟩, .int .i64 0], [(0, 1), (1, 1)]) := by kernel_rfl
theorem tyR153 : rowT Tryz.prog 153 = some true := by kernel_rfl
theorem tyS153 : szT Tryz.prog 153 = some 2 := by kernel_rfl
theorem tyZ153 : zT Tryz.prog 153 = some [.string ⟨#[]⟩, .int .i64 0] := by kernel_rfl
theorem tyF153_0 : fldT Tryz.prog 153 0 = some (0, 9) := by kernel_rfl
theorem tyF153_1 : fldT Tryz.prog 153 1 = some (1, 3) := by kernel_rfl
theorem tyB153 : bldT Tryz.prog 153 = some ([.string ⟨#[]⟩, .int .i64 0], [(0, 1), (1, 1)]) := by kernel_rfl
theorem tyR154 : rowT Tryz.prog 154 = some false := by kernel_rfl
theorem tyS154 : szT Tryz.prog 154 = some 1 := by kernel_rfl
theorem tyZ154 : zT Tryz.prog 154 = some [.nilIface] := by kernel_rfl
theorem tyR155 : rowT Tryz.prog 155 = some false := by kernel_rfl
theorem tyS155 : szT Tryz.prog 155 = some 1 := by kernel_rfl
theorem tyZ155 : zT Tryz.prog 155 = some [.nilIface] := by kernel_rfl
theorem tyR157 : rowT Tryz.prog 157 = some false := by kernel_rfl
theorem tyS157 : szT Tryz.prog 157 = some 1 := by kernel_rfl
theorem tyZ157 : zT Tryz.prog 157 = some [.nilFunc] := by kernel_rfl
theorem tyR159 : rowT Tryz.prog 159 = some false := by kernel_rfl
theorem tyS159 : szT Tryz.prog 159 = some 1 := by kernel_rfl
theorem tyZ159 : zT Tryz.prog 159 = some [.nilFunc] := by kernel_rfl
theorem tyR160 : rowT Tryz.prog 160 = some false := by kernel_rfl
theorem tyS160 : szT Tryz.prog 160 = some 1 := by kernel_rfl
theorem tyZ160 : zT Tryz.prog 160 = some [.map none] := by kernel_rfl
theorem tyR161 : rowT Tryz.prog 161 = some false := by kernel_rfl
theorem tyS161 : szT Tryz.prog 161 = some 1 := by kernel_rfl
theorem tyZ161 : zT Tryz.prog 161 = some [.slice none 0 0] := by kernel_rfl
theorem tyE161 : elT Tryz.prog 161 = some (170, 3, 48) := by kernel_rfl
theorem tyL161 : isSlT Tryz.prog 161 = true := by kernel_rfl
theorem tyR162 : rowT Tryz.prog 162 = some true := by kernel_rfl
theorem tyS162 : szT Tryz.prog 162 = some 5 := by kernel_rfl
theorem tyZ162 : zT Tryz.prog 162 = some [.slice none 0 0, .slice none 0 0, .slice none 0 0, .slice none 0 0, .map none] := by kernel_rfl
theorem tyF162_0 : fldT Tryz.prog 162 0 = some (0, 50) := by kernel_rfl
theorem tyF162_1 : fldT Tryz.prog 162 1 = some (1, 161) := by kernel_rfl
theorem tyF162_2 : fldT Tryz.prog 162 2 = some (2, 25) := by kernel_rfl
theorem tyF162_3 : fldT Tryz.prog 162 3 = some (3, 25) := by kernel_rfl
theorem tyF162_4 : fldT Tryz.prog 162 4 = some (4, 160) := by kernel_rfl
theorem tyB162 : bldT Tryz.prog 162 = some ([.slice none 0 0, .slice none 0 0, .slice none 0 0, .slice none 0 0, .map none], [(0, 1), (1, 1), (2, 1), (3, 1), (4, 1)]) := by kernel_rfl
theorem tyR163 : rowT Tryz.prog 163 = some true := by kernel_rfl
theorem tyS163 : szT Tryz.prog 163 = some 5 := by kernel_rfl
theorem tyZ163 : zT Tryz.prog 163 = some [.slice none 0 0, .slice none 0 0, .slice none 0 0, .slice none 0 0, .map none] := by kernel_rfl
theorem tyF163_0 : fldT Tryz.prog 163 0 = some (0, 50) := by kernel_rfl
theorem tyF163_1 : fldT Tryz.prog 163 1 = some (1, 161) := by kernel_rfl
theorem tyF163_2 : fldT Tryz.prog 163 2 = some (2, 25) := by kernel_rfl
theorem tyF163_3 : fldT Tryz.prog 163 3 = some (3, 25) := by kernel_rfl
theorem tyF163_4 : fldT Tryz.prog 163 4 = some (4, 160) := by kernel_rfl
theorem tyB163 : bldT Tryz.prog 163 = some ([.slice none 0 0, .slice none 0 0, .slice none 0 0, .slice none 0 0, .map none], [(0, 1), (1, 1), (2, 1), (3, 1), (4, 1)]) := by kernel_rfl
theorem tyR164 : rowT Tryz.prog 164 = some false := by kernel_rfl
theorem tyS164 : szT Tryz.prog 164 = some 1 := by kernel_rfl
theorem tyZ164 : zT Tryz.prog 164 = some [.nilFunc] := by kernel_rfl
theorem tyR165 : rowT Tryz.prog 165 = some false := by kernel_rfl
theorem tyS165 : szT Tryz.prog 165 = some 1 := by kernel_rfl
theorem tyZ165 : zT Tryz.prog 165 = some [.nilFunc] := by kernel_rfl
theorem tyR166 : rowT Tryz.prog 166 = some false := by kernel_rfl
theorem tyS166 : szT Tryz.prog 166 = some 1 := by kernel_rfl
theorem tyZ166 : zT Tryz.prog 166 = some [.nilFunc] := by kernel_rfl
theorem tyR167 : rowT Tryz.prog 167 = some false := by kernel_rfl
theorem tyS167 : szT Tryz.prog 167 = some 1 := by kernel_rfl
theorem tyZ167 : zT Tryz.prog 167 = some [.slice none 0 0] := by kernel_rfl
theorem tyE167 : elT Tryz.prog 167 = some (230, 4, 56) := by kernel_rfl
theorem tyL167 : isSlT Tryz.prog 167 = true := by kernel_rfl
theorem tyR168 : rowT Tryz.prog 168 = some false := by kernel_rfl
theorem tyS168 : szT Tryz.prog 168 = some 1 := by kernel_rfl
theorem tyZ168 : zT Tryz.prog 168 = some [.nilFunc] := by kernel_rfl
theorem tyR169 : rowT Tryz.prog 169 = some true := by kernel_rfl
theorem tyS169 : szT Tryz.prog 169 = some 3 := by kernel_rfl
theorem tyZ169 : zT Tryz.prog 169 = some [.string ⟨#[]⟩, .slice none 0 0, .bool false] := by kernel_rfl
theorem tyF169_0 : fldT Tryz.prog 169 0 = some (0, 9) := by kernel_rfl
theorem tyF169_1 : fldT Tryz.prog 169 1 = some (1, 167) := by kernel_rfl
theorem tyF169_2 : fldT Tryz.prog 169 2 = some (2, 4) := by kernel_rfl
theorem tyB169 : bldT Tryz.prog 169 = some ([.string ⟨#[]⟩, .slice none 0 0, .bool false], [(0, 1), (1, 1), (2, 1)]) := by kernel_rfl
theorem tyR170 : rowT Tryz.prog 170 = some true := by kernel_rfl
theorem tyS170 : szT Tryz.prog 170 = some 3 := by kernel_rfl
theorem tyZ170 : zT Tryz.prog 170 = some [.string ⟨#[]⟩, .slice none 0 0, .bool false] := by kernel_rfl
theorem tyF170_0 : fldT Tryz.prog 170 0 = some (0, 9) := by kernel_rfl
theorem tyF170_1 : fldT Tryz.prog 170 1 = some (1, 167) := by kernel_rfl
theorem tyF170_2 : fldT Tryz.prog 170 2 = some (2, 4) := by kernel_rfl
theorem tyB170 : bldT Tryz.prog 170 = some ([.string ⟨#[]⟩, .slice none 0 0, .bool false], [(0, 1), (1, 1), (2, 1)]) := by kernel_rfl
theorem tyR172 : rowT Tryz.prog 172 = some false := by kernel_rfl
theorem tyS172 : szT Tryz.prog 172 = some 1 := by kernel_rfl
theorem tyZ172 : zT Tryz.prog 172 = some [.nilFunc] := by kernel_rfl
theorem tyR173 : rowT Tryz.prog 173 = some false := by kernel_rfl
theorem tyS173 : szT Tryz.prog 173 = some 1 := by kernel_rfl
theorem tyZ173 : zT Tryz.prog 173 = some [.nilFunc] := by kernel_rfl
theorem tyR174 : rowT Tryz.prog 174 = some false := by kernel_rfl
theorem tyS174 : szT Tryz.prog 174 = some 1 := by kernel_rfl
theorem tyZ174 : zT Tryz.prog 174 = some [.nilFunc] := by kernel_rfl
theorem tyR175 : rowT Tryz.prog 175 = some false := by kernel_rfl
theorem tyS175 : szT Tryz.prog 175 = some 1 := by kernel_rfl
theorem tyZ175 : zT Tryz.prog 175 = some [.nilFunc] := by kernel_rfl
theorem tyR176 : rowT Tryz.prog 176 = some false := by kernel_rfl
theorem tyS176 : szT Tryz.prog 176 = some 1 := by kernel_rfl
theorem tyZ176 : zT Tryz.prog 176 = some [.nilFunc] := by kernel_rfl
theorem tyR177 : rowT Tryz.prog 177 = some false := by kernel_rfl
theorem tyS177 : szT Tryz.prog 177 = some 1 := by kernel_rfl
theorem tyZ177 : zT Tryz.prog 177 = some [.nilFunc] := by kernel_rfl
theorem tyR178 : rowT Tryz.prog 178 = some true := by kernel_rfl
theorem tyS178 : szT Tryz.prog 178 = some 2 := by kernel_rfl
theorem tyZ178 : zT Tryz.prog 178 = some [.string ⟨#[]⟩, .string ⟨#[]⟩] := by kernel_rfl
theorem tyF178_0 : fldT Tryz.prog 178 0 = some (0, 9) := by kernel_rfl
theorem tyF178_1 : fldT Tryz.prog 178 1 = some (1, 9) := by kernel_rfl
theorem tyB178 : bldT Tryz.prog 178 = some ([.string ⟨#[]⟩, .string ⟨#[]⟩], [(0, 1), (1, 1)]) := by kernel_rfl
theorem tyR179 : rowT Tryz.prog 179 = some false := by kernel_rfl
theorem tyS179 : szT Tryz.prog 179 = some 1 := by kernel_rfl
theorem tyZ179 : zT Tryz.prog 179 = some [.nilFunc] := by kernel_rfl
theorem tyR180 : rowT Tryz.prog 180 = some true := by kernel_rfl
theorem tyS180 : szT Tryz.prog 180 = some 2 := by kernel_rfl
theorem tyZ180 : zT Tryz.prog 180 = some [.int .i64 0, .string ⟨#[]⟩] := by kernel_rfl
theorem tyF180_0 : fldT Tryz.prog 180 0 = some (0, 3) := by kernel_rfl
theorem tyF180_1 : fldT Tryz.prog 180 1 = some (1, 9) := by kernel_rfl
theorem tyB180 : bldT Tryz.prog 180 = some ([.int .i64 0, .string ⟨#[]⟩], [(0, 1), (1, 1)]) := by kernel_rfl
theorem tyR181 : rowT Tryz.prog 181 = some true := by kernel_rfl
theorem tyS181 : szT Tryz.prog 181 = some 2 := by kernel_rfl
theorem tyZ181 : zT Tryz.prog 181 = some [.int .i64 0, .string ⟨#[]⟩] := by kernel_rfl
theorem tyF181_0 : fldT Tryz.prog 181 0 = some (0, 3) := by kernel_rfl
theorem tyF181_1 : fldT Tryz.prog 181 1 = some (1, 9) := by kernel_rfl
theorem tyB181 : bldT Tryz.prog 181 = some ([.int .i64 0, .string ⟨#[]⟩], [(0, 1), (1, 1)]) := by kernel_rfl
theorem tyR182 : rowT Tryz.prog 182 = some false := by kernel_rfl
theorem tyS182 : szT Tryz.prog 182 = some 1 := by kernel_rfl
theorem tyZ182 : zT Tryz.prog 182 = some [.nilFunc] := by kernel_rfl
theorem tyR183 : rowT Tryz.prog 183 = some false := by kernel_rfl
theorem tyS183 : szT Tryz.prog 183 = some 1 := by kernel_rfl
theorem tyZ183 : zT Tryz.prog 183 = some [.slice none 0 0] := by kernel_rfl
theorem tyE183 : elT Tryz.prog 183 = some (242, 4, 56) := by kernel_rfl
theorem tyL183 : isSlT Tryz.prog 183 = true := by kernel_rfl
theorem tyR184 : rowT Tryz.prog 184 = some false := by kernel_rfl
theorem tyS184 : szT Tryz.prog 184 = some 1 := by kernel_rfl
theorem tyZ184 : zT Tryz.prog 184 = some [.slice none 0 0] := by kernel_rfl
theorem tyE184 : elT Tryz.prog 184 = some (247, 5, 56) := by kernel_rfl
theorem tyL184 : isSlT Tryz.prog 184 = true := by kernel_rfl
theorem tyR185 : rowT Tryz.prog 185 = some false := by kernel_rfl
theorem tyS185 : szT Tryz.prog 185 = some 1 := by kernel_rfl
theorem tyZ185 : zT Tryz.prog 185 = some [.slice none 0 0] := by kernel_rfl
theorem tyE185 : elT Tryz.prog 185 = some (188, 9, 160) := by kernel_rfl
theorem tyL185 : isSlT Tryz.prog 185 = true := by kernel_rfl
theorem tyR186 : rowT Tryz.prog 186 = some false := by kernel_rfl
theorem tyS186 : szT Tryz.prog 186 = some 1 := by kernel_rfl
theorem tyZ186 : zT Tryz.prog 186 = some [.slice none 0 0] := by kernel_rfl
theorem tyE186 : elT Tryz.prog 186 = some (251, 2, 48) := by kernel_rfl
theorem tyL186 : isSlT Tryz.prog 186 = true := by kernel_rfl
theorem tyR187 : rowT Tryz.prog 187 = some true := by kernel_rfl
theorem tyS187 : szT Tryz.prog 187 = some 9 := by kernel_rfl
theorem tyZ187 : zT Tryz.prog 187 = some [.int .i64 0, .int .i64 0, .string ⟨#[]⟩, .bool false, .slice none 0 0, .slice none 0 0, .slice none 0 0, .slice none 0 0, .slice none 0 0] := by kernel_rfl
theorem tyF187_0 : fldT Tryz.prog 187 0 = some (0, 3) := by kernel_rfl
theorem tyF187_1 : fldT Tryz.prog 187 1 = some (1, 3) := by kernel_rfl
theorem tyF187_2 : fldT Tryz.prog 187 2 = some (2, 9) := by kernel_rfl
theorem tyF187_3 : fldT Tryz.prog 187 3 = some (3, 4) := by kernel_rfl
theorem tyF187_4 : fldT Tryz.prog 187 4 = some (4, 183) := by kernel_rfl
theorem tyF187_5 : fldT Tryz.prog 187 5 = some (5, 54) := by kernel_rfl
theorem tyF187_6 : fldT Tryz.prog 187 6 = some (6, 184) := by kernel_rfl
theorem tyF187_7 : fldT Tryz.prog 187 7 = some (7, 185) := by kernel_rfl
theorem tyF187_8 : fldT Tryz.prog 187 8 = some (8, 186) := by kernel_rfl
theorem tyB187 : bldT Tryz.prog 187 = some ([.int .i64 0, .int .i64 0, .string ⟨#[]⟩, .bool false, .slice none 0 0, .slice none 0 0, .slice none 0 0, .slice none 0 0, .slice none 0 0], [(0, 1), (1, 1), (2, 1), (3, 1), (4, 1), (5, 1), (6, 1), (7, 1), (8, 1)]) := by kernel_rfl
theorem tyR188 : rowT Tryz.prog 188 = some true := by kernel_rfl
theorem tyS188 : szT Tryz.prog 188 = some 9 := by kernel_rfl
theorem tyZ188 : zT Tryz.prog 188 = some [.int .i64 0, .int .i64 0, .string ⟨#[]⟩, .bool false, .slice none 0 0, .slice none 0 0, .slice none 0 0, .slice none 0 0, .slice none 0 0] := by kernel_rfl
theorem tyF188_0 : fldT Tryz.prog 188 0 = some (0, 3) := by kernel_rfl
theorem tyF188_1 : fldT Tryz.prog 188 1 = some (1, 3) := by kernel_rfl
theorem tyF188_2 : fldT Tryz.prog 188 2 = some (2, 9) := by kernel_rfl
theorem tyF188_3 : fldT Tryz.prog 188 3 = some (3, 4) := by kernel_rfl
theorem tyF188_4 : fldT Tryz.prog 188 4 = some (4, 183) := by kernel_rfl
theorem tyF188_5 : fldT Tryz.prog 188 5 = some (5, 54) := by kernel_rfl
theorem tyF188_6 : fldT Tryz.prog 188 6 = some (6, 184) := by kernel_rfl
theorem tyF188_7 : fldT Tryz.prog 188 7 = some (7, 185) := by kernel_rfl
theorem tyF188_8 : fldT Tryz.prog 188 8 = some (8, 186) := by kernel_rfl
theorem tyB188 : bldT Tryz.prog 188 = some ([.int .i64 0, .int .i64 0, .string ⟨#[]⟩, .bool false, .slice none 0 0, .slice none 0 0, .slice none 0 0, .slice none 0 0, .slice none 0 0], [(0, 1), (1, 1), (2, 1), (3, 1), (4, 1), (5, 1), (6, 1), (7, 1), (8, 1)]) := by kernel_rfl
theorem tyR189 : rowT Tryz.prog 189 = some true := by kernel_rfl
theorem tyS189 : szT Tryz.prog 189 = some 10 := by kernel_rfl
theorem tyZ189 : zT Tryz.prog 189 = some [.string ⟨#[]⟩, .int .i64 0, .int .i64 0, .string ⟨#[]⟩, .bool false, .slice none 0 0, .slice none 0 0, .slice none 0 0, .slice none 0 0, .slice none 0 0] := by kernel_rfl
theorem tyF189_0 : fldT Tryz.prog 189 0 = some (0, 9) := by kernel_rfl
theorem tyF189_1 : fldT Tryz.prog 189 1 = some (1, 188) := by kernel_rfl
theorem tyB189 : bldT Tryz.prog 189 = some ([.string ⟨#[]⟩, .int .i64 0, .int .i64 0, .string ⟨#[]⟩, .bool false, .slice none 0 0, .slice none 0 0, .slice none 0 0, .slice none 0 0, .slice none 0 0], [(0, 1), (1, 9)]) := by kernel_rfl
theorem tyR190 : rowT Tryz.prog 190 = some true := by kernel_rfl
theorem tyS190 : szT Tryz.prog 190 = some 10 := by kernel_rfl
theorem tyZ190 : zT Tryz.prog 190 = some [.string ⟨#[]⟩, .int .i64 0, .int .i64 0, .string ⟨#[]⟩, .bool false, .slice none 0 0, .slice none 0 0, .slice none 0 0, .slice none 0 0, .slice none 0 0] := by kernel_rfl
theorem tyF190_0 : fldT Tryz.prog 190 0 = some (0, 9) := by kernel_rfl
theorem tyF190_1 : fldT Tryz.prog 190 1 = some (1, 188) := by kernel_rfl
theorem tyB190 : bldT Tryz.prog 190 = some ([.string ⟨#[]⟩, .int .i64 0, .int .i64 0, .string ⟨#[]⟩, .bool false, .slice none 0 0, .slice none 0 0, .slice none 0 0, .slice none 0 0, .slice none 0 0], [(0, 1), (1, 9)]) := by kernel_rfl
theorem tyR191 : rowT Tryz.prog 191 = some false := by kernel_rfl
theorem tyS191 : szT Tryz.prog 191 = some 1 := by kernel_rfl
theorem tyZ191 : zT Tryz.prog 191 = some [.nilFunc] := by kernel_rfl
theorem tyR192 : rowT Tryz.prog 192 = some false := by kernel_rfl
theorem tyS192 : szT Tryz.prog 192 = some 1 := by kernel_rfl
theorem tyZ192 : zT Tryz.prog 192 = some [.nilFunc] := by kernel_rfl
theorem tyR193 : rowT Tryz.prog 193 = some false := by kernel_rfl
theorem tyS193 : szT Tryz.prog 193 = some 1 := by kernel_rfl
theorem tyZ193 : zT Tryz.prog 193 = some [.nilFunc] := by kernel_rfl
theorem tyR194 : rowT Tryz.prog 194 = some false := by kernel_rfl
theorem tyS194 : szT Tryz.prog 194 = some 1 := by kernel_rfl
theorem tyZ194 : zT Tryz.prog 194 = some [.nilFunc] := by kernel_rfl
theorem tyR195 : rowT Tryz.prog 195 = some false := by kernel_rfl
theorem tyS195 : szT Tryz.prog 195 = some 1 := by kernel_rfl
theorem tyZ195 : zT Tryz.prog 195 = some [.slice none 0 0] := by kernel_rfl
theorem tyE195 : elT Tryz.prog 195 = some (198, 3, 32) := by kernel_rfl
theorem tyL195 : isSlT Tryz.prog 195 = true := by kernel_rfl
theorem tyR196 : rowT Tryz.prog 196 = some false := by kernel_rfl
theorem tyS196 : szT Tryz.prog 196 = some 1 := by kernel_rfl
theorem tyZ196 : zT Tryz.prog 196 = some [.nilFunc] := by kernel_rfl
theorem tyR197 : rowT Tryz.prog 197 = some true := by kernel_rfl
theorem tyS197 : szT Tryz.prog 197 = some 3 := by kernel_rfl
theorem tyZ197 : zT Tryz.prog 197 = some [.string ⟨#[]⟩, .int .i64 0, .int .i64 0] := by kernel_rfl
theorem tyF197_0 : fldT Tryz.prog 197 0 = some (0, 9) := by kernel_rfl
theorem tyF197_1 : fldT Tryz.prog 197 1 = some (1, 3) := by kernel_rfl
theorem tyF197_2 : fldT Tryz.prog 197 2 = some (2, 3) := by kernel_rfl
theorem tyB197 : bldT Tryz.prog 197 = some ([.string ⟨#[]⟩, .int .i64 0, .int .i64 0], [(0, 1), (1, 1), (2, 1)]) := by kernel_rfl
theorem tyR198 : rowT Tryz.prog 198 = some true := by kernel_rfl
theorem tyS198 : szT Tryz.prog 198 = some 3 := by kernel_rfl
theorem tyZ198 : zT Tryz.prog 198 = some [.string ⟨#[]⟩, .int .i64 0, .int .i64 0] := by kernel_rfl
theorem tyF198_0 : fldT Tryz.prog 198 0 = some (0, 9) := by kernel_rfl
theorem tyF198_1 : fldT Tryz.prog 198 1 = some (1, 3) := by kernel_rfl
theorem tyF198_2 : fldT Tryz.prog 198 2 = some (2, 3) := by kernel_rfl
theorem tyB198 : bldT Tryz.prog 198 = some ([.string ⟨#[]⟩, .int .i64 0, .int .i64 0], [(0, 1), (1, 1), (2, 1)]) := by kernel_rfl
theorem tyR199 : rowT Tryz.prog 199 = some false := by kernel_rfl
theorem tyS199 : szT Tryz.prog 199 = some 1 := by kernel_rfl
theorem tyZ199 : zT Tryz.prog 199 = some [.nilFunc] := by kernel_rfl
theorem tyR201 : rowT Tryz.prog 201 = some false := by kernel_rfl
theorem tyS201 : szT Tryz.prog 201 = some 1 := by kernel_rfl
theorem tyZ201 : zT Tryz.prog 201 = some [.nilFunc] := by kernel_rfl
theorem tyR202 : rowT Tryz.prog 202 = some false := by kernel_rfl
theorem tyS202 : szT Tryz.prog 202 = some 1 := by kernel_rfl
theorem tyZ202 : zT Tryz.prog 202 = some [.nilFunc] := by kernel_rfl
theorem tyR203 : rowT Tryz.prog 203 = some false := by kernel_rfl
theorem tyS203 : szT Tryz.prog 203 = some 1 := by kernel_rfl
theorem tyZ203 : zT Tryz.prog 203 = some [.nilFunc] := by kernel_rfl
theorem tyR204 : rowT Tryz.prog 204 = some false := by kernel_rfl
theorem tyS204 : szT Tryz.prog 204 = some 1 := by kernel_rfl
theorem tyZ204 : zT Tryz.prog 204 = some [.nilFunc] := by kernel_rfl
theorem tyR205 : rowT Tryz.prog 205 = some false := by kernel_rfl
theorem tyS205 : szT Tryz.prog 205 = some 1 := by kernel_rfl
theorem tyZ205 : zT Tryz.prog 205 = some [.nilFunc] := by kernel_rfl
theorem tyR206 : rowT Tryz.prog 206 = some false := by kernel_rfl
theorem tyS206 : szT Tryz.prog 206 = some 1 := by kernel_rfl
theorem tyZ206 : zT Tryz.prog 206 = some [.nilFunc] := by kernel_rfl
theorem tyR207 : rowT Tryz.prog 207 = some false := by kernel_rfl
theorem tyS207 : szT Tryz.prog 207 = some 1 := by kernel_rfl
theorem tyZ207 : zT Tryz.prog 207 = some [.nilFunc] := by kernel_rfl
theorem tyR208 : rowT Tryz.prog 208 = some false := by kernel_rfl
theorem tyS208 : szT Tryz.prog 208 = some 1 := by kernel_rfl
theorem tyZ208 : zT Tryz.prog 208 = some [.int .u64 0] := by kernel_rfl
theorem tyU208 : Tryz.prog.underlying 208 = some (.int .u64) := by kernel_rfl
theorem tyR209 : rowT Tryz.prog 209 = some false := by kernel_rfl
theorem tyS209 : szT Tryz.prog 209 = some 1 := by kernel_rfl
theorem tyZ209 : zT Tryz.prog 209 = some [.nilFunc] := by kernel_rfl
theorem tyR210 : rowT Tryz.prog 210 = some false := by kernel_rfl
theorem tyS210 : szT Tryz.prog 210 = some 1 := by kernel_rfl
theorem tyZ210 : zT Tryz.prog 210 = some [.nilFunc] := by kernel_rfl
theorem tyR211 : rowT Tryz.prog 211 = some false := by kernel_rfl
theorem tyS211 : szT Tryz.prog 211 = some 1 := by kernel_rfl
theorem tyZ211 : zT Tryz.prog 211 = some [.nilFunc] := by kernel_rfl
theorem tyR212 : rowT Tryz.prog 212 = some false := by kernel_rfl
theorem tyS212 : szT Tryz.prog 212 = some 1 := by kernel_rfl
theorem tyZ212 : zT Tryz.prog 212 = some [.nilFunc] := by kernel_rfl
theorem tyR213 : rowT Tryz.prog 213 = some false := by kernel_rfl
theorem tyS213 : szT Tryz.prog 213 = some 1 := by kernel_rfl
theorem tyZ213 : zT Tryz.prog 213 = some [.nilFunc] := by kernel_rfl
theorem tyR214 : rowT Tryz.prog 214 = some true := by kernel_rfl
theorem tyS214 : szT Tryz.prog 214 = some 2 := by kernel_rfl
theorem tyZ214 : zT Tryz.prog 214 = some [.string ⟨#[]⟩, .int .i64 0] := by kernel_rfl
theorem tyF214_0 : fldT Tryz.prog 214 0 = some (0, 9) := by kernel_rfl
theorem tyF214_1 : fldT Tryz.prog 214 1 = some (1, 3) := by kernel_rfl
theorem tyB214 : bldT Tryz.prog 214 = some ([.string ⟨#[]⟩, .int .i64 0], [(0, 1), (1, 1)]) := by kernel_rfl
theorem tyR215 : rowT Tryz.prog 215 = some true := by kernel_rfl
theorem tyS215 : szT Tryz.prog 215 = some 2 := by kernel_rfl
theorem tyZ215 : zT Tryz.prog 215 = some [.string ⟨#[]⟩, .int .i64 0] := by kernel_rfl
theorem tyF215_0 : fldT Tryz.prog 215 0 = some (0, 9) := by kernel_rfl
theorem tyF215_1 : fldT Tryz.prog 215 1 = some (1, 3) := by kernel_rfl
theorem tyB215 : bldT Tryz.prog 215 = some ([.string ⟨#[]⟩, .int .i64 0], [(0, 1), (1, 1)]) := by kernel_rfl
theorem tyR216 : rowT Tryz.prog 216 = some false := by kernel_rfl
theorem tyS216 : szT Tryz.prog 216 = some 1 := by kernel_rfl
theorem tyZ216 : zT Tryz.prog 216 = some [.nilFunc] := by kernel_rfl
theorem tyR217 : rowT Tryz.prog 217 = some false := by kernel_rfl
theorem tyS217 : szT Tryz.prog 217 = some 1 := by kernel_rfl
theorem tyZ217 : zT Tryz.prog 217 = some [.nilFunc] := by kernel_rfl
theorem tyR218 : rowT Tryz.prog 218 = some false := by kernel_rfl
theorem tyS218 : szT Tryz.prog 218 = some 1 := by kernel_rfl
theorem tyZ218 : zT Tryz.prog 218 = some [.nilFunc] := by kernel_rfl
theorem tyR219 : rowT Tryz.prog 219 = some false := by kernel_rfl
theorem tyS219 : szT Tryz.prog 219 = some 1 := by kernel_rfl
theorem tyZ219 : zT Tryz.prog 219 = some [.nilFunc] := by kernel_rfl
theorem tyR220 : rowT Tryz.prog 220 = some false := by kernel_rfl
theorem tyS220 : szT Tryz.prog 220 = some 1 := by kernel_rfl
theorem tyZ220 : zT Tryz.prog 220 = some [.pointer none] := by kernel_rfl
theorem tyR221 : rowT Tryz.prog 221 = some false := by kernel_rfl
theorem tyS221 : szT Tryz.prog 221 = some 1 := by kernel_rfl
theorem tyZ221 : zT Tryz.prog 221 = some [.nilFunc] := by kernel_rfl
theorem tyR222 : rowT Tryz.prog 222 = some false := by kernel_rfl
theorem tyS222 : szT Tryz.prog 222 = some 1 := by kernel_rfl
theorem tyZ222 : zT Tryz.prog 222 = some [.nilFunc] := by kernel_rfl
theorem tyR224 : rowT Tryz.prog 224 = some false := by kernel_rfl
theorem tyS224 : szT Tryz.prog 224 = some 1 := by kernel_rfl
theorem tyZ224 : zT Tryz.prog 224 = some [.nilFunc] := by kernel_rfl
theorem tyR225 : rowT Tryz.prog 225 = some false := by kernel_rfl
theorem tyS225 : szT Tryz.prog 225 = some 1 := by kernel_rfl
theorem tyZ225 : zT Tryz.prog 225 = some [.slice none 0 0] := by kernel_rfl
theorem tyE225 : elT Tryz.prog 225 = some (234, 2, 2) := by kernel_rfl
theorem tyL225 : isSlT Tryz.prog 225 = true := by kernel_rfl
theorem tyR226 : rowT Tryz.prog 226 = some false := by kernel_rfl
theorem tyS226 : szT Tryz.prog 226 = some 1 := by kernel_rfl
theorem tyZ226 : zT Tryz.prog 226 = some [.nilFunc] := by kernel_rfl
theorem tyR227 : rowT Tryz.prog 227 = some false := by kernel_rfl
theorem tyS227 : szT Tryz.prog 227 = some 1 := by kernel_rfl
theorem tyZ227 : zT Tryz.prog 227 = some [.nilFunc] := by kernel_rfl
theorem tyR228 : rowT Tryz.prog 228 = some false := by kernel_rfl
theorem tyS228 : szT Tryz.prog 228 = some 1 := by kernel_rfl
theorem tyZ228 : zT Tryz.prog 228 = some [.slice none 0 0] := by kernel_rfl
theorem tyE228 : elT Tryz.prog 228 = some (292, 2, 2) := by kernel_rfl
theorem tyL228 : isSlT Tryz.prog 228 = true := by kernel_rfl
theorem tyR229 : rowT Tryz.prog 229 = some true := by kernel_rfl
theorem tyS229 : szT Tryz.prog 229 = some 4 := by kernel_rfl
theorem tyZ229 : zT Tryz.prog 229 = some [.int .i64 0, .string ⟨#[]⟩, .bool false, .slice none 0 0] := by kernel_rfl
theorem tyF229_0 : fldT Tryz.prog 229 0 = some (0, 3) := by kernel_rfl
theorem tyF229_1 : fldT Tryz.prog 229 1 = some (1, 9) := by kernel_rfl
theorem tyF229_2 : fldT Tryz.prog 229 2 = some (2, 4) := by kernel_rfl
theorem tyF229_3 : fldT Tryz.prog 229 3 = some (3, 228) := by kernel_rfl
theorem tyB229 : bldT Tryz.prog 229 = some ([.int .i64 0, .string ⟨#[]⟩, .bool false, .slice none 0 0], [(0, 1), (1, 1), (2, 1), (3, 1)]) := by kernel_rfl
theorem tyR230 : rowT Tryz.prog 230 = some true := by kernel_rfl
theorem tyS230 : szT Tryz.prog 230 = some 4 := by kernel_rfl
theorem tyZ230 : zT Tryz.prog 230 = some [.int .i64 0, .string ⟨#[]⟩, .bool false, .slice none 0 0] := by kernel_rfl
theorem tyF230_0 : fldT Tryz.prog 230 0 = some (0, 3) := by kernel_rfl
theorem tyF230_1 : fldT Tryz.prog 230 1 = some (1, 9) := by kernel_rfl
theorem tyF230_2 : fldT Tryz.prog 230 2 = some (2, 4) := by kernel_rfl
theorem tyF230_3 : fldT Tryz.prog 230 3 = some (3, 228) := by kernel_rfl
theorem tyB230 : bldT Tryz.prog 230 = some ([.int .i64 0, .string ⟨#[]⟩, .bool false, .slice none 0 0], [(0, 1), (1, 1), (2, 1), (3, 1)]) := by kernel_rfl
theorem tyR232 : rowT Tryz.prog 232 = some false := by kernel_rfl
theorem tyS232 : szT Tryz.prog 232 = some 1 := by kernel_rfl
theorem tyZ232 : zT Tryz.prog 232 = some [.nilFunc] := by kernel_rfl
theorem tyR233 : rowT Tryz.prog 233 = some true := by kernel_rfl
theorem tyS233 : szT Tryz.prog 233 = some 2 := by kernel_rfl
theorem tyZ233 : zT Tryz.prog 233 = some [.int .u8 0, .bool false] := by kernel_rfl
theorem tyF233_0 : fldT Tryz.prog 233 0 = some (0, 5) := by kernel_rfl
theorem tyF233_1 : fldT Tryz.prog 233 1 = some (1, 4) := by kernel_rfl
theorem tyB233 : bldT Tryz.prog 233 = some ([.int .u8 0, .bool false], [(0, 1), (1, 1)]) := by kernel_rfl
theorem tyR234 : rowT Tryz.prog 234 = some true := by kernel_rfl
theorem tyS234 : szT Tryz.prog 234 = some 2 := by kernel_rfl
theorem tyZ234 : zT Tryz.prog 234 = some [.int .u8 0, .bool false] := by kernel_rfl
theorem tyF234_0 : fldT Tryz.prog 234 0 = some (0, 5) := by kernel_rfl
theorem tyF234_1 : fldT Tryz.prog 234 1 = some (1, 4) := by kernel_rfl
theorem tyB234 : bldT Tryz.prog 234 = some ([.int .u8 0, .bool false], [(0, 1), (1, 1)]) := by kernel_rfl
theorem tyR235 : rowT Tryz.prog 235 = some false := by kernel_rfl
theorem tyS235 : szT Tryz.prog 235 = some 1 := by kernel_rfl
theorem tyZ235 : zT Tryz.prog 235 = some [.nilFunc] := by kernel_rfl
theorem tyR236 : rowT Tryz.prog 236 = some false := by kernel_rfl
theorem tyS236 : szT Tryz.prog 236 = some 1 := by kernel_rfl
theorem tyZ236 : zT Tryz.prog 236 = some [.nilFunc] := by kernel_rfl
theorem tyR237 : rowT Tryz.prog 237 = some false := by kernel_rfl
theorem tyS237 : szT Tryz.prog 237 = some 1 := by kernel_rfl
theorem tyZ237 : zT Tryz.prog 237 = some [.pointer none] := by kernel_rfl
theorem tyR238 : rowT Tryz.prog 238 = some true := by kernel_rfl
theorem tyS238 : szT Tryz.prog 238 = some 2 := by kernel_rfl
theorem tyZ238 : zT Tryz.prog 238 = some [.int .i64 0, .string ⟨#[]⟩] := by kernel_rfl
theorem tyF238_0 : fldT Tryz.prog 238 0 = some (0, 3) := by kernel_rfl
theorem tyF238_1 : fldT Tryz.prog 238 1 = some (1, 9) := by kernel_rfl
theorem tyB238 : bldT Tryz.prog 238 = some ([.int .i64 0, .string ⟨#[]⟩], [(0, 1), (1, 1)]) := by kernel_rfl
theorem tyR239 : rowT Tryz.prog 239 = some true := by kernel_rfl
theorem tyS239 : szT Tryz.prog 239 = some 2 := by kernel_rfl
theorem tyZ239 : zT Tryz.prog 239 = some [.int .i64 0, .string ⟨#[]⟩] := by kernel_rfl
theorem tyF239_0 : fldT Tryz.prog 239 0 = some (0, 3) := by kernel_rfl
theorem tyF239_1 : fldT Tryz.prog 239 1 = some (1, 9) := by kernel_rfl
theorem tyB239 : bldT Tryz.prog 239 = some ([.int .i64 0, .string ⟨#[]⟩], [(0, 1), (1, 1)]) := by kernel_rfl
theorem tyR240 : rowT Tryz.prog 240 = some false := by kernel_rfl
theorem tyS240 : szT Tryz.prog 240 = some 1 := by kernel_rfl
theorem tyZ240 : zT Tryz.prog 240 = some [.nilFunc] := by kernel_rfl
theorem tyR241 : rowT Tryz.prog 241 = some true := by kernel_rfl
theorem tyS241 : szT Tryz.prog 241 = some 4 := by kernel_rfl
theorem tyZ241 : zT Tryz.prog 241 = some [.int .i64 0, .string ⟨#[]⟩, .int .i64 0, .slice none 0 0] := by kernel_rfl
theorem tyF241_0 : fldT Tryz.prog 241 0 = some (0, 3) := by kernel_rfl
theorem tyF241_1 : fldT Tryz.prog 241 1 = some (1, 9) := by kernel_rfl
theorem tyF241_2 : fldT Tryz.prog 241 2 = some (2, 53) := by kernel_rfl
theorem tyB241 : bldT Tryz.prog 241 = some ([.int .i64 0, .string ⟨#[]⟩, .int .i64 0, .slice none 0 0], [(0, 1), (1, 1), (2, 2)]) := by kernel_rfl
theorem tyR242 : rowT Tryz.prog 242 = some true := by kernel_rfl
theorem tyS242 : szT Tryz.prog 242 = some 4 := by kernel_rfl
theorem tyZ242 : zT Tryz.prog 242 = some [.int .i64 0, .string ⟨#[]⟩, .int .i64 0, .slice none 0 0] := by kernel_rfl
theorem tyF242_0 : fldT Tryz.prog 242 0 = some (0, 3) := by kernel_rfl
theorem tyF242_1 : fldT Tryz.prog 242 1 = some (1, 9) := by kernel_rfl
theorem tyF242_2 : fldT Tryz.prog 242 2 = some (2, 53) := by kernel_rfl
theorem tyB242 : bldT Tryz.prog 242 = some ([.int .i64 0, .string ⟨#[]⟩, .int .i64 0, .slice none 0 0], [(0, 1), (1, 1), (2, 2)]) := by kernel_rfl
theorem tyR243 : rowT Tryz.prog 243 = some false := by kernel_rfl
theorem tyS243 : szT Tryz.prog 243 = some 1 := by kernel_rfl
theorem tyZ243 : zT Tryz.prog 243 = some [.nilFunc] := by kernel_rfl
theorem tyR244 : rowT Tryz.prog 244 = some false := by kernel_rfl
theorem tyS244 : szT Tryz.prog 244 = some 1 := by kernel_rfl
theorem tyZ244 : zT Tryz.prog 244 = some [.nilFunc] := by kernel_rfl
theorem tyR245 : rowT Tryz.prog 245 = some false := by kernel_rfl
theorem tyS245 : szT Tryz.prog 245 = some 1 := by kernel_rfl
theorem tyZ245 : zT Tryz.prog 245 = some [.nilFunc] := by kernel_rfl
theorem tyR246 : rowT Tryz.prog 246 = some true := by kernel_rfl
theorem tyS246 : szT Tryz.prog 246 = some 5 := by kernel_rfl
theorem tyZ246 : zT Tryz.prog 246 = some [.int .i64 0, .int .i64 0, .int .i64 0, .int .i64 0, .slice none 0 0] := by kernel_rfl
theorem tyF246_0 : fldT Tryz.prog 246 0 = some (0, 3) := by kernel_rfl
theorem tyF246_1 : fldT Tryz.prog 246 1 = some (1, 3) := by kernel_rfl
theorem tyF246_2 : fldT Tryz.prog 246 2 = some (2, 3) := by kernel_rfl
theorem tyF246_3 : fldT Tryz.prog 246 3 = some (3, 53) := by kernel_rfl
theorem tyB246 : bldT Tryz.prog 246 = some ([.int .i64 0, .int .i64 0, .int .i64 0, .int .i64 0, .slice none 0 0], [(0, 1), (1, 1), (2, 1), (3, 2)]) := by kernel_rfl
theorem tyR247 : rowT Tryz.prog 247 = some true := by kernel_rfl
theorem tyS247 : szT Tryz.prog 247 = some 5 := by kernel_rfl
theorem tyZ247 : zT Tryz.prog 247 = some [.int .i64 0, .int .i64 0, .int .i64 0, .int .i64 0, .slice none 0 0] := by kernel_rfl
theorem tyF247_0 : fldT Tryz.prog 247 0 = some (0, 3) := by kernel_rfl
theorem tyF247_1 : fldT Tryz.prog 247 1 = some (1, 3) := by kernel_rfl
theorem tyF247_2 : fldT Tryz.prog 247 2 = some (2, 3) := by kernel_rfl
theorem tyF247_3 : fldT Tryz.prog 247 3 = some (3, 53) := by kernel_rfl
theorem tyB247 : bldT Tryz.prog 247 = some ([.int .i64 0, .int .i64 0, .int .i64 0, .int .i64 0, .slice none 0 0], [(0, 1), (1, 1), (2, 1), (3, 2)]) := by kernel_rfl
theorem tyR248 : rowT Tryz.prog 248 = some false := by kernel_rfl
theorem tyS248 : szT Tryz.prog 248 = some 1 := by kernel_rfl
theorem tyZ248 : zT Tryz.prog 248 = some [.nilFunc] := by kernel_rfl
theorem tyR249 : rowT Tryz.prog 249 = some false := by kernel_rfl
theorem tyS249 : szT Tryz.prog 249 = some 1 := by kernel_rfl
theorem tyZ249 : zT Tryz.prog 249 = some [.nilFunc] := by kernel_rfl
theorem tyR250 : rowT Tryz.prog 250 = some true := by kernel_rfl
theorem tyS250 : szT Tryz.prog 250 = some 2 := by kernel_rfl
theorem tyZ250 : zT Tryz.prog 250 = some [.slice none 0 0, .slice none 0 0] := by kernel_rfl
theorem tyF250_0 : fldT Tryz.prog 250 0 = some (0, 54) := by kernel_rfl
theorem tyF250_1 : fldT Tryz.prog 250 1 = some (1, 185) := by kernel_rfl
theorem tyB250 : bldT Tryz.prog 250 = some ([.slice none 0 0, .slice none 0 0], [(0, 1), (1, 1)]) := by kernel_rfl
theorem tyR251 : rowT Tryz.prog 251 = some true := by kernel_rfl
theorem tyS251 : szT Tryz.prog 251 = some 2 := by kernel_rfl
theorem tyZ251 : zT Tryz.prog 251 = some [.slice none 0 0, .slice none 0 0] := by kernel_rfl
theorem tyF251_0 : fldT Tryz.prog 251 0 = some (0, 54) := by kernel_rfl
theorem tyF251_1 : fldT Tryz.prog 251 1 = some (1, 185) := by kernel_rfl
theorem tyB251 : bldT Tryz.prog 251 = some ([.slice none 0 0, .slice none 0 0], [(0, 1), (1, 1)]) := by kernel_rfl
theorem tyR253 : rowT Tryz.prog 253 = some false := by kernel_rfl
theorem tyS253 : szT Tryz.prog 253 = some 1 := by kernel_rfl
theorem tyZ253 : zT Tryz.prog 253 = some [.nilFunc] := by kernel_rfl
theorem tyR254 : rowT Tryz.prog 254 = some false := by kernel_rfl
theorem tyS254 : szT Tryz.prog 254 = some 1 := by kernel_rfl
theorem tyZ254 : zT Tryz.prog 254 = some [.int .u64 0] := by kernel_rfl
theorem tyU254 : Tryz.prog.underlying 254 = some (.int .u64) := by kernel_rfl
theorem tyR256 : rowT Tryz.prog 256 = some false := by kernel_rfl
theorem tyS256 : szT Tryz.prog 256 = some 1 := by kernel_rfl
theorem tyZ256 : zT Tryz.prog 256 = some [.nilFunc] := by kernel_rfl
theorem tyR257 : rowT Tryz.prog 257 = some false := by kernel_rfl
theorem tyS257 : szT Tryz.prog 257 = some 1 := by kernel_rfl
theorem tyZ257 : zT Tryz.prog 257 = some [.nilFunc] := by kernel_rfl
theorem tyR258 : rowT Tryz.prog 258 = some false := by kernel_rfl
theorem tyS258 : szT Tryz.prog 258 = some 1 := by kernel_rfl
theorem tyZ258 : zT Tryz.prog 258 = some [.int .i64 0] := by kernel_rfl
theorem tyU258 : Tryz.prog.underlying 258 = some (.int .i64) := by kernel_rfl
theorem tyR260 : rowT Tryz.prog 260 = some false := by kernel_rfl
theorem tyS260 : szT Tryz.prog 260 = some 1 := by kernel_rfl
theorem tyZ260 : zT Tryz.prog 260 = some [.nilFunc] := by kernel_rfl
theorem tyR261 : rowT Tryz.prog 261 = some false := by kernel_rfl
theorem tyS261 : szT Tryz.prog 261 = some 1 := by kernel_rfl
theorem tyZ261 : zT Tryz.prog 261 = some [.nilFunc] := by kernel_rfl
theorem tyR262 : rowT Tryz.prog 262 = some false := by kernel_rfl
theorem tyS262 : szT Tryz.prog 262 = some 1 := by kernel_rfl
theorem tyZ262 : zT Tryz.prog 262 = some [.nilFunc] := by kernel_rfl
theorem tyR263 : rowT Tryz.prog 263 = some false := by kernel_rfl
theorem tyS263 : szT Tryz.prog 263 = some 1 := by kernel_rfl
theorem tyZ263 : zT Tryz.prog 263 = some [.nilFunc] := by kernel_rfl
theorem tyR264 : rowT Tryz.prog 264 = some false := by kernel_rfl
theorem tyS264 : szT Tryz.prog 264 = some 1 := by kernel_rfl
theorem tyZ264 : zT Tryz.prog 264 = some [.nilFunc] := by kernel_rfl
theorem tyR265 : rowT Tryz.prog 265 = some false := by kernel_rfl
theorem tyS265 : szT Tryz.prog 265 = some 1 := by kernel_rfl
theorem tyZ265 : zT Tryz.prog 265 = some [.int .u32 0] := by kernel_rfl
theorem tyU265 : Tryz.prog.underlying 265 = some (.int .u32) := by kernel_rfl
theorem tyR266 : rowT Tryz.prog 266 = some false := by kernel_rfl
theorem tyS266 : szT Tryz.prog 266 = some 1 := by kernel_rfl
theorem tyZ266 : zT Tryz.prog 266 = some [.nilFunc] := by kernel_rfl
theorem tyR267 : rowT Tryz.prog 267 = some false := by kernel_rfl
theorem tyS267 : szT Tryz.prog 267 = some 1 := by kernel_rfl
theorem tyZ267 : zT Tryz.prog 267 = some [.nilFunc] := by kernel_rfl
theorem tyR268 : rowT Tryz.prog 268 = some false := by kernel_rfl
theorem tyS268 : szT Tryz.prog 268 = some 1 := by kernel_rfl
theorem tyZ268 : zT Tryz.prog 268 = some [.nilFunc] := by kernel_rfl
theorem tyR270 : rowT Tryz.prog 270 = some false := by kernel_rfl
theorem tyS270 : szT Tryz.prog 270 = some 1 := by kernel_rfl
theorem tyZ270 : zT Tryz.prog 270 = some [.nilFunc] := by kernel_rfl
theorem tyR272 : rowT Tryz.prog 272 = some false := by kernel_rfl
theorem tyS272 : szT Tryz.prog 272 = some 1 := by kernel_rfl
theorem tyZ272 : zT Tryz.prog 272 = some [.nilFunc] := by kernel_rfl
theorem tyR273 : rowT Tryz.prog 273 = some false := by kernel_rfl
theorem tyS273 : szT Tryz.prog 273 = some 1 := by kernel_rfl
theorem tyZ273 : zT Tryz.prog 273 = some [.nilFunc] := by kernel_rfl
theorem tyR274 : rowT Tryz.prog 274 = some false := by kernel_rfl
theorem tyS274 : szT Tryz.prog 274 = some 1 := by kernel_rfl
theorem tyZ274 : zT Tryz.prog 274 = some [.nilFunc] := by kernel_rfl
theorem tyR275 : rowT Tryz.prog 275 = some true := by kernel_rfl
theorem tyS275 : szT Tryz.prog 275 = some 2 := by kernel_rfl
theorem tyZ275 : zT Tryz.prog 275 = some [.string ⟨#[]⟩, .int .i64 0] := by kernel_rfl
theorem tyF275_0 : fldT Tryz.prog 275 0 = some (0, 9) := by kernel_rfl
theorem tyF275_1 : fldT Tryz.prog 275 1 = some (1, 3) := by kernel_rfl
theorem tyB275 : bldT Tryz.prog 275 = some ([.string ⟨#[]⟩, .int .i64 0], [(0, 1), (1, 1)]) := by kernel_rfl
theorem tyR276 : rowT Tryz.prog 276 = some true := by kernel_rfl
theorem tyS276 : szT Tryz.prog 276 = some 2 := by kernel_rfl
theorem tyZ276 : zT Tryz.prog 276 = some [.string ⟨#[]⟩, .int .i64 0] := by kernel_rfl
theorem tyF276_0 : fldT Tryz.prog 276 0 = some (0, 9) := by kernel_rfl
theorem tyF276_1 : fldT Tryz.prog 276 1 = some (1, 3) := by kernel_rfl
theorem tyB276 : bldT Tryz.prog 276 = some ([.string ⟨#[]⟩, .int .i64 0], [(0, 1), (1, 1)]) := by kernel_rfl
theorem tyR277 : rowT Tryz.prog 277 = some false := by kernel_rfl
theorem tyS277 : szT Tryz.prog 277 = some 1 := by kernel_rfl
theorem tyZ277 : zT Tryz.prog 277 = some [.nilFunc] := by kernel_rfl
theorem tyR278 : rowT Tryz.prog 278 = some false := by kernel_rfl
theorem tyS278 : szT Tryz.prog 278 = some 1 := by kernel_rfl
theorem tyZ278 : zT Tryz.prog 278 = some [.nilFunc] := by kernel_rfl
theorem tyR279 : rowT Tryz.prog 279 = some false := by kernel_rfl
theorem tyS279 : szT Tryz.prog 279 = some 1 := by kernel_rfl
theorem tyZ279 : zT Tryz.prog 279 = some [.nilFunc] := by kernel_rfl
theorem tyR280 : rowT Tryz.prog 280 = some false := by kernel_rfl
theorem tyS280 : szT Tryz.prog 280 = some 1 := by kernel_rfl
theorem tyZ280 : zT Tryz.prog 280 = some [.nilFunc] := by kernel_rfl
theorem tyR281 : rowT Tryz.prog 281 = some false := by kernel_rfl
theorem tyS281 : szT Tryz.prog 281 = some 1 := by kernel_rfl
theorem tyZ281 : zT Tryz.prog 281 = some [.nilFunc] := by kernel_rfl
theorem tyR282 : rowT Tryz.prog 282 = some false := by kernel_rfl
theorem tyS282 : szT Tryz.prog 282 = some 1 := by kernel_rfl
theorem tyZ282 : zT Tryz.prog 282 = some [.nilFunc] := by kernel_rfl
theorem tyR283 : rowT Tryz.prog 283 = some false := by kernel_rfl
theorem tyS283 : szT Tryz.prog 283 = some 1 := by kernel_rfl
theorem tyZ283 : zT Tryz.prog 283 = some [.nilFunc] := by kernel_rfl
theorem tyR285 : rowT Tryz.prog 285 = some false := by kernel_rfl
theorem tyS285 : szT Tryz.prog 285 = some 1 := by kernel_rfl
theorem tyZ285 : zT Tryz.prog 285 = some [.nilFunc] := by kernel_rfl
theorem tyR286 : rowT Tryz.prog 286 = some false := by kernel_rfl
theorem tyS286 : szT Tryz.prog 286 = some 1 := by kernel_rfl
theorem tyZ286 : zT Tryz.prog 286 = some [.nilFunc] := by kernel_rfl
theorem tyR287 : rowT Tryz.prog 287 = some true := by kernel_rfl
theorem tyS287 : szT Tryz.prog 287 = some 256 := by kernel_rfl
theorem tyA287 : arT Tryz.prog 287 = some (256, 4, 1) := by kernel_rfl
theorem tyR288 : rowT Tryz.prog 288 = some false := by kernel_rfl
theorem tyS288 : szT Tryz.prog 288 = some 1 := by kernel_rfl
theorem tyZ288 : zT Tryz.prog 288 = some [.nilFunc] := by kernel_rfl
theorem tyR289 : rowT Tryz.prog 289 = some false := by kernel_rfl
theorem tyS289 : szT Tryz.prog 289 = some 1 := by kernel_rfl
theorem tyZ289 : zT Tryz.prog 289 = some [.nilFunc] := by kernel_rfl
theorem tyR290 : rowT Tryz.prog 290 = some false := by kernel_rfl
theorem tyS290 : szT Tryz.prog 290 = some 1 := by kernel_rfl
theorem tyZ290 : zT Tryz.prog 290 = some [.pointer none] := by kernel_rfl
theorem tyR291 : rowT Tryz.prog 291 = some true := by kernel_rfl
theorem tyS291 : szT Tryz.prog 291 = some 2 := by kernel_rfl
theorem tyZ291 : zT Tryz.prog 291 = some [.int .u8 0, .int .u8 0] := by kernel_rfl
theorem tyF291_0 : fldT Tryz.prog 291 0 = some (0, 5) := by kernel_rfl
theorem tyF291_1 : fldT Tryz.prog 291 1 = some (1, 5) := by kernel_rfl
theorem tyB291 : bldT Tryz.prog 291 = some ([.int .u8 0, .int .u8 0], [(0, 1), (1, 1)]) := by kernel_rfl
theorem tyR292 : rowT Tryz.prog 292 = some true := by kernel_rfl
theorem tyS292 : szT Tryz.prog 292 = some 2 := by kernel_rfl
theorem tyZ292 : zT Tryz.prog 292 = some [.int .u8 0, .int .u8 0] := by kernel_rfl
theorem tyF292_0 : fldT Tryz.prog 292 0 = some (0, 5) := by kernel_rfl
theorem tyF292_1 : fldT Tryz.prog 292 1 = some (1, 5) := by kernel_rfl
theorem tyB292 : bldT Tryz.prog 292 = some ([.int .u8 0, .int .u8 0], [(0, 1), (1, 1)]) := by kernel_rfl
theorem tyR294 : rowT Tryz.prog 294 = some false := by kernel_rfl
theorem tyS294 : szT Tryz.prog 294 = some 1 := by kernel_rfl
theorem tyZ294 : zT Tryz.prog 294 = some [.nilFunc] := by kernel_rfl
theorem tyR295 : rowT Tryz.prog 295 = some false := by kernel_rfl
theorem tyS295 : szT Tryz.prog 295 = some 1 := by kernel_rfl
theorem tyZ295 : zT Tryz.prog 295 = some [.nilFunc] := by kernel_rfl
theorem tyR296 : rowT Tryz.prog 296 = some false := by kernel_rfl
theorem tyS296 : szT Tryz.prog 296 = some 1 := by kernel_rfl
theorem tyZ296 : zT Tryz.prog 296 = some [.nilFunc] := by kernel_rfl
theorem tyR297 : rowT Tryz.prog 297 = some false := by kernel_rfl
theorem tyS297 : szT Tryz.prog 297 = some 1 := by kernel_rfl
theorem tyZ297 : zT Tryz.prog 297 = some [.int .u64 0] := by kernel_rfl
theorem tyU297 : Tryz.prog.underlying 297 = some (.int .u64) := by kernel_rfl
theorem tyR298 : rowT Tryz.prog 298 = some false := by kernel_rfl
theorem tyS298 : szT Tryz.prog 298 = some 1 := by kernel_rfl
theorem tyZ298 : zT Tryz.prog 298 = some [.nilFunc] := by kernel_rfl
theorem tyR299 : rowT Tryz.prog 299 = some false := by kernel_rfl
theorem tyS299 : szT Tryz.prog 299 = some 1 := by kernel_rfl
theorem tyZ299 : zT Tryz.prog 299 = some [.nilFunc] := by kernel_rfl
theorem tyR300 : rowT Tryz.prog 300 = some false := by kernel_rfl
theorem tyS300 : szT Tryz.prog 300 = some 1 := by kernel_rfl
theorem tyZ300 : zT Tryz.prog 300 = some [.nilFunc] := by kernel_rfl
theorem tyR301 : rowT Tryz.prog 301 = some false := by kernel_rfl
theorem tyS301 : szT Tryz.prog 301 = some 1 := by kernel_rfl
theorem tyZ301 : zT Tryz.prog 301 = some [.pointer none] := by kernel_rfl
theorem tyR302 : rowT Tryz.prog 302 = some false := by kernel_rfl
theorem tyS302 : szT Tryz.prog 302 = some 1 := by kernel_rfl
theorem tyZ302 : zT Tryz.prog 302 = some [.nilFunc] := by kernel_rfl
theorem tyR303 : rowT Tryz.prog 303 = some false := by kernel_rfl
theorem tyS303 : szT Tryz.prog 303 = some 1 := by kernel_rfl
theorem tyZ303 : zT Tryz.prog 303 = some [.nilFunc] := by kernel_rfl
theorem tyR304 : rowT Tryz.prog 304 = some false := by kernel_rfl
theorem tyS304 : szT Tryz.prog 304 = some 1 := by kernel_rfl
theorem tyZ304 : zT Tryz.prog 304 = some [.nilFunc] := by kernel_rfl
theorem tyR305 : rowT Tryz.prog 305 = some false := by kernel_rfl
theorem tyS305 : szT Tryz.prog 305 = some 1 := by kernel_rfl
theorem tyZ305 : zT Tryz.prog 305 = some [.nilFunc] := by kernel_rfl
theorem tyR306 : rowT Tryz.prog 306 = some true := by kernel_rfl
theorem tyS306 : szT Tryz.prog 306 = some 256 := by kernel_rfl
theorem tyA306 : arT Tryz.prog 306 = some (256, 4, 1) := by kernel_rfl
theorem tyR308 : rowT Tryz.prog 308 = some false := by kernel_rfl
theorem tyS308 : szT Tryz.prog 308 = some 1 := by kernel_rfl
theorem tyZ308 : zT Tryz.prog 308 = some [.nilFunc] := by kernel_rfl
theorem tyR309 : rowT Tryz.prog 309 = some false := by kernel_rfl
theorem tyS309 : szT Tryz.prog 309 = some 1 := by kernel_rfl
theorem tyZ309 : zT Tryz.prog 309 = some [.nilFunc] := by kernel_rfl
theorem tyR310 : rowT Tryz.prog 310 = some false := by kernel_rfl
theorem tyS310 : szT Tryz.prog 310 = some 1 := by kernel_rfl
theorem tyZ310 : zT Tryz.prog 310 = some [.pointer none] := by kernel_rfl
theorem tyR311 : rowT Tryz.prog 311 = some false := by kernel_rfl
theorem tyS311 : szT Tryz.prog 311 = some 1 := by kernel_rfl
theorem tyZ311 : zT Tryz.prog 311 = some [.nilFunc] := by kernel_rfl
theorem tyR312 : rowT Tryz.prog 312 = some false := by kernel_rfl
theorem tyS312 : szT Tryz.prog 312 = some 1 := by kernel_rfl
theorem tyZ312 : zT Tryz.prog 312 = some [.nilFunc] := by kernel_rfl
theorem tyR313 : rowT Tryz.prog 313 = some false := by kernel_rfl
theorem tyS313 : szT Tryz.prog 313 = some 1 := by kernel_rfl
theorem tyZ313 : zT Tryz.prog 313 = some [.nilFunc] := by kernel_rfl
theorem tyR314 : rowT Tryz.prog 314 = some false := by kernel_rfl
theorem tyS314 : szT Tryz.prog 314 = some 1 := by kernel_rfl
theorem tyZ314 : zT Tryz.prog 314 = some [.nilFunc] := by kernel_rfl
theorem tyR315 : rowT Tryz.prog 315 = some false := by kernel_rfl
theorem tyS315 : szT Tryz.prog 315 = some 1 := by kernel_rfl
theorem tyZ315 : zT Tryz.prog 315 = some [.nilFunc] := by kernel_rfl
theorem tyR316 : rowT Tryz.prog 316 = some false := by kernel_rfl
theorem tyS316 : szT Tryz.prog 316 = some 1 := by kernel_rfl
theorem tyZ316 : zT Tryz.prog 316 = some [.nilFunc] := by kernel_rfl
theorem tyR317 : rowT Tryz.prog 317 = some false := by kernel_rfl
theorem tyS317 : szT Tryz.prog 317 = some 1 := by kernel_rfl
theorem tyZ317 : zT Tryz.prog 317 = some [.nilFunc] := by kernel_rfl
theorem tyR318 : rowT Tryz.prog 318 = some false := by kernel_rfl
theorem tyS318 : szT Tryz.prog 318 = some 1 := by kernel_rfl
theorem tyZ318 : zT Tryz.prog 318 = some [.nilFunc] := by kernel_rfl
theorem tyR320 : rowT Tryz.prog 320 = some false := by kernel_rfl
theorem tyS320 : szT Tryz.prog 320 = some 1 := by kernel_rfl
theorem tyZ320 : zT Tryz.prog 320 = some [.nilFunc] := by kernel_rfl
theorem tyR321 : rowT Tryz.prog 321 = some false := by kernel_rfl
theorem tyS321 : szT Tryz.prog 321 = some 1 := by kernel_rfl
theorem tyZ321 : zT Tryz.prog 321 = some [.nilFunc] := by kernel_rfl
theorem tyR322 : rowT Tryz.prog 322 = some false := by kernel_rfl
theorem tyS322 : szT Tryz.prog 322 = some 1 := by kernel_rfl
theorem tyZ322 : zT Tryz.prog 322 = some [.nilFunc] := by kernel_rfl
theorem tyR323 : rowT Tryz.prog 323 = some false := by kernel_rfl
theorem tyS323 : szT Tryz.prog 323 = some 1 := by kernel_rfl
theorem tyZ323 : zT Tryz.prog 323 = some [.nilFunc] := by kernel_rfl
theorem tyR324 : rowT Tryz.prog 324 = some false := by kernel_rfl
theorem tyS324 : szT Tryz.prog 324 = some 1 := by kernel_rfl
theorem tyZ324 : zT Tryz.prog 324 = some [.nilFunc] := by kernel_rfl
theorem tyR325 : rowT Tryz.prog 325 = some true := by kernel_rfl
theorem tyS325 : szT Tryz.prog 325 = some 24 := by kernel_rfl
theorem tyZ325 : zT Tryz.prog 325 = some [.int .u8 0, .int .u8 0, .int .u8 0, .int .u8 0, .int .u8 0, .int .u8 0, .int .u8 0, .int .u8 0, .int .u8 0, .int .u8 0, .int .u8 0, .int .u8 0, .int .u8 0, .int .u8 0, .int .u8 0, .int .u8 0, .int .u8 0, .int .u8 0, .int .u8 0, .int .u8 0, .int .u8 0, .int .u8 0, .int .u8 0, .int .u8 0] := by kernel_rfl
theorem tyA325 : arT Tryz.prog 325 = some (24, 5, 1) := by kernel_rfl
theorem tyR326 : rowT Tryz.prog 326 = some false := by kernel_rfl
theorem tyS326 : szT Tryz.prog 326 = some 1 := by kernel_rfl
theorem tyZ326 : zT Tryz.prog 326 = some [.nilFunc] := by kernel_rfl
theorem tyR328 : rowT Tryz.prog 328 = some false := by kernel_rfl
theorem tyS328 : szT Tryz.prog 328 = some 1 := by kernel_rfl
theorem tyZ328 : zT Tryz.prog 328 = some [.nilFunc] := by kernel_rfl
theorem tyR329 : rowT Tryz.prog 329 = some false := by kernel_rfl
theorem tyS329 : szT Tryz.prog 329 = some 1 := by kernel_rfl
theorem tyZ329 : zT Tryz.prog 329 = some [.pointer none] := by kernel_rfl
theorem tyR330 : rowT Tryz.prog 330 = some false := by kernel_rfl
theorem tyS330 : szT Tryz.prog 330 = some 1 := by kernel_rfl
theorem tyZ330 : zT Tryz.prog 330 = some [.nilFunc] := by kernel_rfl
theorem tyR331 : rowT Tryz.prog 331 = some false := by kernel_rfl
theorem tyS331 : szT Tryz.prog 331 = some 1 := by kernel_rfl
theorem tyZ331 : zT Tryz.prog 331 = some [.nilFunc] := by kernel_rfl
theorem tyR332 : rowT Tryz.prog 332 = some true := by kernel_rfl
theorem tyS332 : szT Tryz.prog 332 = some 2 := by kernel_rfl
theorem tyZ332 : zT Tryz.prog 332 = some [.bool false, .bool false] := by kernel_rfl
theorem tyF332_0 : fldT Tryz.prog 332 0 = some (0, 4) := by kernel_rfl
theorem tyF332_1 : fldT Tryz.prog 332 1 = some (1, 4) := by kernel_rfl
theorem tyB332 : bldT Tryz.prog 332 = some ([.bool false, .bool false], [(0, 1), (1, 1)]) := by kernel_rfl
theorem tyR333 : rowT Tryz.prog 333 = some true := by kernel_rfl
theorem tyS333 : szT Tryz.prog 333 = some 2 := by kernel_rfl
theorem tyZ333 : zT Tryz.prog 333 = some [.bool false, .bool false] := by kernel_rfl
theorem tyF333_0 : fldT Tryz.prog 333 0 = some (0, 4) := by kernel_rfl
theorem tyF333_1 : fldT Tryz.prog 333 1 = some (1, 4) := by kernel_rfl
theorem tyB333 : bldT Tryz.prog 333 = some ([.bool false, .bool false], [(0, 1), (1, 1)]) := by kernel_rfl
theorem tyR335 : rowT Tryz.prog 335 = some false := by kernel_rfl
theorem tyS335 : szT Tryz.prog 335 = some 1 := by kernel_rfl
theorem tyZ335 : zT Tryz.prog 335 = some [.nilFunc] := by kernel_rfl
theorem tyR336 : rowT Tryz.prog 336 = some false := by kernel_rfl
theorem tyS336 : szT Tryz.prog 336 = some 1 := by kernel_rfl
theorem tyZ336 : zT Tryz.prog 336 = some [.nilFunc] := by kernel_rfl
theorem tyR337 : rowT Tryz.prog 337 = some false := by kernel_rfl
theorem tyS337 : szT Tryz.prog 337 = some 1 := by kernel_rfl
theorem tyZ337 : zT Tryz.prog 337 = some [.nilFunc] := by kernel_rfl
theorem tyR338 : rowT Tryz.prog 338 = some false := by kernel_rfl
theorem tyS338 : szT Tryz.prog 338 = some 1 := by kernel_rfl
theorem tyZ338 : zT Tryz.prog 338 = some [.nilFunc] := by kernel_rfl
theorem tyR339 : rowT Tryz.prog 339 = some false := by kernel_rfl
theorem tyS339 : szT Tryz.prog 339 = some 1 := by kernel_rfl
theorem tyZ339 : zT Tryz.prog 339 = some [.nilFunc] := by kernel_rfl
theorem tyR340 : rowT Tryz.prog 340 = some false := by kernel_rfl
theorem tyS340 : szT Tryz.prog 340 = some 1 := by kernel_rfl
theorem tyZ340 : zT Tryz.prog 340 = some [.nilFunc] := by kernel_rfl
theorem tyR341 : rowT Tryz.prog 341 = some false := by kernel_rfl
theorem tyS341 : szT Tryz.prog 341 = some 1 := by kernel_rfl
theorem tyZ341 : zT Tryz.prog 341 = some [.nilFunc] := by kernel_rfl
theorem tyR342 : rowT Tryz.prog 342 = some false := by kernel_rfl
theorem tyS342 : szT Tryz.prog 342 = some 1 := by kernel_rfl
theorem tyZ342 : zT Tryz.prog 342 = some [.nilFunc] := by kernel_rfl
theorem tyR343 : rowT Tryz.prog 343 = some false := by kernel_rfl
theorem tyS343 : szT Tryz.prog 343 = some 1 := by kernel_rfl
theorem tyZ343 : zT Tryz.prog 343 = some [.nilFunc] := by kernel_rfl
theorem tyR344 : rowT Tryz.prog 344 = some true := by kernel_rfl
theorem tyS344 : szT Tryz.prog 344 = some 20 := by kernel_rfl
theorem tyZ344 : zT Tryz.prog 344 = some [.int .u64 0, .int .u64 0, .int .u64 0, .int .u64 0, .int .u64 0, .int .u64 0, .int .u64 0, .int .u64 0, .int .u64 0, .int .u64 0, .int .u64 0, .int .u64 0, .int .u64 0, .int .u64 0, .int .u64 0, .int .u64 0, .int .u64 0, .int .u64 0, .int .u64 0, .int .u64 0] := by kernel_rfl
theorem tyA344 : arT Tryz.prog 344 = some (20, 254, 1) := by kernel_rfl
theorem tyR345 : rowT Tryz.prog 345 = some true := by kernel_rfl
theorem tyS345 : szT Tryz.prog 345 = some 65 := by kernel_rfl
theorem tyA345 : arT Tryz.prog 345 = some (65, 5, 1) := by kernel_rfl
theorem tyR346 : rowT Tryz.prog 346 = some true := by kernel_rfl
theorem tyS346 : szT Tryz.prog 346 = some 8 := by kernel_rfl
theorem tyZ346 : zT Tryz.prog 346 = some [.int .i64 0, .int .i64 0, .int .i64 0, .int .i64 0, .int .i64 0, .int .i64 0, .int .i64 0, .int .i64 0] := by kernel_rfl
theorem tyA346 : arT Tryz.prog 346 = some (8, 3, 1) := by kernel_rfl
theorem tyR347 : rowT Tryz.prog 347 = some false := by kernel_rfl
theorem tyS347 : szT Tryz.prog 347 = some 1 := by kernel_rfl
theorem tyZ347 : zT Tryz.prog 347 = some [.slice none 0 0] := by kernel_rfl
theorem tyE347 : elT Tryz.prog 347 = some (4, 1, 1) := by kernel_rfl
theorem tyL347 : isSlT Tryz.prog 347 = true := by kernel_rfl
theorem tyR348 : rowT Tryz.prog 348 = some false := by kernel_rfl
theorem tyS348 : szT Tryz.prog 348 = some 1 := by kernel_rfl
theorem tyZ348 : zT Tryz.prog 348 = some [.nilFunc] := by kernel_rfl
theorem tyR349 : rowT Tryz.prog 349 = some false := by kernel_rfl
theorem tyS349 : szT Tryz.prog 349 = some 1 := by kernel_rfl
theorem tyZ349 : zT Tryz.prog 349 = some [.nilFunc] := by kernel_rfl
theorem tyR350 : rowT Tryz.prog 350 = some false := by kernel_rfl
theorem tyS350 : szT Tryz.prog 350 = some 1 := by kernel_rfl
theorem tyZ350 : zT Tryz.prog 350 = some [.nilFunc] := by kernel_rfl
theorem tyR352 : rowT Tryz.prog 352 = some false := by kernel_rfl
theorem tyS352 : szT Tryz.prog 352 = some 1 := by kernel_rfl
theorem tyZ352 : zT Tryz.prog 352 = some [.nilFunc] := by kernel_rfl
theorem tyR353 : rowT Tryz.prog 353 = some false := by kernel_rfl
theorem tyS353 : szT Tryz.prog 353 = some 1 := by kernel_rfl
theorem tyZ353 : zT Tryz.prog 353 = some [.nilFunc] := by kernel_rfl
theorem tyR354 : rowT Tryz.prog 354 = some false := by kernel_rfl
theorem tyS354 : szT Tryz.prog 354 = some 1 := by kernel_rfl
theorem tyZ354 : zT Tryz.prog 354 = some [.nilFunc] := by kernel_rfl
theorem tyR355 : rowT Tryz.prog 355 = some false := by kernel_rfl
theorem tyS355 : szT Tryz.prog 355 = some 1 := by kernel_rfl
theorem tyZ355 : zT Tryz.prog 355 = some [.nilFunc] := by kernel_rfl
theorem tyR356 : rowT Tryz.prog 356 = some true := by kernel_rfl
theorem tyS356 : szT Tryz.prog 356 = some 256 := by kernel_rfl
theorem tyA356 : arT Tryz.prog 356 = some (256, 5, 1) := by kernel_rfl
theorem tyR357 : rowT Tryz.prog 357 = some true := by kernel_rfl
theorem tyS357 : szT Tryz.prog 357 = some 2 := by kernel_rfl
theorem tyZ357 : zT Tryz.prog 357 = some [.int .u8 0, .int .u8 0] := by kernel_rfl
theorem tyF357_0 : fldT Tryz.prog 357 0 = some (0, 5) := by kernel_rfl
theorem tyF357_1 : fldT Tryz.prog 357 1 = some (1, 5) := by kernel_rfl
theorem tyB357 : bldT Tryz.prog 357 = some ([.int .u8 0, .int .u8 0], [(0, 1), (1, 1)]) := by kernel_rfl
theorem tyR358 : rowT Tryz.prog 358 = some true := by kernel_rfl
theorem tyS358 : szT Tryz.prog 358 = some 2 := by kernel_rfl
theorem tyZ358 : zT Tryz.prog 358 = some [.int .u8 0, .int .u8 0] := by kernel_rfl
theorem tyF358_0 : fldT Tryz.prog 358 0 = some (0, 5) := by kernel_rfl
theorem tyF358_1 : fldT Tryz.prog 358 1 = some (1, 5) := by kernel_rfl
theorem tyB358 : bldT Tryz.prog 358 = some ([.int .u8 0, .int .u8 0], [(0, 1), (1, 1)]) := by kernel_rfl
theorem tyR359 : rowT Tryz.prog 359 = some true := by kernel_rfl
theorem tyS359 : szT Tryz.prog 359 = some 32 := by kernel_rfl
theorem tyZ359 : zT Tryz.prog 359 = some [.int .u8 0, .int .u8 0, .int .u8 0, .int .u8 0, .int .u8 0, .int .u8 0, .int .u8 0, .int .u8 0, .int .u8 0, .int .u8 0, .int .u8 0, .int .u8 0, .int .u8 0, .int .u8 0, .int .u8 0, .int .u8 0, .int .u8 0, .int .u8 0, .int .u8 0, .int .u8 0, .int .u8 0, .int .u8 0, .int .u8 0, .int .u8 0, .int .u8 0, .int .u8 0, .int .u8 0, .int .u8 0, .int .u8 0, .int .u8 0, .int .u8 0, .int .u8 0] := by kernel_rfl
theorem tyA359 : arT Tryz.prog 359 = some (16, 358, 2) := by kernel_rfl
theorem tyR360 : rowT Tryz.prog 360 = some true := by kernel_rfl
theorem tyS360 : szT Tryz.prog 360 = some 32 := by kernel_rfl
theorem tyZ360 : zT Tryz.prog 360 = some [.int .u8 0, .int .u8 0, .int .u8 0, .int .u8 0, .int .u8 0, .int .u8 0, .int .u8 0, .int .u8 0, .int .u8 0, .int .u8 0, .int .u8 0, .int .u8 0, .int .u8 0, .int .u8 0, .int .u8 0, .int .u8 0, .int .u8 0, .int .u8 0, .int .u8 0, .int .u8 0, .int .u8 0, .int .u8 0, .int .u8 0, .int .u8 0, .int .u8 0, .int .u8 0, .int .u8 0, .int .u8 0, .int .u8 0, .int .u8 0, .int .u8 0, .int .u8 0] := by kernel_rfl
theorem tyA360 : arT Tryz.prog 360 = some (32, 5, 1) := by kernel_rfl
theorem tyR361 : rowT Tryz.prog 361 = some true := by kernel_rfl
theorem tyS361 : szT Tryz.prog 361 = some 64 := by kernel_rfl
theorem tyA361 : arT Tryz.prog 361 = some (64, 5, 1) := by kernel_rfl
theorem tyR362 : rowT Tryz.prog 362 = some true := by kernel_rfl
theorem tyS362 : szT Tryz.prog 362 = some 4 := by kernel_rfl
theorem tyZ362 : zT Tryz.prog 362 = some [.pointer none, .pointer none, .pointer none, .string ⟨#[]⟩] := by kernel_rfl
theorem tyF362_0 : fldT Tryz.prog 362 0 = some (0, 17) := by kernel_rfl
theorem tyF362_1 : fldT Tryz.prog 362 1 = some (1, 17) := by kernel_rfl
theorem tyF362_2 : fldT Tryz.prog 362 2 = some (2, 17) := by kernel_rfl
theorem tyF362_3 : fldT Tryz.prog 362 3 = some (3, 9) := by kernel_rfl
theorem tyB362 : bldT Tryz.prog 362 = some ([.pointer none, .pointer none, .pointer none, .string ⟨#[]⟩], [(0, 1), (1, 1), (2, 1), (3, 1)]) := by kernel_rfl
theorem tyR364 : rowT Tryz.prog 364 = some true := by kernel_rfl
theorem tyS364 : szT Tryz.prog 364 = some 0 := by kernel_rfl
theorem tyZ364 : zT Tryz.prog 364 = some [] := by kernel_rfl
theorem tyA364 : arT Tryz.prog 364 = some (0, 16, 1) := by kernel_rfl
theorem tyR365 : rowT Tryz.prog 365 = some true := by kernel_rfl
theorem tyS365 : szT Tryz.prog 365 = some 0 := by kernel_rfl
theorem tyZ365 : zT Tryz.prog 365 = some [] := by kernel_rfl
theorem tyR369 : rowT Tryz.prog 369 = some false := by kernel_rfl
theorem tyS369 : szT Tryz.prog 369 = some 1 := by kernel_rfl
theorem tyZ369 : zT Tryz.prog 369 = some [.nilFunc] := by kernel_rfl
theorem tyR372 : rowT Tryz.prog 372 = some true := by kernel_rfl
theorem tyS372 : szT Tryz.prog 372 = some 11 := by kernel_rfl
theorem tyZ372 : zT Tryz.prog 372 = some [.int .u64 0, .int .u64 0, .int .u32 0, .int .u8 0, .int .u8 0, .int .u8 0, .int .u8 0, .nilFunc, .pointer none, .int .i32 0, .int .i32 0] := by kernel_rfl
theorem tyF372_0 : fldT Tryz.prog 372 0 = some (0, 12) := by kernel_rfl
theorem tyF372_1 : fldT Tryz.prog 372 1 = some (1, 12) := by kernel_rfl
theorem tyF372_2 : fldT Tryz.prog 372 2 = some (2, 265) := by kernel_rfl
theorem tyF372_3 : fldT Tryz.prog 372 3 = some (3, 367) := by kernel_rfl
theorem tyF372_4 : fldT Tryz.prog 372 4 = some (4, 5) := by kernel_rfl
theorem tyF372_5 : fldT Tryz.prog 372 5 = some (5, 5) := by kernel_rfl
theorem tyF372_6 : fldT Tryz.prog 372 6 = some (6, 368) := by kernel_rfl
theorem tyF372_7 : fldT Tryz.prog 372 7 = some (7, 369) := by kernel_rfl
theorem tyF372_8 : fldT Tryz.prog 372 8 = some (8, 220) := by kernel_rfl
theorem tyF372_9 : fldT Tryz.prog 372 9 = some (9, 370) := by kernel_rfl
theorem tyF372_10 : fldT Tryz.prog 372 10 = some (10, 371) := by kernel_rfl
theorem tyB372 : bldT Tryz.prog 372 = some ([.int .u64 0, .int .u64 0, .int .u32 0, .int .u8 0, .int .u8 0, .int .u8 0, .int .u8 0, .nilFunc, .pointer none, .int .i32 0, .int .i32 0], [(0, 1), (1, 1), (2, 1), (3, 1), (4, 1), (5, 1), (6, 1), (7, 1), (8, 1), (9, 1), (10, 1)]) := by kernel_rfl
attribute [go_sem] tyR1 tyS1 tyZ1 tyR2 tyS2 tyZ2 tyU2 tyR3 tyS3 tyZ3 tyU3 tyR4 tyS4 tyZ4 tyU4 tyR5 tyS5 tyZ5 tyU5 tyR7 tyS7 tyZ7 tyF7_0 tyF7_1 tyF7_2 tyF7_3 tyB7 tyR9 tyS9 tyZ9 tyU9 tyR12 tyS12 tyZ12 tyU12 tyR13 tyS13 tyZ13 tyF13_0 tyF13_1 tyB13 tyR15 tyS15 tyZ15 tyR16 tyS16 tyZ16 tyR17 tyS17 tyZ17 tyR18 tyS18 tyZ18 tyF18_0 tyB18 tyR20 tyS20 tyZ20 tyR21 tyS21 tyZ21 tyU21 tyR22 tyS22 tyZ22 tyR23 tyS23 tyZ23 tyR24 tyS24 tyZ24 tyE24 tyL24 tyR25 tyS25 tyZ25 tyE25 tyL25 tyR26 tyS26 tyZ26 tyE26 tyL26 tyR27 tyS27 tyZ27 tyE27 tyL27 tyR28 tyS28 tyZ28 tyE28 tyL28 tyR29 tyS29 tyZ29 tyF29_0 tyF29_1 tyB29 tyR30 tyS30 tyZ30 tyF30_0 tyF30_1 tyB30 tyR31 tyS31 tyZ31 tyF31_0 tyF31_1 tyF31_2 tyF31_3 tyF31_4 tyF31_5 tyF31_6 tyF31_7 tyF31_8 tyF31_9 tyF31_10 tyF31_11 tyF31_12 tyF31_13 tyB31 tyR32 tyS32 tyZ32 tyF32_0 tyF32_1 tyF32_2 tyF32_3 tyF32_4 tyF32_5 tyF32_6 tyF32_7 tyF32_8 tyF32_9 tyF32_10 tyF32_11 tyF32_12 tyF32_13 tyB32 tyR34 tyS34 tyZ34 tyR35 tyS35 tyZ35 tyE35 tyL35 tyR36 tyS36 tyZ36 tyF36_0 tyF36_1 tyF36_2 tyF36_3 tyF36_4 tyB36 tyR37 tyS37 tyZ37 tyF37_0 tyF37_1 tyF37_2 tyF37_3 tyF37_4 tyB37 tyR38 tyS38 tyZ38 tyF38_0 tyF38_1 tyB38 tyR39 tyS39 tyZ39 tyF39_0 tyF39_1 tyB39 tyR40 tyS40 tyZ40 tyU40 tyR42 tyS42 tyZ42 tyR43 tyS43 tyZ43 tyE43 tyL43 tyR45 tyS45 tyZ45 tyR46 tyS46 tyZ46 tyF46_0 tyF46_1 tyF46_2 tyF46_3 tyF46_4 tyF46_5 tyB46 tyR47 tyS47 tyZ47 tyF47_0 tyF47_1 tyF47_2 tyF47_3 tyF47_4 tyF47_5 tyB47 tyR49 tyS49 tyZ49 tyR50 tyS50 tyZ50 tyE50 tyL50 tyR51 tyS51 tyZ51 tyR52 tyS52 tyZ52 tyF52_0 tyF52_1 tyB52 tyR53 tyS53 tyZ53 tyF53_0 tyF53_1 tyB53 tyR54 tyS54 tyZ54 tyE54 tyL54 tyR55 tyS55 tyZ55 tyR57 tyS57 tyZ57 tyR58 tyS58 tyZ58 tyR60 tyS60 tyZ60 tyR61 tyS61 tyZ61 tyR63 tyS63 tyZ63 tyR64 tyS64 tyZ64 tyE64 tyL64 tyR65 tyS65 tyZ65 tyF65_0 tyF65_1 tyF65_2 tyF65_3 tyB65 tyR66 tyS66 tyZ66 tyF66_0 tyF66_1 tyF66_2 tyF66_3 tyB66 tyR68 tyS68 tyZ68 tyR69 tyS69 tyZ69 tyR70 tyS70 tyZ70 tyR71 tyS71 tyZ71 tyU71 tyR72 tyS72 tyZ72 tyE72 tyL72 tyR73 tyS73 tyZ73 tyR74 tyS74 tyZ74 tyR75 tyS75 tyZ75 tyR76 tyS76 tyZ76 tyR77 tyS77 tyZ77 tyR78 tyS78 tyZ78 tyF78_0 tyF78_1 tyF78_2 tyB78 tyR79 tyS79 tyZ79 tyF79_0 tyF79_1 tyF79_2 tyB79 tyR80 tyS80 tyZ80 tyR81 tyS81 tyZ81 tyR82 tyS82 tyZ82 tyR84 tyS84 tyZ84 tyR85 tyS85 tyZ85 tyR86 tyS86 tyZ86 tyF86_0 tyF86_1 tyB86 tyR87 tyS87 tyZ87 tyF87_0 tyF87_1 tyB87 tyR89 tyS89 tyZ89 tyR90 tyS90 tyZ90 tyF90_0 tyF90_1 tyF90_2 tyB90 tyR91 tyS91 tyZ91 tyF91_0 tyF91_1 tyF91_2 tyB91 tyR92 tyS92 tyZ92 tyR93 tyS93 tyZ93 tyF93_0 tyF93_1 tyB93 tyR94 tyS94 tyZ94 tyF94_0 tyF94_1 tyB94 tyR95 tyS95 tyZ95 tyR96 tyS96 tyZ96 tyR97 tyS97 tyZ97 tyR98 tyS98 tyZ98 tyR99 tyS99 tyZ99 tyR100 tyS100 tyZ100 tyR102 tyS102 tyZ102 tyF102_0 tyF102_1 tyB102 tyR103 tyS103 tyZ103 tyF103_0 tyF103_1 tyB103 tyR104 tyS104 tyZ104 tyR105 tyS105 tyZ105 tyR106 tyS106 tyZ106 tyR107 tyS107 tyZ107 tyR108 tyS108 tyZ108 tyR109 tyS109 tyZ109 tyF109_0 tyF109_1 tyB109 tyR110 tyS110 tyZ110 tyF110_0 tyF110_1 tyB110 tyR112 tyS112 tyZ112 tyR113 tyS113 tyZ113 tyR114 tyS114 tyZ114 tyE114 tyL114 tyC114_9 tyR115 tyS115 tyZ115 tyF115_0 tyF115_1 tyF115_2 tyF115_3 tyF115_4 tyF115_5 tyF115_6 tyF115_7 tyF115_8 tyB115 tyR116 tyS116 tyZ116 tyF116_0 tyF116_1 tyF116_2 tyF116_3 tyF116_4 tyF116_5 tyF116_6 tyF116_7 tyF116_8 tyB116 tyR117 tyS117 tyZ117 tyF117_0 tyF117_1 tyF117_2 tyF117_3 tyF117_4 tyF117_5 tyF117_6 tyF117_7 tyB117 tyR118 tyS118 tyZ118 tyF118_0 tyF118_1 tyF118_2 tyF118_3 tyF118_4 tyF118_5 tyF118_6 tyF118_7 tyB118 tyR119 tyS119 tyZ119 tyE119 tyL119 tyR121 tyS121 tyZ121 tyR122 tyS122 tyZ122 tyF122_0 tyF122_1 tyF122_2 tyB122 tyR123 tyS123 tyZ123 tyF123_0 tyF123_1 tyF123_2 tyB123 tyR124 tyS124 tyZ124 tyE124 tyL124 tyR125 tyS125 tyZ125 tyR126 tyS126 tyZ126 tyR128 tyS128 tyZ128 tyR129 tyS129 tyZ129 tyR130 tyS130 tyZ130 tyR131 tyS131 tyZ131 tyR132 tyS132 tyZ132 tyR133 tyS133 tyZ133 tyR134 tyS134 tyZ134 tyR135 tyS135 tyZ135 tyR136 tyS136 tyZ136 tyR137 tyS137 tyZ137 tyR138 tyS138 tyZ138 tyR139 tyS139 tyZ139 tyR140 tyS140 tyZ140 tyR141 tyS141 tyZ141 tyR142 tyS142 tyZ142 tyF142_0 tyF142_1 tyF142_2 tyF142_3 tyF142_4 tyB142 tyR143 tyS143 tyZ143 tyF143_0 tyF143_1 tyF143_2 tyF143_3 tyF143_4 tyB143 tyR144 tyS144 tyZ144 tyE144 tyL144 tyR145 tyS145 tyZ145 tyR146 tyS146 tyZ146 tyE146 tyL146 tyR147 tyS147 tyZ147 tyR148 tyS148 tyZ148 tyR149 tyS149 tyZ149 tyR150 tyS150 tyZ150 tyF150_0 tyF150_1 tyB150 tyR151 tyS151 tyZ151 tyF151_0 tyF151_1 tyB151 tyR152 tyS152 tyZ152 tyF152_0 tyF152_1 tyB152 tyR153 tyS153 tyZ153 tyF153_0 tyF153_1 tyB153 tyR154 tyS154 tyZ154 tyR155 tyS155 tyZ155 tyR157 tyS157 tyZ157 tyR159 tyS159 tyZ159 tyR160 tyS160 tyZ160 tyR161 tyS161 tyZ161 tyE161 tyL161 tyR162 tyS162 tyZ162 tyF162_0 tyF162_1 tyF162_2 tyF162_3 tyF162_4 tyB162 tyR163 tyS163 tyZ163 tyF163_0 tyF163_1 tyF163_2 tyF163_3 tyF163_4 tyB163 tyR164 tyS164 tyZ164 tyR165 tyS165 tyZ165 tyR166 tyS166 tyZ166 tyR167 tyS167 tyZ167 tyE167 tyL167 tyR168 tyS168 tyZ168 tyR169 tyS169 tyZ169 tyF169_0 tyF169_1 tyF169_2 tyB169 tyR170 tyS170 tyZ170 tyF170_0 tyF170_1 tyF170_2 tyB170 tyR172 tyS172 tyZ172 tyR173 tyS173 tyZ173 tyR174 tyS174 tyZ174 tyR175 tyS175 tyZ175 tyR176 tyS176 tyZ176 tyR177 tyS177 tyZ177 tyR178 tyS178 tyZ178 tyF178_0 tyF178_1 tyB178 tyR179 tyS179 tyZ179 tyR180 tyS180 tyZ180 tyF180_0 tyF180_1 tyB180 tyR181 tyS181 tyZ181 tyF181_0 tyF181_1 tyB181 tyR182 tyS182 tyZ182 tyR183 tyS183 tyZ183 tyE183 tyL183 tyR184 tyS184 tyZ184 tyE184 tyL184 tyR185 tyS185 tyZ185 tyE185 tyL185 tyR186 tyS186 tyZ186 tyE186 tyL186 tyR187 tyS187 tyZ187 tyF187_0 tyF187_1 tyF187_2 tyF187_3 tyF187_4 tyF187_5 tyF187_6 tyF187_7 tyF187_8 tyB187 tyR188 tyS188 tyZ188 tyF188_0 tyF188_1 tyF188_2 tyF188_3 tyF188_4 tyF188_5 tyF188_6 tyF188_7 tyF188_8 tyB188 tyR189 tyS189 tyZ189 tyF189_0 tyF189_1 tyB189 tyR190 tyS190 tyZ190 tyF190_0 tyF190_1 tyB190 tyR191 tyS191 tyZ191 tyR192 tyS192 tyZ192 tyR193 tyS193 tyZ193 tyR194 tyS194 tyZ194 tyR195 tyS195 tyZ195 tyE195 tyL195 tyR196 tyS196 tyZ196 tyR197 tyS197 tyZ197 tyF197_0 tyF197_1 tyF197_2 tyB197 tyR198 tyS198 tyZ198 tyF198_0 tyF198_1 tyF198_2 tyB198 tyR199 tyS199 tyZ199 tyR201 tyS201 tyZ201 tyR202 tyS202 tyZ202 tyR203 tyS203 tyZ203 tyR204 tyS204 tyZ204 tyR205 tyS205 tyZ205 tyR206 tyS206 tyZ206 tyR207 tyS207 tyZ207 tyR208 tyS208 tyZ208 tyU208 tyR209 tyS209 tyZ209 tyR210 tyS210 tyZ210 tyR211 tyS211 tyZ211 tyR212 tyS212 tyZ212 tyR213 tyS213 tyZ213 tyR214 tyS214 tyZ214 tyF214_0 tyF214_1 tyB214 tyR215 tyS215 tyZ215 tyF215_0 tyF215_1 tyB215 tyR216 tyS216 tyZ216 tyR217 tyS217 tyZ217 tyR218 tyS218 tyZ218 tyR219 tyS219 tyZ219 tyR220 tyS220 tyZ220 tyR221 tyS221 tyZ221 tyR222 tyS222 tyZ222 tyR224 tyS224 tyZ224 tyR225 tyS225 tyZ225 tyE225 tyL225 tyR226 tyS226 tyZ226 tyR227 tyS227 tyZ227 tyR228 tyS228 tyZ228 tyE228 tyL228 tyR229 tyS229 tyZ229 tyF229_0 tyF229_1 tyF229_2 tyF229_3 tyB229 tyR230 tyS230 tyZ230 tyF230_0 tyF230_1 tyF230_2 tyF230_3 tyB230 tyR232 tyS232 tyZ232 tyR233 tyS233 tyZ233 tyF233_0 tyF233_1 tyB233 tyR234 tyS234 tyZ234 tyF234_0 tyF234_1 tyB234 tyR235 tyS235 tyZ235 tyR236 tyS236 tyZ236 tyR237 tyS237 tyZ237 tyR238 tyS238 tyZ238 tyF238_0 tyF238_1 tyB238 tyR239 tyS239 tyZ239 tyF239_0 tyF239_1 tyB239 tyR240 tyS240 tyZ240 tyR241 tyS241 tyZ241 tyF241_0 tyF241_1 tyF241_2 tyB241 tyR242 tyS242 tyZ242 tyF242_0 tyF242_1 tyF242_2 tyB242 tyR243 tyS243 tyZ243 tyR244 tyS244 tyZ244 tyR245 tyS245 tyZ245 tyR246 tyS246 tyZ246 tyF246_0 tyF246_1 tyF246_2 tyF246_3 tyB246 tyR247 tyS247 tyZ247 tyF247_0 tyF247_1 tyF247_2 tyF247_3 tyB247 tyR248 tyS248 tyZ248 tyR249 tyS249 tyZ249 tyR250 tyS250 tyZ250 tyF250_0 tyF250_1 tyB250 tyR251 tyS251 tyZ251 tyF251_0 tyF251_1 tyB251 tyR253 tyS253 tyZ253 tyR254 tyS254 tyZ254 tyU254 tyR256 tyS256 tyZ256 tyR257 tyS257 tyZ257 tyR258 tyS258 tyZ258 tyU258 tyR260 tyS260 tyZ260 tyR261 tyS261 tyZ261 tyR262 tyS262 tyZ262 tyR263 tyS263 tyZ263 tyR264 tyS264 tyZ264 tyR265 tyS265 tyZ265 tyU265 tyR266 tyS266 tyZ266 tyR267 tyS267 tyZ267 tyR268 tyS268 tyZ268 tyR270 tyS270 tyZ270 tyR272 tyS272 tyZ272 tyR273 tyS273 tyZ273 tyR274 tyS274 tyZ274 tyR275 tyS275 tyZ275 tyF275_0 tyF275_1 tyB275 tyR276 tyS276 tyZ276 tyF276_0 tyF276_1 tyB276 tyR277 tyS277 tyZ277 tyR278 tyS278 tyZ278 tyR279 tyS279 tyZ279 tyR280 tyS280 tyZ280 tyR281 tyS281 tyZ281 tyR282 tyS282 tyZ282 tyR283 tyS283 tyZ283 tyR285 tyS285 tyZ285 tyR286 tyS286 tyZ286 tyR287 tyS287 tyA287 tyR288 tyS288 tyZ288 tyR289 tyS289 tyZ289 tyR290 tyS290 tyZ290 tyR291 tyS291 tyZ291 tyF291_0 tyF291_1 tyB291 tyR292 tyS292 tyZ292 tyF292_0 tyF292_1 tyB292 tyR294 tyS294 tyZ294 tyR295 tyS295 tyZ295 tyR296 tyS296 tyZ296 tyR297 tyS297 tyZ297 tyU297 tyR298 tyS298 tyZ298 tyR299 tyS299 tyZ299 tyR300 tyS300 tyZ300 tyR301 tyS301 tyZ301 tyR302 tyS302 tyZ302 tyR303 tyS303 tyZ303 tyR304 tyS304 tyZ304 tyR305 tyS305 tyZ305 tyR306 tyS306 tyA306 tyR308 tyS308 tyZ308 tyR309 tyS309 tyZ309 tyR310 tyS310 tyZ310 tyR311 tyS311 tyZ311 tyR312 tyS312 tyZ312 tyR313 tyS313 tyZ313 tyR314 tyS314 tyZ314 tyR315 tyS315 tyZ315 tyR316 tyS316 tyZ316 tyR317 tyS317 tyZ317 tyR318 tyS318 tyZ318 tyR320 tyS320 tyZ320 tyR321 tyS321 tyZ321 tyR322 tyS322 tyZ322 tyR323 tyS323 tyZ323 tyR324 tyS324 tyZ324 tyR325 tyS325 tyZ325 tyA325 tyR326 tyS326 tyZ326 tyR328 tyS328 tyZ328 tyR329 tyS329 tyZ329 tyR330 tyS330 tyZ330 tyR331 tyS331 tyZ331 tyR332 tyS332 tyZ332 tyF332_0 tyF332_1 tyB332 tyR333 tyS333 tyZ333 tyF333_0 tyF333_1 tyB333 tyR335 tyS335 tyZ335 tyR336 tyS336 tyZ336 tyR337 tyS337 tyZ337 tyR338 tyS338 tyZ338 tyR339 tyS339 tyZ339 tyR340 tyS340 tyZ340 tyR341 tyS341 tyZ341 tyR342 tyS342 tyZ342 tyR343 tyS343 tyZ343 tyR344 tyS344 tyZ344 tyA344 tyR345 tyS345 tyA345 tyR346 tyS346 tyZ346 tyA346 tyR347 tyS347 tyZ347 tyE347 tyL347 tyR348 tyS348 tyZ348 tyR349 tyS349 tyZ349 tyR350 tyS350 tyZ350 tyR352 tyS352 tyZ352 tyR353 tyS353 tyZ353 tyR354 tyS354 tyZ354 tyR355 tyS355 tyZ355 tyR356 tyS356 tyA356 tyR357 tyS357 tyZ357 tyF357_0 tyF357_1 tyB357 tyR358 tyS358 tyZ358 tyF358_0 tyF358_1 tyB358 tyR359 tyS359 tyZ359 tyA359 tyR360 tyS360 tyZ360 tyA360 tyR361 tyS361 tyA361 tyR362 tyS362 tyZ362 tyF362_0 tyF362_1 tyF362_2 tyF362_3 tyB362 tyR364 tyS364 tyZ364 tyA364 tyR365 tyS365 tyZ365 tyR369 tyS369 tyZ369 tyR372 tyS372 tyZ372 tyF372_0 tyF372_1 tyF372_2 tyF372_3 tyF372_4 tyF372_5 tyF372_6 tyF372_7 tyF372_8 tyF372_9 tyF372_10 tyB372
end Go.Proofs.YtogmppcfopgkdaaGreatDoor
