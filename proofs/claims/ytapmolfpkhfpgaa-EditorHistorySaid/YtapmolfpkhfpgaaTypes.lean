/- Facts on the types of this seat's program, for the abstract machine. Printed by gen_types.py. -/
import Derived.Test.YtapmolfpkhfpgaaRows
import Derived.Test.YtapmolfpkhfpgaaMgC
namespace Go.Proofs.Ytapmolfpkhfpgaa
set_option linter.unusedVariables false
set_option linter.unusedSimpArgs false
set_option maxRecDepth 100000
theorem tyR2 : rowT Try.prog 2 = some false := by kernel_rfl
theorem tyS2 : szT Try.prog 2 = some 1 := by kernel_rfl
theorem tyZ2 : zT Try.prog 2 = some [.int .i64 0] := by kernel_rfl
theorem tyU2 : Try.prog.underlying 2 = some (.int .i64) := by kernel_rfl
theorem tyR3 : rowT Try.prog 3 = some false := by kernel_rfl
theorem tyS3 : szT Try.prog 3 = some 1 := by kernel_rfl
theorem tyZ3 : zT Try.prog 3 = some [.int .i64 0] := by kernel_rfl
theorem tyU3 : Try.prog.underlying 3 = some (.int .i64) := by kernel_rfl
theorem tyR4 : rowT Try.prog 4 = some false := by kernel_rfl
theorem tyS4 : szT Try.prog 4 = some 1 := by kernel_rfl
theorem tyZ4 : zT Try.prog 4 = some [.bool false] := by kernel_rfl
theorem tyU4 : Try.prog.underlying 4 = some .bool := by kernel_rfl
theorem tyR5 : rowT Try.prog 5 = some false := by kernel_rfl
theorem tyS5 : szT Try.prog 5 = some 1 := by kernel_rfl
theorem tyZ5 : zT Try.prog 5 = some [.int .u8 0] := by kernel_rfl
theorem tyU5 : Try.prog.underlying 5 = some (.int .u8) := by kernel_rfl
theorem tyR7 : rowT Try.prog 7 = some true := by kernel_rfl
theorem tyS7 : szT Try.prog 7 = some 4 := by kernel_rfl
theorem tyZ7 : zT Try.prog 7 = some [.int .i64 0, .int .i64 0, .bool false, .int .u8 0] := by kernel_rfl
theorem tyF7_0 : fldT Try.prog 7 0 = some (0, 2) := by kernel_rfl
theorem tyF7_1 : fldT Try.prog 7 1 = some (1, 3) := by kernel_rfl
theorem tyF7_2 : fldT Try.prog 7 2 = some (2, 4) := by kernel_rfl
theorem tyF7_3 : fldT Try.prog 7 3 = some (3, 6) := by kernel_rfl
theorem tyB7 : bldT Try.prog 7 = some ([.int .i64 0, .int .i64 0, .bool false, .int .u8 0], [(0, 1), (1, 1), (2, 1), (3, 1)]) := by kernel_rfl
theorem tyR9 : rowT Try.prog 9 = some false := by kernel_rfl
theorem tyS9 : szT Try.prog 9 = some 1 := by kernel_rfl
theorem tyZ9 : zT Try.prog 9 = some [.string ⟨#[]⟩] := by kernel_rfl
theorem tyU9 : Try.prog.underlying 9 = some .string := by kernel_rfl
theorem tyR12 : rowT Try.prog 12 = some false := by kernel_rfl
theorem tyS12 : szT Try.prog 12 = some 1 := by kernel_rfl
theorem tyZ12 : zT Try.prog 12 = some [.int .u64 0] := by kernel_rfl
theorem tyU12 : Try.prog.underlying 12 = some (.int .u64) := by kernel_rfl
theorem tyR13 : rowT Try.prog 13 = some true := by kernel_rfl
theorem tyS13 : szT Try.prog 13 = some 2 := by kernel_rfl
theorem tyZ13 : zT Try.prog 13 = some [.string ⟨#[]⟩, .int .u64 0] := by kernel_rfl
theorem tyF13_0 : fldT Try.prog 13 0 = some (0, 9) := by kernel_rfl
theorem tyF13_1 : fldT Try.prog 13 1 = some (1, 12) := by kernel_rfl
theorem tyB13 : bldT Try.prog 13 = some ([.string ⟨#[]⟩, .int .u64 0], [(0, 1), (1, 1)]) := by kernel_rfl
theorem tyR15 : rowT Try.prog 15 = some false := by kernel_rfl
theorem tyS15 : szT Try.prog 15 = some 1 := by kernel_rfl
theorem tyZ15 : zT Try.prog 15 = some [.pointer none] := by kernel_rfl
theorem tyR16 : rowT Try.prog 16 = some false := by kernel_rfl
theorem tyS16 : szT Try.prog 16 = some 1 := by kernel_rfl
theorem tyZ16 : zT Try.prog 16 = some [.pointer none] := by kernel_rfl
theorem tyR17 : rowT Try.prog 17 = some false := by kernel_rfl
theorem tyS17 : szT Try.prog 17 = some 1 := by kernel_rfl
theorem tyZ17 : zT Try.prog 17 = some [.pointer none] := by kernel_rfl
theorem tyR18 : rowT Try.prog 18 = some true := by kernel_rfl
theorem tyS18 : szT Try.prog 18 = some 1 := by kernel_rfl
theorem tyZ18 : zT Try.prog 18 = some [.pointer none] := by kernel_rfl
theorem tyF18_0 : fldT Try.prog 18 0 = some (0, 17) := by kernel_rfl
theorem tyB18 : bldT Try.prog 18 = some ([.pointer none], [(0, 1)]) := by kernel_rfl
theorem tyR21 : rowT Try.prog 21 = some false := by kernel_rfl
theorem tyS21 : szT Try.prog 21 = some 1 := by kernel_rfl
theorem tyZ21 : zT Try.prog 21 = some [.int .i32 0] := by kernel_rfl
theorem tyU21 : Try.prog.underlying 21 = some (.int .i32) := by kernel_rfl
theorem tyR22 : rowT Try.prog 22 = some true := by kernel_rfl
theorem tyS22 : szT Try.prog 22 = some 2 := by kernel_rfl
theorem tyZ22 : zT Try.prog 22 = some [.string ⟨#[]⟩, .int .i64 0] := by kernel_rfl
theorem tyF22_0 : fldT Try.prog 22 0 = some (0, 9) := by kernel_rfl
theorem tyF22_1 : fldT Try.prog 22 1 = some (1, 3) := by kernel_rfl
theorem tyB22 : bldT Try.prog 22 = some ([.string ⟨#[]⟩, .int .i64 0], [(0, 1), (1, 1)]) := by kernel_rfl
theorem tyR23 : rowT Try.prog 23 = some true := by kernel_rfl
theorem tyS23 : szT Try.prog 23 = some 2 := by kernel_rfl
theorem tyZ23 : zT Try.prog 23 = some [.string ⟨#[]⟩, .int .i64 0] := by kernel_rfl
theorem tyF23_0 : fldT Try.prog 23 0 = some (0, 9) := by kernel_rfl
theorem tyF23_1 : fldT Try.prog 23 1 = some (1, 3) := by kernel_rfl
theorem tyB23 : bldT Try.prog 23 = some ([.string ⟨#[]⟩, .int .i64 0], [(0, 1), (1, 1)]) := by kernel_rfl
theorem tyR24 : rowT Try.prog 24 = some false := by kernel_rfl
theorem tyS24 : szT Try.prog 24 = some 1 := by kernel_rfl
theorem tyZ24 : zT Try.prog 24 = some [.slice none 0 0] := by kernel_rfl
theorem tyE24 : elT Try.prog 24 = some (9, 1, 16) := by kernel_rfl
theorem tyL24 : isSlT Try.prog 24 = true := by kernel_rfl
theorem tyR25 : rowT Try.prog 25 = some false := by kernel_rfl
theorem tyS25 : szT Try.prog 25 = some 1 := by kernel_rfl
theorem tyZ25 : zT Try.prog 25 = some [.slice none 0 0] := by kernel_rfl
theorem tyE25 : elT Try.prog 25 = some (23, 2, 24) := by kernel_rfl
theorem tyL25 : isSlT Try.prog 25 = true := by kernel_rfl
theorem tyR26 : rowT Try.prog 26 = some true := by kernel_rfl
theorem tyS26 : szT Try.prog 26 = some 10 := by kernel_rfl
theorem tyZ26 : zT Try.prog 26 = some [.string ⟨#[]⟩, .int .i64 0, .int .i64 0, .slice none 0 0, .slice none 0 0, .slice none 0 0, .string ⟨#[]⟩, .int .i64 0, .int .i64 0, .string ⟨#[]⟩] := by kernel_rfl
theorem tyF26_0 : fldT Try.prog 26 0 = some (0, 23) := by kernel_rfl
theorem tyF26_1 : fldT Try.prog 26 1 = some (2, 3) := by kernel_rfl
theorem tyF26_2 : fldT Try.prog 26 2 = some (3, 24) := by kernel_rfl
theorem tyF26_3 : fldT Try.prog 26 3 = some (4, 25) := by kernel_rfl
theorem tyF26_4 : fldT Try.prog 26 4 = some (5, 25) := by kernel_rfl
theorem tyF26_5 : fldT Try.prog 26 5 = some (6, 9) := by kernel_rfl
theorem tyF26_6 : fldT Try.prog 26 6 = some (7, 3) := by kernel_rfl
theorem tyF26_7 : fldT Try.prog 26 7 = some (8, 3) := by kernel_rfl
theorem tyF26_8 : fldT Try.prog 26 8 = some (9, 9) := by kernel_rfl
theorem tyB26 : bldT Try.prog 26 = some ([.string ⟨#[]⟩, .int .i64 0, .int .i64 0, .slice none 0 0, .slice none 0 0, .slice none 0 0, .string ⟨#[]⟩, .int .i64 0, .int .i64 0, .string ⟨#[]⟩], [(0, 2), (2, 1), (3, 1), (4, 1), (5, 1), (6, 1), (7, 1), (8, 1), (9, 1)]) := by kernel_rfl
theorem tyR27 : rowT Try.prog 27 = some true := by kernel_rfl
theorem tyS27 : szT Try.prog 27 = some 10 := by kernel_rfl
theorem tyZ27 : zT Try.prog 27 = some [.string ⟨#[]⟩, .int .i64 0, .int .i64 0, .slice none 0 0, .slice none 0 0, .slice none 0 0, .string ⟨#[]⟩, .int .i64 0, .int .i64 0, .string ⟨#[]⟩] := by kernel_rfl
theorem tyF27_0 : fldT Try.prog 27 0 = some (0, 23) := by kernel_rfl
theorem tyF27_1 : fldT Try.prog 27 1 = some (2, 3) := by kernel_rfl
theorem tyF27_2 : fldT Try.prog 27 2 = some (3, 24) := by kernel_rfl
theorem tyF27_3 : fldT Try.prog 27 3 = some (4, 25) := by kernel_rfl
theorem tyF27_4 : fldT Try.prog 27 4 = some (5, 25) := by kernel_rfl
theorem tyF27_5 : fldT Try.prog 27 5 = some (6, 9) := by kernel_rfl
theorem tyF27_6 : fldT Try.prog 27 6 = some (7, 3) := by kernel_rfl
theorem tyF27_7 : fldT Try.prog 27 7 = some (8, 3) := by kernel_rfl
theorem tyF27_8 : fldT Try.prog 27 8 = some (9, 9) := by kernel_rfl
theorem tyB27 : bldT Try.prog 27 = some ([.string ⟨#[]⟩, .int .i64 0, .int .i64 0, .slice none 0 0, .slice none 0 0, .slice none 0 0, .string ⟨#[]⟩, .int .i64 0, .int .i64 0, .string ⟨#[]⟩], [(0, 2), (2, 1), (3, 1), (4, 1), (5, 1), (6, 1), (7, 1), (8, 1), (9, 1)]) := by kernel_rfl
theorem tyR30 : rowT Try.prog 30 = some false := by kernel_rfl
theorem tyS30 : szT Try.prog 30 = some 1 := by kernel_rfl
theorem tyZ30 : zT Try.prog 30 = some [.int .i64 0] := by kernel_rfl
theorem tyU30 : Try.prog.underlying 30 = some (.int .i64) := by kernel_rfl
theorem tyR35 : rowT Try.prog 35 = some true := by kernel_rfl
theorem tyS35 : szT Try.prog 35 = some 2 := by kernel_rfl
theorem tyZ35 : zT Try.prog 35 = some [.int .i64 0, .string ⟨#[]⟩] := by kernel_rfl
theorem tyF35_0 : fldT Try.prog 35 0 = some (0, 3) := by kernel_rfl
theorem tyF35_1 : fldT Try.prog 35 1 = some (1, 9) := by kernel_rfl
theorem tyB35 : bldT Try.prog 35 = some ([.int .i64 0, .string ⟨#[]⟩], [(0, 1), (1, 1)]) := by kernel_rfl
theorem tyR36 : rowT Try.prog 36 = some true := by kernel_rfl
theorem tyS36 : szT Try.prog 36 = some 2 := by kernel_rfl
theorem tyZ36 : zT Try.prog 36 = some [.int .i64 0, .string ⟨#[]⟩] := by kernel_rfl
theorem tyF36_0 : fldT Try.prog 36 0 = some (0, 3) := by kernel_rfl
theorem tyF36_1 : fldT Try.prog 36 1 = some (1, 9) := by kernel_rfl
theorem tyB36 : bldT Try.prog 36 = some ([.int .i64 0, .string ⟨#[]⟩], [(0, 1), (1, 1)]) := by kernel_rfl
theorem tyR37 : rowT Try.prog 37 = some true := by kernel_rfl
theorem tyS37 : szT Try.prog 37 = some 2 := by kernel_rfl
theorem tyZ37 : zT Try.prog 37 = some [.int .i64 0, .slice none 0 0] := by kernel_rfl
theorem tyF37_0 : fldT Try.prog 37 0 = some (0, 3) := by kernel_rfl
theorem tyF37_1 : fldT Try.prog 37 1 = some (1, 24) := by kernel_rfl
theorem tyB37 : bldT Try.prog 37 = some ([.int .i64 0, .slice none 0 0], [(0, 1), (1, 1)]) := by kernel_rfl
theorem tyR38 : rowT Try.prog 38 = some true := by kernel_rfl
theorem tyS38 : szT Try.prog 38 = some 2 := by kernel_rfl
theorem tyZ38 : zT Try.prog 38 = some [.int .i64 0, .slice none 0 0] := by kernel_rfl
theorem tyF38_0 : fldT Try.prog 38 0 = some (0, 3) := by kernel_rfl
theorem tyF38_1 : fldT Try.prog 38 1 = some (1, 24) := by kernel_rfl
theorem tyB38 : bldT Try.prog 38 = some ([.int .i64 0, .slice none 0 0], [(0, 1), (1, 1)]) := by kernel_rfl
theorem tyR42 : rowT Try.prog 42 = some false := by kernel_rfl
theorem tyS42 : szT Try.prog 42 = some 1 := by kernel_rfl
theorem tyZ42 : zT Try.prog 42 = some [.slice none 0 0] := by kernel_rfl
theorem tyE42 : elT Try.prog 42 = some (46, 2, 24) := by kernel_rfl
theorem tyL42 : isSlT Try.prog 42 = true := by kernel_rfl
theorem tyR43 : rowT Try.prog 43 = some true := by kernel_rfl
theorem tyS43 : szT Try.prog 43 = some 2 := by kernel_rfl
theorem tyZ43 : zT Try.prog 43 = some [.slice none 0 0, .int .u8 0] := by kernel_rfl
theorem tyF43_0 : fldT Try.prog 43 0 = some (0, 42) := by kernel_rfl
theorem tyF43_1 : fldT Try.prog 43 1 = some (1, 5) := by kernel_rfl
theorem tyB43 : bldT Try.prog 43 = some ([.slice none 0 0, .int .u8 0], [(0, 1), (1, 1)]) := by kernel_rfl
theorem tyR44 : rowT Try.prog 44 = some true := by kernel_rfl
theorem tyS44 : szT Try.prog 44 = some 2 := by kernel_rfl
theorem tyZ44 : zT Try.prog 44 = some [.slice none 0 0, .int .u8 0] := by kernel_rfl
theorem tyF44_0 : fldT Try.prog 44 0 = some (0, 42) := by kernel_rfl
theorem tyF44_1 : fldT Try.prog 44 1 = some (1, 5) := by kernel_rfl
theorem tyB44 : bldT Try.prog 44 = some ([.slice none 0 0, .int .u8 0], [(0, 1), (1, 1)]) := by kernel_rfl
theorem tyR45 : rowT Try.prog 45 = some true := by kernel_rfl
theorem tyS45 : szT Try.prog 45 = some 2 := by kernel_rfl
theorem tyZ45 : zT Try.prog 45 = some [.string ⟨#[]⟩, .int .i64 0] := by kernel_rfl
theorem tyF45_0 : fldT Try.prog 45 0 = some (0, 9) := by kernel_rfl
theorem tyF45_1 : fldT Try.prog 45 1 = some (1, 3) := by kernel_rfl
theorem tyB45 : bldT Try.prog 45 = some ([.string ⟨#[]⟩, .int .i64 0], [(0, 1), (1, 1)]) := by kernel_rfl
theorem tyR46 : rowT Try.prog 46 = some true := by kernel_rfl
theorem tyS46 : szT Try.prog 46 = some 2 := by kernel_rfl
theorem tyZ46 : zT Try.prog 46 = some [.string ⟨#[]⟩, .int .i64 0] := by kernel_rfl
theorem tyF46_0 : fldT Try.prog 46 0 = some (0, 9) := by kernel_rfl
theorem tyF46_1 : fldT Try.prog 46 1 = some (1, 3) := by kernel_rfl
theorem tyB46 : bldT Try.prog 46 = some ([.string ⟨#[]⟩, .int .i64 0], [(0, 1), (1, 1)]) := by kernel_rfl
theorem tyR58 : rowT Try.prog 58 = some true := by kernel_rfl
theorem tyS58 : szT Try.prog 58 = some 12 := by kernel_rfl
theorem tyZ58 : zT Try.prog 58 = some [.string ⟨#[]⟩, .int .i64 0, .int .i64 0, .slice none 0 0, .slice none 0 0, .slice none 0 0, .string ⟨#[]⟩, .int .i64 0, .int .i64 0, .string ⟨#[]⟩, .slice none 0 0, .int .i64 0] := by kernel_rfl
theorem tyF58_0 : fldT Try.prog 58 0 = some (0, 27) := by kernel_rfl
theorem tyF58_1 : fldT Try.prog 58 1 = some (10, 24) := by kernel_rfl
theorem tyF58_2 : fldT Try.prog 58 2 = some (11, 3) := by kernel_rfl
theorem tyB58 : bldT Try.prog 58 = some ([.string ⟨#[]⟩, .int .i64 0, .int .i64 0, .slice none 0 0, .slice none 0 0, .slice none 0 0, .string ⟨#[]⟩, .int .i64 0, .int .i64 0, .string ⟨#[]⟩, .slice none 0 0, .int .i64 0], [(0, 10), (10, 1), (11, 1)]) := by kernel_rfl
theorem tyR59 : rowT Try.prog 59 = some true := by kernel_rfl
theorem tyS59 : szT Try.prog 59 = some 12 := by kernel_rfl
theorem tyZ59 : zT Try.prog 59 = some [.string ⟨#[]⟩, .int .i64 0, .int .i64 0, .slice none 0 0, .slice none 0 0, .slice none 0 0, .string ⟨#[]⟩, .int .i64 0, .int .i64 0, .string ⟨#[]⟩, .slice none 0 0, .int .i64 0] := by kernel_rfl
theorem tyF59_0 : fldT Try.prog 59 0 = some (0, 27) := by kernel_rfl
theorem tyF59_1 : fldT Try.prog 59 1 = some (10, 24) := by kernel_rfl
theorem tyF59_2 : fldT Try.prog 59 2 = some (11, 3) := by kernel_rfl
theorem tyB59 : bldT Try.prog 59 = some ([.string ⟨#[]⟩, .int .i64 0, .int .i64 0, .slice none 0 0, .slice none 0 0, .slice none 0 0, .string ⟨#[]⟩, .int .i64 0, .int .i64 0, .string ⟨#[]⟩, .slice none 0 0, .int .i64 0], [(0, 10), (10, 1), (11, 1)]) := by kernel_rfl
theorem tyR65 : rowT Try.prog 65 = some false := by kernel_rfl
theorem tyS65 : szT Try.prog 65 = some 1 := by kernel_rfl
theorem tyZ65 : zT Try.prog 65 = some [.slice none 0 0] := by kernel_rfl
theorem tyE65 : elT Try.prog 65 = some (5, 1, 1) := by kernel_rfl
theorem tyL65 : isSlT Try.prog 65 = true := by kernel_rfl
theorem tyC65_9 : bsT Try.prog 65 9 = true := by kernel_rfl
theorem tyR68 : rowT Try.prog 68 = some false := by kernel_rfl
theorem tyS68 : szT Try.prog 68 = some 1 := by kernel_rfl
theorem tyZ68 : zT Try.prog 68 = some [.slice none 0 0] := by kernel_rfl
theorem tyE68 : elT Try.prog 68 = some (25, 1, 24) := by kernel_rfl
theorem tyL68 : isSlT Try.prog 68 = true := by kernel_rfl
theorem tyR71 : rowT Try.prog 71 = some false := by kernel_rfl
theorem tyS71 : szT Try.prog 71 = some 1 := by kernel_rfl
theorem tyZ71 : zT Try.prog 71 = some [.pointer none] := by kernel_rfl
theorem tyR95 : rowT Try.prog 95 = some true := by kernel_rfl
theorem tyS95 : szT Try.prog 95 = some 4 := by kernel_rfl
theorem tyZ95 : zT Try.prog 95 = some [.pointer none, .pointer none, .pointer none, .string ⟨#[]⟩] := by kernel_rfl
theorem tyF95_0 : fldT Try.prog 95 0 = some (0, 17) := by kernel_rfl
theorem tyF95_1 : fldT Try.prog 95 1 = some (1, 17) := by kernel_rfl
theorem tyF95_2 : fldT Try.prog 95 2 = some (2, 17) := by kernel_rfl
theorem tyF95_3 : fldT Try.prog 95 3 = some (3, 9) := by kernel_rfl
theorem tyB95 : bldT Try.prog 95 = some ([.pointer none, .pointer none, .pointer none, .string ⟨#[]⟩], [(0, 1), (1, 1), (2, 1), (3, 1)]) := by kernel_rfl
theorem tyR97 : rowT Try.prog 97 = some true := by kernel_rfl
theorem tyS97 : szT Try.prog 97 = some 0 := by kernel_rfl
theorem tyZ97 : zT Try.prog 97 = some [] := by kernel_rfl
theorem tyA97 : arT Try.prog 97 = some (0, 16, 1) := by kernel_rfl
theorem tyR98 : rowT Try.prog 98 = some true := by kernel_rfl
theorem tyS98 : szT Try.prog 98 = some 0 := by kernel_rfl
theorem tyZ98 : zT Try.prog 98 = some [] := by kernel_rfl
theorem tyR100 : rowT Try.prog 100 = some false := by kernel_rfl
theorem tyS100 : szT Try.prog 100 = some 1 := by kernel_rfl
theorem tyZ100 : zT Try.prog 100 = some [.int .u32 0] := by kernel_rfl
theorem tyU100 : Try.prog.underlying 100 = some (.int .u32) := by kernel_rfl
theorem tyR104 : rowT Try.prog 104 = some false := by kernel_rfl
theorem tyS104 : szT Try.prog 104 = some 1 := by kernel_rfl
theorem tyZ104 : zT Try.prog 104 = some [.pointer none] := by kernel_rfl
theorem tyR107 : rowT Try.prog 107 = some true := by kernel_rfl
theorem tyS107 : szT Try.prog 107 = some 11 := by kernel_rfl
theorem tyZ107 : zT Try.prog 107 = some [.int .u64 0, .int .u64 0, .int .u32 0, .int .u8 0, .int .u8 0, .int .u8 0, .int .u8 0, .nilFunc, .pointer none, .int .i32 0, .int .i32 0] := by kernel_rfl
theorem tyF107_0 : fldT Try.prog 107 0 = some (0, 12) := by kernel_rfl
theorem tyF107_1 : fldT Try.prog 107 1 = some (1, 12) := by kernel_rfl
theorem tyF107_2 : fldT Try.prog 107 2 = some (2, 100) := by kernel_rfl
theorem tyF107_3 : fldT Try.prog 107 3 = some (3, 101) := by kernel_rfl
theorem tyF107_4 : fldT Try.prog 107 4 = some (4, 5) := by kernel_rfl
theorem tyF107_5 : fldT Try.prog 107 5 = some (5, 5) := by kernel_rfl
theorem tyF107_6 : fldT Try.prog 107 6 = some (6, 102) := by kernel_rfl
theorem tyF107_7 : fldT Try.prog 107 7 = some (7, 103) := by kernel_rfl
theorem tyF107_8 : fldT Try.prog 107 8 = some (8, 104) := by kernel_rfl
theorem tyF107_9 : fldT Try.prog 107 9 = some (9, 105) := by kernel_rfl
theorem tyF107_10 : fldT Try.prog 107 10 = some (10, 106) := by kernel_rfl
theorem tyB107 : bldT Try.prog 107 = some ([.int .u64 0, .int .u64 0, .int .u32 0, .int .u8 0, .int .u8 0, .int .u8 0, .int .u8 0, .nilFunc, .pointer none, .int .i32 0, .int .i32 0], [(0, 1), (1, 1), (2, 1), (3, 1), (4, 1), (5, 1), (6, 1), (7, 1), (8, 1), (9, 1), (10, 1)]) := by kernel_rfl
attribute [go_sem] tyR2 tyS2 tyZ2 tyU2 tyR3 tyS3 tyZ3 tyU3 tyR4 tyS4 tyZ4 tyU4 tyR5 tyS5 tyZ5 tyU5 tyR7 tyS7 tyZ7 tyF7_0 tyF7_1 tyF7_2 tyF7_3 tyB7 tyR9 tyS9 tyZ9 tyU9 tyR12 tyS12 tyZ12 tyU12 tyR13 tyS13 tyZ13 tyF13_0 tyF13_1 tyB13 tyR15 tyS15 tyZ15 tyR16 tyS16 tyZ16 tyR17 tyS17 tyZ17 tyR18 tyS18 tyZ18 tyF18_0 tyB18 tyR21 tyS21 tyZ21 tyU21 tyR22 tyS22 tyZ22 tyF22_0 tyF22_1 tyB22 tyR23 tyS23 tyZ23 tyF23_0 tyF23_1 tyB23 tyR24 tyS24 tyZ24 tyE24 tyL24 tyR25 tyS25 tyZ25 tyE25 tyL25 tyR26 tyS26 tyZ26 tyF26_0 tyF26_1 tyF26_2 tyF26_3 tyF26_4 tyF26_5 tyF26_6 tyF26_7 tyF26_8 tyB26 tyR27 tyS27 tyZ27 tyF27_0 tyF27_1 tyF27_2 tyF27_3 tyF27_4 tyF27_5 tyF27_6 tyF27_7 tyF27_8 tyB27 tyR30 tyS30 tyZ30 tyU30 tyR35 tyS35 tyZ35 tyF35_0 tyF35_1 tyB35 tyR36 tyS36 tyZ36 tyF36_0 tyF36_1 tyB36 tyR37 tyS37 tyZ37 tyF37_0 tyF37_1 tyB37 tyR38 tyS38 tyZ38 tyF38_0 tyF38_1 tyB38 tyR42 tyS42 tyZ42 tyE42 tyL42 tyR43 tyS43 tyZ43 tyF43_0 tyF43_1 tyB43 tyR44 tyS44 tyZ44 tyF44_0 tyF44_1 tyB44 tyR45 tyS45 tyZ45 tyF45_0 tyF45_1 tyB45 tyR46 tyS46 tyZ46 tyF46_0 tyF46_1 tyB46 tyR58 tyS58 tyZ58 tyF58_0 tyF58_1 tyF58_2 tyB58 tyR59 tyS59 tyZ59 tyF59_0 tyF59_1 tyF59_2 tyB59 tyR65 tyS65 tyZ65 tyE65 tyL65 tyC65_9 tyR68 tyS68 tyZ68 tyE68 tyL68 tyR71 tyS71 tyZ71 tyR95 tyS95 tyZ95 tyF95_0 tyF95_1 tyF95_2 tyF95_3 tyB95 tyR97 tyS97 tyZ97 tyA97 tyR98 tyS98 tyZ98 tyR100 tyS100 tyZ100 tyU100 tyR104 tyS104 tyZ104 tyR107 tyS107 tyZ107 tyF107_0 tyF107_1 tyF107_2 tyF107_3 tyF107_4 tyF107_5 tyF107_6 tyF107_7 tyF107_8 tyF107_9 tyF107_10 tyB107
end Go.Proofs.Ytapmolfpkhfpgaa
