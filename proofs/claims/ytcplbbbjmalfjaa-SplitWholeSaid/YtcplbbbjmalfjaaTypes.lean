/- Facts on the types of this seat's program, for the abstract machine. Printed by gen_types.py. -/
import Derived.Test.YtcplbbbjmalfjaaRows
import Derived.Test.YtcplbbbjmalfjaaMachU
namespace Go.Proofs.Ytcplbbbjmalfjaa
set_option linter.unusedVariables false
set_option linter.unusedSimpArgs false
set_option maxRecDepth 100000
theorem tyR2 : rowT Try.prog 2 = some false := by kernel_rfl
theorem tyS2 : szT Try.prog 2 = some 1 := by kernel_rfl
theorem tyZ2 : zT Try.prog 2 = some [.int .i64 0] := by kernel_rfl
theorem tyU2 : Try.prog.underlying 2 = some (.int .i64) := by kernel_rfl
theorem tyR3 : rowT Try.prog 3 = some false := by kernel_rfl
theorem tyS3 : szT Try.prog 3 = some 1 := by kernel_rfl
theorem tyZ3 : zT Try.prog 3 = some [.int .i64 0] := by kernel_rfl
theorem tyU3 : Try.prog.underlying 3 = some (.int .i64) := by kernel_rfl
theorem tyR4 : rowT Try.prog 4 = some false := by kernel_rfl
theorem tyS4 : szT Try.prog 4 = some 1 := by kernel_rfl
theorem tyZ4 : zT Try.prog 4 = some [.bool false] := by kernel_rfl
theorem tyU4 : Try.prog.underlying 4 = some .bool := by kernel_rfl
theorem tyR5 : rowT Try.prog 5 = some false := by kernel_rfl
theorem tyS5 : szT Try.prog 5 = some 1 := by kernel_rfl
theorem tyZ5 : zT Try.prog 5 = some [.int .u8 0] := by kernel_rfl
theorem tyU5 : Try.prog.underlying 5 = some (.int .u8) := by kernel_rfl
theorem tyR7 : rowT Try.prog 7 = some true := by kernel_rfl
theorem tyS7 : szT Try.prog 7 = some 4 := by kernel_rfl
theorem tyZ7 : zT Try.prog 7 = some [.int .i64 0, .int .i64 0, .bool false, .int .u8 0] := by kernel_rfl
theorem tyF7_0 : fldT Try.prog 7 0 = some (0, 2) := by kernel_rfl
theorem tyF7_1 : fldT Try.prog 7 1 = some (1, 3) := by kernel_rfl
theorem tyF7_2 : fldT Try.prog 7 2 = some (2, 4) := by kernel_rfl
theorem tyF7_3 : fldT Try.prog 7 3 = some (3, 6) := by kernel_rfl
theorem tyB7 : bldT Try.prog 7 = some ([.int .i64 0, .int .i64 0, .bool false, .int .u8 0], [(0, 1), (1, 1), (2, 1), (3, 1)]) := by kernel_rfl
theorem tyR9 : rowT Try.prog 9 = some false := by kernel_rfl
theorem tyS9 : szT Try.prog 9 = some 1 := by kernel_rfl
theorem tyZ9 : zT Try.prog 9 = some [.string ⟨#[]⟩] := by kernel_rfl
theorem tyU9 : Try.prog.underlying 9 = some .string := by kernel_rfl
theorem tyR12 : rowT Try.prog 12 = some false := by kernel_rfl
theorem tyS12 : szT Try.prog 12 = some 1 := by kernel_rfl
theorem tyZ12 : zT Try.prog 12 = some [.int .u64 0] := by kernel_rfl
theorem tyU12 : Try.prog.underlying 12 = some (.int .u64) := by kernel_rfl
theorem tyR13 : rowT Try.prog 13 = some true := by kernel_rfl
theorem tyS13 : szT Try.prog 13 = some 2 := by kernel_rfl
theorem tyZ13 : zT Try.prog 13 = some [.string ⟨#[]⟩, .int .u64 0] := by kernel_rfl
theorem tyF13_0 : fldT Try.prog 13 0 = some (0, 9) := by kernel_rfl
theorem tyF13_1 : fldT Try.prog 13 1 = some (1, 12) := by kernel_rfl
theorem tyB13 : bldT Try.prog 13 = some ([.string ⟨#[]⟩, .int .u64 0], [(0, 1), (1, 1)]) := by kernel_rfl
theorem tyR15 : rowT Try.prog 15 = some false := by kernel_rfl
theorem tyS15 : szT Try.prog 15 = some 1 := by kernel_rfl
theorem tyZ15 : zT Try.prog 15 = some [.pointer none] := by kernel_rfl
theorem tyR16 : rowT Try.prog 16 = some false := by kernel_rfl
theorem tyS16 : szT Try.prog 16 = some 1 := by kernel_rfl
theorem tyZ16 : zT Try.prog 16 = some [.pointer none] := by kernel_rfl
theorem tyR17 : rowT Try.prog 17 = some false := by kernel_rfl
theorem tyS17 : szT Try.prog 17 = some 1 := by kernel_rfl
theorem tyZ17 : zT Try.prog 17 = some [.pointer none] := by kernel_rfl
theorem tyR18 : rowT Try.prog 18 = some true := by kernel_rfl
theorem tyS18 : szT Try.prog 18 = some 1 := by kernel_rfl
theorem tyZ18 : zT Try.prog 18 = some [.pointer none] := by kernel_rfl
theorem tyF18_0 : fldT Try.prog 18 0 = some (0, 17) := by kernel_rfl
theorem tyB18 : bldT Try.prog 18 = some ([.pointer none], [(0, 1)]) := by kernel_rfl
theorem tyR21 : rowT Try.prog 21 = some false := by kernel_rfl
theorem tyS21 : szT Try.prog 21 = some 1 := by kernel_rfl
theorem tyZ21 : zT Try.prog 21 = some [.int .i32 0] := by kernel_rfl
theorem tyU21 : Try.prog.underlying 21 = some (.int .i32) := by kernel_rfl
theorem tyR22 : rowT Try.prog 22 = some false := by kernel_rfl
theorem tyS22 : szT Try.prog 22 = some 1 := by kernel_rfl
theorem tyZ22 : zT Try.prog 22 = some [.slice none 0 0] := by kernel_rfl
theorem tyE22 : elT Try.prog 22 = some (38, 2, 24) := by kernel_rfl
theorem tyL22 : isSlT Try.prog 22 = true := by kernel_rfl
theorem tyR26 : rowT Try.prog 26 = some false := by kernel_rfl
theorem tyS26 : szT Try.prog 26 = some 1 := by kernel_rfl
theorem tyZ26 : zT Try.prog 26 = some [.slice none 0 0] := by kernel_rfl
theorem tyE26 : elT Try.prog 26 = some (22, 1, 24) := by kernel_rfl
theorem tyL26 : isSlT Try.prog 26 = true := by kernel_rfl
theorem tyR29 : rowT Try.prog 29 = some false := by kernel_rfl
theorem tyS29 : szT Try.prog 29 = some 1 := by kernel_rfl
theorem tyZ29 : zT Try.prog 29 = some [.slice none 0 0] := by kernel_rfl
theorem tyE29 : elT Try.prog 29 = some (9, 1, 16) := by kernel_rfl
theorem tyL29 : isSlT Try.prog 29 = true := by kernel_rfl
theorem tyR37 : rowT Try.prog 37 = some true := by kernel_rfl
theorem tyS37 : szT Try.prog 37 = some 2 := by kernel_rfl
theorem tyZ37 : zT Try.prog 37 = some [.string ⟨#[]⟩, .int .i64 0] := by kernel_rfl
theorem tyF37_0 : fldT Try.prog 37 0 = some (0, 9) := by kernel_rfl
theorem tyF37_1 : fldT Try.prog 37 1 = some (1, 3) := by kernel_rfl
theorem tyB37 : bldT Try.prog 37 = some ([.string ⟨#[]⟩, .int .i64 0], [(0, 1), (1, 1)]) := by kernel_rfl
theorem tyR38 : rowT Try.prog 38 = some true := by kernel_rfl
theorem tyS38 : szT Try.prog 38 = some 2 := by kernel_rfl
theorem tyZ38 : zT Try.prog 38 = some [.string ⟨#[]⟩, .int .i64 0] := by kernel_rfl
theorem tyF38_0 : fldT Try.prog 38 0 = some (0, 9) := by kernel_rfl
theorem tyF38_1 : fldT Try.prog 38 1 = some (1, 3) := by kernel_rfl
theorem tyB38 : bldT Try.prog 38 = some ([.string ⟨#[]⟩, .int .i64 0], [(0, 1), (1, 1)]) := by kernel_rfl
theorem tyR44 : rowT Try.prog 44 = some false := by kernel_rfl
theorem tyS44 : szT Try.prog 44 = some 1 := by kernel_rfl
theorem tyZ44 : zT Try.prog 44 = some [.slice none 0 0] := by kernel_rfl
theorem tyE44 : elT Try.prog 44 = some (46, 1, 24) := by kernel_rfl
theorem tyL44 : isSlT Try.prog 44 = true := by kernel_rfl
theorem tyR46 : rowT Try.prog 46 = some false := by kernel_rfl
theorem tyS46 : szT Try.prog 46 = some 1 := by kernel_rfl
theorem tyZ46 : zT Try.prog 46 = some [.slice none 0 0] := by kernel_rfl
theorem tyE46 : elT Try.prog 46 = some (64, 2, 24) := by kernel_rfl
theorem tyL46 : isSlT Try.prog 46 = true := by kernel_rfl
theorem tyR49 : rowT Try.prog 49 = some false := by kernel_rfl
theorem tyS49 : szT Try.prog 49 = some 1 := by kernel_rfl
theorem tyZ49 : zT Try.prog 49 = some [.slice none 0 0] := by kernel_rfl
theorem tyE49 : elT Try.prog 49 = some (51, 1, 24) := by kernel_rfl
theorem tyL49 : isSlT Try.prog 49 = true := by kernel_rfl
theorem tyR51 : rowT Try.prog 51 = some false := by kernel_rfl
theorem tyS51 : szT Try.prog 51 = some 1 := by kernel_rfl
theorem tyZ51 : zT Try.prog 51 = some [.slice none 0 0] := by kernel_rfl
theorem tyE51 : elT Try.prog 51 = some (71, 3, 32) := by kernel_rfl
theorem tyL51 : isSlT Try.prog 51 = true := by kernel_rfl
theorem tyR54 : rowT Try.prog 54 = some false := by kernel_rfl
theorem tyS54 : szT Try.prog 54 = some 1 := by kernel_rfl
theorem tyZ54 : zT Try.prog 54 = some [.pointer none] := by kernel_rfl
theorem tyR55 : rowT Try.prog 55 = some false := by kernel_rfl
theorem tyS55 : szT Try.prog 55 = some 1 := by kernel_rfl
theorem tyZ55 : zT Try.prog 55 = some [.slice none 0 0] := by kernel_rfl
theorem tyE55 : elT Try.prog 55 = some (5, 1, 1) := by kernel_rfl
theorem tyL55 : isSlT Try.prog 55 = true := by kernel_rfl
theorem tyC55_9 : bsT Try.prog 55 9 = true := by kernel_rfl
theorem tyR56 : rowT Try.prog 56 = some true := by kernel_rfl
theorem tyS56 : szT Try.prog 56 = some 2 := by kernel_rfl
theorem tyZ56 : zT Try.prog 56 = some [.pointer none, .slice none 0 0] := by kernel_rfl
theorem tyF56_0 : fldT Try.prog 56 0 = some (0, 54) := by kernel_rfl
theorem tyF56_1 : fldT Try.prog 56 1 = some (1, 55) := by kernel_rfl
theorem tyB56 : bldT Try.prog 56 = some ([.pointer none, .slice none 0 0], [(0, 1), (1, 1)]) := by kernel_rfl
theorem tyR57 : rowT Try.prog 57 = some true := by kernel_rfl
theorem tyS57 : szT Try.prog 57 = some 2 := by kernel_rfl
theorem tyZ57 : zT Try.prog 57 = some [.pointer none, .slice none 0 0] := by kernel_rfl
theorem tyF57_0 : fldT Try.prog 57 0 = some (0, 54) := by kernel_rfl
theorem tyF57_1 : fldT Try.prog 57 1 = some (1, 55) := by kernel_rfl
theorem tyB57 : bldT Try.prog 57 = some ([.pointer none, .slice none 0 0], [(0, 1), (1, 1)]) := by kernel_rfl
theorem tyR63 : rowT Try.prog 63 = some true := by kernel_rfl
theorem tyS63 : szT Try.prog 63 = some 2 := by kernel_rfl
theorem tyZ63 : zT Try.prog 63 = some [.string ⟨#[]⟩, .int .i64 0] := by kernel_rfl
theorem tyF63_0 : fldT Try.prog 63 0 = some (0, 9) := by kernel_rfl
theorem tyF63_1 : fldT Try.prog 63 1 = some (1, 3) := by kernel_rfl
theorem tyB63 : bldT Try.prog 63 = some ([.string ⟨#[]⟩, .int .i64 0], [(0, 1), (1, 1)]) := by kernel_rfl
theorem tyR64 : rowT Try.prog 64 = some true := by kernel_rfl
theorem tyS64 : szT Try.prog 64 = some 2 := by kernel_rfl
theorem tyZ64 : zT Try.prog 64 = some [.string ⟨#[]⟩, .int .i64 0] := by kernel_rfl
theorem tyF64_0 : fldT Try.prog 64 0 = some (0, 9) := by kernel_rfl
theorem tyF64_1 : fldT Try.prog 64 1 = some (1, 3) := by kernel_rfl
theorem tyB64 : bldT Try.prog 64 = some ([.string ⟨#[]⟩, .int .i64 0], [(0, 1), (1, 1)]) := by kernel_rfl
theorem tyR70 : rowT Try.prog 70 = some true := by kernel_rfl
theorem tyS70 : szT Try.prog 70 = some 3 := by kernel_rfl
theorem tyZ70 : zT Try.prog 70 = some [.string ⟨#[]⟩, .int .i64 0, .int .i64 0] := by kernel_rfl
theorem tyF70_0 : fldT Try.prog 70 0 = some (0, 9) := by kernel_rfl
theorem tyF70_1 : fldT Try.prog 70 1 = some (1, 3) := by kernel_rfl
theorem tyF70_2 : fldT Try.prog 70 2 = some (2, 3) := by kernel_rfl
theorem tyB70 : bldT Try.prog 70 = some ([.string ⟨#[]⟩, .int .i64 0, .int .i64 0], [(0, 1), (1, 1), (2, 1)]) := by kernel_rfl
theorem tyR71 : rowT Try.prog 71 = some true := by kernel_rfl
theorem tyS71 : szT Try.prog 71 = some 3 := by kernel_rfl
theorem tyZ71 : zT Try.prog 71 = some [.string ⟨#[]⟩, .int .i64 0, .int .i64 0] := by kernel_rfl
theorem tyF71_0 : fldT Try.prog 71 0 = some (0, 9) := by kernel_rfl
theorem tyF71_1 : fldT Try.prog 71 1 = some (1, 3) := by kernel_rfl
theorem tyF71_2 : fldT Try.prog 71 2 = some (2, 3) := by kernel_rfl
theorem tyB71 : bldT Try.prog 71 = some ([.string ⟨#[]⟩, .int .i64 0, .int .i64 0], [(0, 1), (1, 1), (2, 1)]) := by kernel_rfl
theorem tyR76 : rowT Try.prog 76 = some false := by kernel_rfl
theorem tyS76 : szT Try.prog 76 = some 1 := by kernel_rfl
theorem tyZ76 : zT Try.prog 76 = some [.pointer none] := by kernel_rfl
theorem tyR85 : rowT Try.prog 85 = some false := by kernel_rfl
theorem tyS85 : szT Try.prog 85 = some 1 := by kernel_rfl
theorem tyZ85 : zT Try.prog 85 = some [.int .u64 0] := by kernel_rfl
theorem tyU85 : Try.prog.underlying 85 = some (.int .u64) := by kernel_rfl
theorem tyR86 : rowT Try.prog 86 = some false := by kernel_rfl
theorem tyS86 : szT Try.prog 86 = some 1 := by kernel_rfl
theorem tyZ86 : zT Try.prog 86 = some [.int .u32 0] := by kernel_rfl
theorem tyU86 : Try.prog.underlying 86 = some (.int .u32) := by kernel_rfl
theorem tyR89 : rowT Try.prog 89 = some true := by kernel_rfl
theorem tyS89 : szT Try.prog 89 = some 4 := by kernel_rfl
theorem tyZ89 : zT Try.prog 89 = some [.pointer none, .pointer none, .pointer none, .string ⟨#[]⟩] := by kernel_rfl
theorem tyF89_0 : fldT Try.prog 89 0 = some (0, 17) := by kernel_rfl
theorem tyF89_1 : fldT Try.prog 89 1 = some (1, 17) := by kernel_rfl
theorem tyF89_2 : fldT Try.prog 89 2 = some (2, 17) := by kernel_rfl
theorem tyF89_3 : fldT Try.prog 89 3 = some (3, 9) := by kernel_rfl
theorem tyB89 : bldT Try.prog 89 = some ([.pointer none, .pointer none, .pointer none, .string ⟨#[]⟩], [(0, 1), (1, 1), (2, 1), (3, 1)]) := by kernel_rfl
theorem tyR91 : rowT Try.prog 91 = some true := by kernel_rfl
theorem tyS91 : szT Try.prog 91 = some 0 := by kernel_rfl
theorem tyZ91 : zT Try.prog 91 = some [] := by kernel_rfl
theorem tyA91 : arT Try.prog 91 = some (0, 16, 1) := by kernel_rfl
theorem tyR92 : rowT Try.prog 92 = some true := by kernel_rfl
theorem tyS92 : szT Try.prog 92 = some 0 := by kernel_rfl
theorem tyZ92 : zT Try.prog 92 = some [] := by kernel_rfl
theorem tyR100 : rowT Try.prog 100 = some true := by kernel_rfl
theorem tyS100 : szT Try.prog 100 = some 11 := by kernel_rfl
theorem tyZ100 : zT Try.prog 100 = some [.int .u64 0, .int .u64 0, .int .u32 0, .int .u8 0, .int .u8 0, .int .u8 0, .int .u8 0, .nilFunc, .pointer none, .int .i32 0, .int .i32 0] := by kernel_rfl
theorem tyF100_0 : fldT Try.prog 100 0 = some (0, 12) := by kernel_rfl
theorem tyF100_1 : fldT Try.prog 100 1 = some (1, 12) := by kernel_rfl
theorem tyF100_2 : fldT Try.prog 100 2 = some (2, 86) := by kernel_rfl
theorem tyF100_3 : fldT Try.prog 100 3 = some (3, 95) := by kernel_rfl
theorem tyF100_4 : fldT Try.prog 100 4 = some (4, 5) := by kernel_rfl
theorem tyF100_5 : fldT Try.prog 100 5 = some (5, 5) := by kernel_rfl
theorem tyF100_6 : fldT Try.prog 100 6 = some (6, 96) := by kernel_rfl
theorem tyF100_7 : fldT Try.prog 100 7 = some (7, 97) := by kernel_rfl
theorem tyF100_8 : fldT Try.prog 100 8 = some (8, 76) := by kernel_rfl
theorem tyF100_9 : fldT Try.prog 100 9 = some (9, 98) := by kernel_rfl
theorem tyF100_10 : fldT Try.prog 100 10 = some (10, 99) := by kernel_rfl
theorem tyB100 : bldT Try.prog 100 = some ([.int .u64 0, .int .u64 0, .int .u32 0, .int .u8 0, .int .u8 0, .int .u8 0, .int .u8 0, .nilFunc, .pointer none, .int .i32 0, .int .i32 0], [(0, 1), (1, 1), (2, 1), (3, 1), (4, 1), (5, 1), (6, 1), (7, 1), (8, 1), (9, 1), (10, 1)]) := by kernel_rfl
attribute [go_sem] tyR2 tyS2 tyZ2 tyU2 tyR3 tyS3 tyZ3 tyU3 tyR4 tyS4 tyZ4 tyU4 tyR5 tyS5 tyZ5 tyU5 tyR7 tyS7 tyZ7 tyF7_0 tyF7_1 tyF7_2 tyF7_3 tyB7 tyR9 tyS9 tyZ9 tyU9 tyR12 tyS12 tyZ12 tyU12 tyR13 tyS13 tyZ13 tyF13_0 tyF13_1 tyB13 tyR15 tyS15 tyZ15 tyR16 tyS16 tyZ16 tyR17 tyS17 tyZ17 tyR18 tyS18 tyZ18 tyF18_0 tyB18 tyR21 tyS21 tyZ21 tyU21 tyR22 tyS22 tyZ22 tyE22 tyL22 tyR26 tyS26 tyZ26 tyE26 tyL26 tyR29 tyS29 tyZ29 tyE29 tyL29 tyR37 tyS37 tyZ37 tyF37_0 tyF37_1 tyB37 tyR38 tyS38 tyZ38 tyF38_0 tyF38_1 tyB38 tyR44 tyS44 tyZ44 tyE44 tyL44 tyR46 tyS46 tyZ46 tyE46 tyL46 tyR49 tyS49 tyZ49 tyE49 tyL49 tyR51 tyS51 tyZ51 tyE51 tyL51 tyR54 tyS54 tyZ54 tyR55 tyS55 tyZ55 tyE55 tyL55 tyC55_9 tyR56 tyS56 tyZ56 tyF56_0 tyF56_1 tyB56 tyR57 tyS57 tyZ57 tyF57_0 tyF57_1 tyB57 tyR63 tyS63 tyZ63 tyF63_0 tyF63_1 tyB63 tyR64 tyS64 tyZ64 tyF64_0 tyF64_1 tyB64 tyR70 tyS70 tyZ70 tyF70_0 tyF70_1 tyF70_2 tyB70 tyR71 tyS71 tyZ71 tyF71_0 tyF71_1 tyF71_2 tyB71 tyR76 tyS76 tyZ76 tyR85 tyS85 tyZ85 tyU85 tyR86 tyS86 tyZ86 tyU86 tyR89 tyS89 tyZ89 tyF89_0 tyF89_1 tyF89_2 tyF89_3 tyB89 tyR91 tyS91 tyZ91 tyA91 tyR92 tyS92 tyZ92 tyR100 tyS100 tyZ100 tyF100_0 tyF100_1 tyF100_2 tyF100_3 tyF100_4 tyF100_5 tyF100_6 tyF100_7 tyF100_8 tyF100_9 tyF100_10 tyB100
end Go.Proofs.Ytcplbbbjmalfjaa
