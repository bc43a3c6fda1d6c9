/- Facts on the types of this seat's program, for the abstract machine. Printed by gen_types.py. -/
import Derived.Test.YtgbhjlkenfmadaaGreatDoorRows
import Derived.Test.YtgbhjlkenfmadaaGreatDoorMgC
namespace Go.Proofs.YtgbhjlkenfmadaaGreatDoor
set_option linter.unusedVariables false
set_option linter.unusedSimpArgs false
set_option maxRecDepth 100000
theorem tyR2 : rowT Tryz.prog 2 = some false := by kernel_rfl
theorem tyS2 : szT Tryz.prog 2 = some 1 := by kernel_rfl
theorem tyZ2 : zT Tryz.prog 2 = some [.int .i64 0] := by kernel_rfl
theorem tyU2 : Tryz.prog.underlying 2 = some (.int .i64) := by kernel_rfl
theorem tyR3 : rowT Tryz.prog 3 = some false := by kernel_rfl
theorem tyS3 : szT Tryz.prog 3 = some 1 := by kernel_rfl
theorem tyZ3 : zT Tryz.prog 3 = some [.int .i64 0] := by kernel_rfl
theorem tyU3 : Tryz.prog.underlying 3 = some (.int .i64) := by kernel_rfl
theorem tyR4 : rowT Tryz.prog 4 = some false := by kernel_rfl
theorem tyS4 : szT Tryz.prog 4 = some 1 := by kernel_rfl
theorem tyZ4 : zT Tryz.prog 4 = some [.bool false] := by kernel_rfl
theorem tyU4 : Tryz.prog.underlying 4 = some .bool := by kernel_rfl
theorem tyR5 : rowT Tryz.prog 5 = some false := by kernel_rfl
theorem tyS5 : szT Tryz.prog 5 = some 1 := by kernel_rfl
theorem tyZ5 : zT Tryz.prog 5 = some [.int .u8 0] := by kernel_rfl
theorem tyU5 : Tryz.prog.underlying 5 = some (.int .u8) := by kernel_rfl
theorem tyR7 : rowT Tryz.prog 7 = some true := by kernel_rfl
theorem tyS7 : szT Tryz.prog 7 = some 4 := by kernel_rfl
theorem tyZ7 : zT Tryz.prog 7 = some [.int .i64 0, .int .i64 0, .bool false, .int .u8 0] := by kernel_rfl
theorem tyF7_0 : fldT Tryz.prog 7 0 = some (0, 2) := by kernel_rfl
theorem tyF7_1 : fldT Tryz.prog 7 1 = some (1, 3) := by kernel_rfl
theorem tyF7_2 : fldT Tryz.prog 7 2 = some (2, 4) := by kernel_rfl
theorem tyF7_3 : fldT Tryz.prog 7 3 = some (3, 6) := by kernel_rfl
theorem tyB7 : bldT Tryz.prog 7 = some ([.int .i64 0, .int .i64 0, .bool false, .int .u8 0], [(0, 1), (1, 1), (2, 1), (3, 1)]) := by kernel_rfl
theorem tyR9 : rowT Tryz.prog 9 = some false := by kernel_rfl
theorem tyS9 : szT Tryz.prog 9 = some 1 := by kernel_rfl
theorem tyZ9 : zT Tryz.prog 9 = some [.string ⟨#[]⟩] := by kernel_rfl
theorem tyU9 : Tryz.prog.underlying 9 = some .string := by kernel_rfl
theorem tyR12 : rowT Tryz.prog 12 = some false := by kernel_rfl
theorem tyS12 : szT Tryz.prog 12 = some 1 := by kernel_rfl
theorem tyZ12 : zT Tryz.prog 12 = some [.int .u64 0] := by kernel_rfl
theorem tyU12 : Tryz.prog.underlying 12 = some (.int .u64) := by kernel_rfl
theorem tyR13 : rowT Tryz.prog 13 = some true := by kernel_rfl
theorem tyS13 : szT Tryz.prog 13 = some 2 := by kernel_rfl
theorem tyZ13 : zT Tryz.prog 13 = some [.string ⟨#[]⟩, .int .u64 0] := by kernel_rfl
theorem tyF13_0 : fldT Tryz.prog 13 0 = some (0, 9) := by kernel_rfl
theorem tyF13_1 : fldT Tryz.prog 13 1 = some (1, 12) := by kernel_rfl
theorem tyB13 : bldT Tryz.prog 13 = some ([.string ⟨#[]⟩, .int .u64 0], [(0, 1), (1, 1)]) := by kernel_rfl
theorem tyR15 : rowT Tryz.prog 15 = some false := by kernel_rfl
theorem tyS15 : szT Tryz.prog 15 = some 1 := by kernel_rfl
theorem tyZ15 : zT Tryz.prog 15 = some [.pointer none] := by kernel_rfl
theorem tyR16 : rowT Tryz.prog 16 = some false := by kernel_rfl
theorem tyS16 : szT Tryz.prog 16 = some 1 := by kernel_rfl
theorem tyZ16 : zT Tryz.prog 16 = some [.pointer none] := by kernel_rfl
theorem tyR17 : rowT Tryz.prog 17 = some false := by kernel_rfl
theorem tyS17 : szT Tryz.prog 17 = some 1 := by kernel_rfl
theorem tyZ17 : zT Tryz.prog 17 = some [.pointer none] := by kernel_rfl
theorem tyR18 : rowT Tryz.prog 18 = some true := by kernel_rfl
theorem tyS18 : szT Tryz.prog 18 = some 1 := by kernel_rfl
theorem tyZ18 : zT Tryz.prog 18 = some [.pointer none] := by kernel_rfl
theorem tyF18_0 : fldT Tryz.prog 18 0 = some (0, 17) := by kernel_rfl
theorem tyB18 : bldT Tryz.prog 18 = some ([.pointer none], [(0, 1)]) := by kernel_rfl
theorem tyR21 : rowT Tryz.prog 21 = some false := by kernel_rfl
theorem tyS21 : szT Tryz.prog 21 = some 1 := by kernel_rfl
theorem tyZ21 : zT Tryz.prog 21 = some [.int .i32 0] := by kernel_rfl
theorem tyU21 : Tryz.prog.underlying 21 = some (.int .i32) := by kernel_rfl
theorem tyR23 : rowT Tryz.prog 23 = some false := by kernel_rfl
theorem tyS23 : szT Tryz.prog 23 = some 1 := by kernel_rfl
theorem tyZ23 : zT Tryz.prog 23 = some [.slice none 0 0] := by kernel_rfl
theorem tyE23 : elT Tryz.prog 23 = some (9, 1, 16) := by kernel_rfl
theorem tyL23 : isSlT Tryz.prog 23 = true := by kernel_rfl
theorem tyR27 : rowT Tryz.prog 27 = some true := by kernel_rfl
theorem tyS27 : szT Tryz.prog 27 = some 2 := by kernel_rfl
theorem tyZ27 : zT Tryz.prog 27 = some [.int .i64 0, .slice none 0 0] := by kernel_rfl
theorem tyF27_0 : fldT Tryz.prog 27 0 = some (0, 3) := by kernel_rfl
theorem tyF27_1 : fldT Tryz.prog 27 1 = some (1, 23) := by kernel_rfl
theorem tyB27 : bldT Tryz.prog 27 = some ([.int .i64 0, .slice none 0 0], [(0, 1), (1, 1)]) := by kernel_rfl
theorem tyR28 : rowT Tryz.prog 28 = some true := by kernel_rfl
theorem tyS28 : szT Tryz.prog 28 = some 2 := by kernel_rfl
theorem tyZ28 : zT Tryz.prog 28 = some [.int .i64 0, .slice none 0 0] := by kernel_rfl
theorem tyF28_0 : fldT Tryz.prog 28 0 = some (0, 3) := by kernel_rfl
theorem tyF28_1 : fldT Tryz.prog 28 1 = some (1, 23) := by kernel_rfl
theorem tyB28 : bldT Tryz.prog 28 = some ([.int .i64 0, .slice none 0 0], [(0, 1), (1, 1)]) := by kernel_rfl
theorem tyR30 : rowT Tryz.prog 30 = some false := by kernel_rfl
theorem tyS30 : szT Tryz.prog 30 = some 1 := by kernel_rfl
theorem tyZ30 : zT Tryz.prog 30 = some [.int .i64 0] := by kernel_rfl
theorem tyU30 : Tryz.prog.underlying 30 = some (.int .i64) := by kernel_rfl
theorem tyR37 : rowT Tryz.prog 37 = some false := by kernel_rfl
theorem tyS37 : szT Tryz.prog 37 = some 1 := by kernel_rfl
theorem tyZ37 : zT Tryz.prog 37 = some [.slice none 0 0] := by kernel_rfl
theorem tyE37 : elT Tryz.prog 37 = some (45, 4, 40) := by kernel_rfl
theorem tyL37 : isSlT Tryz.prog 37 = true := by kernel_rfl
theorem tyR44 : rowT Tryz.prog 44 = some true := by kernel_rfl
theorem tyS44 : szT Tryz.prog 44 = some 4 := by kernel_rfl
theorem tyZ44 : zT Tryz.prog 44 = some [.int .i64 0, .int .i64 0, .int .i64 0, .string ⟨#[]⟩] := by kernel_rfl
theorem tyF44_0 : fldT Tryz.prog 44 0 = some (0, 3) := by kernel_rfl
theorem tyF44_1 : fldT Tryz.prog 44 1 = some (1, 3) := by kernel_rfl
theorem tyF44_2 : fldT Tryz.prog 44 2 = some (2, 3) := by kernel_rfl
theorem tyF44_3 : fldT Tryz.prog 44 3 = some (3, 9) := by kernel_rfl
theorem tyB44 : bldT Tryz.prog 44 = some ([.int .i64 0, .int .i64 0, .int .i64 0, .string ⟨#[]⟩], [(0, 1), (1, 1), (2, 1), (3, 1)]) := by kernel_rfl
theorem tyR45 : rowT Tryz.prog 45 = some true := by kernel_rfl
theorem tyS45 : szT Tryz.prog 45 = some 4 := by kernel_rfl
theorem tyZ45 : zT Tryz.prog 45 = some [.int .i64 0, .int .i64 0, .int .i64 0, .string ⟨#[]⟩] := by kernel_rfl
theorem tyF45_0 : fldT Tryz.prog 45 0 = some (0, 3) := by kernel_rfl
theorem tyF45_1 : fldT Tryz.prog 45 1 = some (1, 3) := by kernel_rfl
theorem tyF45_2 : fldT Tryz.prog 45 2 = some (2, 3) := by kernel_rfl
theorem tyF45_3 : fldT Tryz.prog 45 3 = some (3, 9) := by kernel_rfl
theorem tyB45 : bldT Tryz.prog 45 = some ([.int .i64 0, .int .i64 0, .int .i64 0, .string ⟨#[]⟩], [(0, 1), (1, 1), (2, 1), (3, 1)]) := by kernel_rfl
theorem tyR49 : rowT Tryz.prog 49 = some true := by kernel_rfl
theorem tyS49 : szT Tryz.prog 49 = some 4 := by kernel_rfl
theorem tyZ49 : zT Tryz.prog 49 = some [.int .i64 0, .slice none 0 0, .string ⟨#[]⟩, .bool false] := by kernel_rfl
theorem tyF49_0 : fldT Tryz.prog 49 0 = some (0, 28) := by kernel_rfl
theorem tyF49_1 : fldT Tryz.prog 49 1 = some (2, 9) := by kernel_rfl
theorem tyF49_2 : fldT Tryz.prog 49 2 = some (3, 4) := by kernel_rfl
theorem tyB49 : bldT Tryz.prog 49 = some ([.int .i64 0, .slice none 0 0, .string ⟨#[]⟩, .bool false], [(0, 2), (2, 1), (3, 1)]) := by kernel_rfl
theorem tyR50 : rowT Tryz.prog 50 = some true := by kernel_rfl
theorem tyS50 : szT Tryz.prog 50 = some 4 := by kernel_rfl
theorem tyZ50 : zT Tryz.prog 50 = some [.int .i64 0, .slice none 0 0, .string ⟨#[]⟩, .bool false] := by kernel_rfl
theorem tyF50_0 : fldT Tryz.prog 50 0 = some (0, 28) := by kernel_rfl
theorem tyF50_1 : fldT Tryz.prog 50 1 = some (2, 9) := by kernel_rfl
theorem tyF50_2 : fldT Tryz.prog 50 2 = some (3, 4) := by kernel_rfl
theorem tyB50 : bldT Tryz.prog 50 = some ([.int .i64 0, .slice none 0 0, .string ⟨#[]⟩, .bool false], [(0, 2), (2, 1), (3, 1)]) := by kernel_rfl
theorem tyR61 : rowT Tryz.prog 61 = some false := by kernel_rfl
theorem tyS61 : szT Tryz.prog 61 = some 1 := by kernel_rfl
theorem tyZ61 : zT Tryz.prog 61 = some [.slice none 0 0] := by kernel_rfl
theorem tyE61 : elT Tryz.prog 61 = some (63, 2, 16) := by kernel_rfl
theorem tyL61 : isSlT Tryz.prog 61 = true := by kernel_rfl
theorem tyR62 : rowT Tryz.prog 62 = some true := by kernel_rfl
theorem tyS62 : szT Tryz.prog 62 = some 2 := by kernel_rfl
theorem tyZ62 : zT Tryz.prog 62 = some [.int .i64 0, .int .i64 0] := by kernel_rfl
theorem tyF62_0 : fldT Tryz.prog 62 0 = some (0, 3) := by kernel_rfl
theorem tyF62_1 : fldT Tryz.prog 62 1 = some (1, 3) := by kernel_rfl
theorem tyB62 : bldT Tryz.prog 62 = some ([.int .i64 0, .int .i64 0], [(0, 1), (1, 1)]) := by kernel_rfl
theorem tyR63 : rowT Tryz.prog 63 = some true := by kernel_rfl
theorem tyS63 : szT Tryz.prog 63 = some 2 := by kernel_rfl
theorem tyZ63 : zT Tryz.prog 63 = some [.int .i64 0, .int .i64 0] := by kernel_rfl
theorem tyF63_0 : fldT Tryz.prog 63 0 = some (0, 3) := by kernel_rfl
theorem tyF63_1 : fldT Tryz.prog 63 1 = some (1, 3) := by kernel_rfl
theorem tyB63 : bldT Tryz.prog 63 = some ([.int .i64 0, .int .i64 0], [(0, 1), (1, 1)]) := by kernel_rfl
theorem tyR64 : rowT Tryz.prog 64 = some false := by kernel_rfl
theorem tyS64 : szT Tryz.prog 64 = some 1 := by kernel_rfl
theorem tyZ64 : zT Tryz.prog 64 = some [.pointer none] := by kernel_rfl
theorem tyR68 : rowT Tryz.prog 68 = some false := by kernel_rfl
theorem tyS68 : szT Tryz.prog 68 = some 1 := by kernel_rfl
theorem tyZ68 : zT Tryz.prog 68 = some [.pointer none] := by kernel_rfl
theorem tyR69 : rowT Tryz.prog 69 = some false := by kernel_rfl
theorem tyS69 : szT Tryz.prog 69 = some 1 := by kernel_rfl
theorem tyZ69 : zT Tryz.prog 69 = some [.slice none 0 0] := by kernel_rfl
theorem tyE69 : elT Tryz.prog 69 = some (5, 1, 1) := by kernel_rfl
theorem tyL69 : isSlT Tryz.prog 69 = true := by kernel_rfl
theorem tyC69_9 : bsT Tryz.prog 69 9 = true := by kernel_rfl
theorem tyR70 : rowT Tryz.prog 70 = some true := by kernel_rfl
theorem tyS70 : szT Tryz.prog 70 = some 2 := by kernel_rfl
theorem tyZ70 : zT Tryz.prog 70 = some [.pointer none, .slice none 0 0] := by kernel_rfl
theorem tyF70_0 : fldT Tryz.prog 70 0 = some (0, 68) := by kernel_rfl
theorem tyF70_1 : fldT Tryz.prog 70 1 = some (1, 69) := by kernel_rfl
theorem tyB70 : bldT Tryz.prog 70 = some ([.pointer none, .slice none 0 0], [(0, 1), (1, 1)]) := by kernel_rfl
theorem tyR71 : rowT Tryz.prog 71 = some true := by kernel_rfl
theorem tyS71 : szT Tryz.prog 71 = some 2 := by kernel_rfl
theorem tyZ71 : zT Tryz.prog 71 = some [.pointer none, .slice none 0 0] := by kernel_rfl
theorem tyF71_0 : fldT Tryz.prog 71 0 = some (0, 68) := by kernel_rfl
theorem tyF71_1 : fldT Tryz.prog 71 1 = some (1, 69) := by kernel_rfl
theorem tyB71 : bldT Tryz.prog 71 = some ([.pointer none, .slice none 0 0], [(0, 1), (1, 1)]) := by kernel_rfl
theorem tyR100 : rowT Tryz.prog 100 = some true := by kernel_rfl
theorem tyS100 : szT Tryz.prog 100 = some 2 := by kernel_rfl
theorem tyZ100 : zT Tryz.prog 100 = some [.bool false, .bool false] := by kernel_rfl
theorem tyF100_0 : fldT Tryz.prog 100 0 = some (0, 4) := by kernel_rfl
theorem tyF100_1 : fldT Tryz.prog 100 1 = some (1, 4) := by kernel_rfl
theorem tyB100 : bldT Tryz.prog 100 = some ([.bool false, .bool false], [(0, 1), (1, 1)]) := by kernel_rfl
theorem tyR101 : rowT Tryz.prog 101 = some true := by kernel_rfl
theorem tyS101 : szT Tryz.prog 101 = some 2 := by kernel_rfl
theorem tyZ101 : zT Tryz.prog 101 = some [.bool false, .bool false] := by kernel_rfl
theorem tyF101_0 : fldT Tryz.prog 101 0 = some (0, 4) := by kernel_rfl
theorem tyF101_1 : fldT Tryz.prog 101 1 = some (1, 4) := by kernel_rfl
theorem tyB101 : bldT Tryz.prog 101 = some ([.bool false, .bool false], [(0, 1), (1, 1)]) := by kernel_rfl
theorem tyR108 : rowT Tryz.prog 108 = some false := by kernel_rfl
theorem tyS108 : szT Tryz.prog 108 = some 1 := by kernel_rfl
theorem tyZ108 : zT Tryz.prog 108 = some [.pointer none] := by kernel_rfl
theorem tyR131 : rowT Tryz.prog 131 = some false := by kernel_rfl
theorem tyS131 : szT Tryz.prog 131 = some 1 := by kernel_rfl
theorem tyZ131 : zT Tryz.prog 131 = some [.int .u64 0] := by kernel_rfl
theorem tyU131 : Tryz.prog.underlying 131 = some (.int .u64) := by kernel_rfl
theorem tyR133 : rowT Tryz.prog 133 = some true := by kernel_rfl
theorem tyS133 : szT Tryz.prog 133 = some 256 := by kernel_rfl
theorem tyA133 : arT Tryz.prog 133 = some (256, 5, 1) := by kernel_rfl
theorem tyR134 : rowT Tryz.prog 134 = some true := by kernel_rfl
theorem tyS134 : szT Tryz.prog 134 = some 2 := by kernel_rfl
theorem tyZ134 : zT Tryz.prog 134 = some [.int .u8 0, .int .u8 0] := by kernel_rfl
theorem tyF134_0 : fldT Tryz.prog 134 0 = some (0, 5) := by kernel_rfl
theorem tyF134_1 : fldT Tryz.prog 134 1 = some (1, 5) := by kernel_rfl
theorem tyB134 : bldT Tryz.prog 134 = some ([.int .u8 0, .int .u8 0], [(0, 1), (1, 1)]) := by kernel_rfl
theorem tyR135 : rowT Tryz.prog 135 = some true := by kernel_rfl
theorem tyS135 : szT Tryz.prog 135 = some 2 := by kernel_rfl
theorem tyZ135 : zT Tryz.prog 135 = some [.int .u8 0, .int .u8 0] := by kernel_rfl
theorem tyF135_0 : fldT Tryz.prog 135 0 = some (0, 5) := by kernel_rfl
theorem tyF135_1 : fldT Tryz.prog 135 1 = some (1, 5) := by kernel_rfl
theorem tyB135 : bldT Tryz.prog 135 = some ([.int .u8 0, .int .u8 0], [(0, 1), (1, 1)]) := by kernel_rfl
theorem tyR136 : rowT Tryz.prog 136 = some true := by kernel_rfl
theorem tyS136 : szT Tryz.prog 136 = some 32 := by kernel_rfl
theorem tyZ136 : zT Tryz.prog 136 = some [.int .u8 0, .int .u8 0, .int .u8 0, .int .u8 0, .int .u8 0, .int .u8 0, .int .u8 0, .int .u8 0, .int .u8 0, .int .u8 0, .int .u8 0, .int .u8 0, .int .u8 0, .int .u8 0, .int .u8 0, .int .u8 0, .int .u8 0, .int .u8 0, .int .u8 0, .int .u8 0, .int .u8 0, .int .u8 0, .int .u8 0, .int .u8 0, .int .u8 0, .int .u8 0, .int .u8 0, .int .u8 0, .int .u8 0, .int .u8 0, .int .u8 0, .int .u8 0] := by kernel_rfl
theorem tyA136 : arT Tryz.prog 136 = some (16, 135, 2) := by kernel_rfl
theorem tyR140 : rowT Tryz.prog 140 = some false := by kernel_rfl
theorem tyS140 : szT Tryz.prog 140 = some 1 := by kernel_rfl
theorem tyZ140 : zT Tryz.prog 140 = some [.int .u32 0] := by kernel_rfl
theorem tyU140 : Tryz.prog.underlying 140 = some (.int .u32) := by kernel_rfl
theorem tyR145 : rowT Tryz.prog 145 = some true := by kernel_rfl
theorem tyS145 : szT Tryz.prog 145 = some 4 := by kernel_rfl
theorem tyZ145 : zT Tryz.prog 145 = some [.pointer none, .pointer none, .pointer none, .string ⟨#[]⟩] := by kernel_rfl
theorem tyF145_0 : fldT Tryz.prog 145 0 = some (0, 17) := by kernel_rfl
theorem tyF145_1 : fldT Tryz.prog 145 1 = some (1, 17) := by kernel_rfl
theorem tyF145_2 : fldT Tryz.prog 145 2 = some (2, 17) := by kernel_rfl
theorem tyF145_3 : fldT Tryz.prog 145 3 = some (3, 9) := by kernel_rfl
theorem tyB145 : bldT Tryz.prog 145 = some ([.pointer none, .pointer none, .pointer none, .string ⟨#[]⟩], [(0, 1), (1, 1), (2, 1), (3, 1)]) := by kernel_rfl
theorem tyR147 : rowT Tryz.prog 147 = some true := by kernel_rfl
theorem tyS147 : szT Tryz.prog 147 = some 0 := by kernel_rfl
theorem tyZ147 : zT Tryz.prog 147 = some [] := by kernel_rfl
theorem tyA147 : arT Tryz.prog 147 = some (0, 16, 1) := by kernel_rfl
theorem tyR148 : rowT Tryz.prog 148 = some true := by kernel_rfl
theorem tyS148 : szT Tryz.prog 148 = some 0 := by kernel_rfl
theorem tyZ148 : zT Tryz.prog 148 = some [] := by kernel_rfl
theorem tyR156 : rowT Tryz.prog 156 = some true := by kernel_rfl
theorem tyS156 : szT Tryz.prog 156 = some 11 := by kernel_rfl
theorem tyZ156 : zT Tryz.prog 156 = some [.int .u64 0, .int .u64 0, .int .u32 0, .int .u8 0, .int .u8 0, .int .u8 0, .int .u8 0, .nilFunc, .pointer none, .int .i32 0, .int .i32 0] := by kernel_rfl
theorem tyF156_0 : fldT Tryz.prog 156 0 = some (0, 12) := by kernel_rfl
theorem tyF156_1 : fldT Tryz.prog 156 1 = some (1, 12) := by kernel_rfl
theorem tyF156_2 : fldT Tryz.prog 156 2 = some (2, 140) := by kernel_rfl
theorem tyF156_3 : fldT Tryz.prog 156 3 = some (3, 151) := by kernel_rfl
theorem tyF156_4 : fldT Tryz.prog 156 4 = some (4, 5) := by kernel_rfl
theorem tyF156_5 : fldT Tryz.prog 156 5 = some (5, 5) := by kernel_rfl
theorem tyF156_6 : fldT Tryz.prog 156 6 = some (6, 152) := by kernel_rfl
theorem tyF156_7 : fldT Tryz.prog 156 7 = some (7, 153) := by kernel_rfl
theorem tyF156_8 : fldT Tryz.prog 156 8 = some (8, 108) := by kernel_rfl
theorem tyF156_9 : fldT Tryz.prog 156 9 = some (9, 154) := by kernel_rfl
theorem tyF156_10 : fldT Tryz.prog 156 10 = some (10, 155) := by kernel_rfl
theorem tyB156 : bldT Tryz.prog 156 = some ([.int .u64 0, .int .u64 0, .int .u32 0, .int .u8 0, .int .u8 0, .int .u8 0, .int .u8 0, .nilFunc, .pointer none, .int .i32 0, .int .i32 0], [(0, 1), (1, 1), (2, 1), (3, 1), (4, 1), (5, 1), (6, 1), (7, 1), (8, 1), (9, 1), (10, 1)]) := by kernel_rfl
attribute [go_sem] tyR2 tyS2 tyZ2 tyU2 tyR3 tyS3 tyZ3 tyU3 tyR4 tyS4 tyZ4 tyU4 tyR5 tyS5 tyZ5 tyU5 tyR7 tyS7 tyZ7 tyF7_0 tyF7_1 tyF7_2 tyF7_3 tyB7 tyR9 tyS9 tyZ9 tyU9 tyR12 tyS12 tyZ12 tyU12 tyR13 tyS13 tyZ13 tyF13_0 tyF13_1 tyB13 tyR15 tyS15 tyZ15 tyR16 tyS16 tyZ16 tyR17 tyS17 tyZ17 tyR18 tyS18 tyZ18 tyF18_0 tyB18 tyR21 tyS21 tyZ21 tyU21 tyR23 tyS23 tyZ23 tyE23 tyL23 tyR27 tyS27 tyZ27 tyF27_0 tyF27_1 tyB27 tyR28 tyS28 tyZ28 tyF28_0 tyF28_1 tyB28 tyR30 tyS30 tyZ30 tyU30 tyR37 tyS37 tyZ37 tyE37 tyL37 tyR44 tyS44 tyZ44 tyF44_0 tyF44_1 tyF44_2 tyF44_3 tyB44 tyR45 tyS45 tyZ45 tyF45_0 tyF45_1 tyF45_2 tyF45_3 tyB45 tyR49 tyS49 tyZ49 tyF49_0 tyF49_1 tyF49_2 tyB49 tyR50 tyS50 tyZ50 tyF50_0 tyF50_1 tyF50_2 tyB50 tyR61 tyS61 tyZ61 tyE61 tyL61 tyR62 tyS62 tyZ62 tyF62_0 tyF62_1 tyB62 tyR63 tyS63 tyZ63 tyF63_0 tyF63_1 tyB63 tyR64 tyS64 tyZ64 tyR68 tyS68 tyZ68 tyR69 tyS69 tyZ69 tyE69 tyL69 tyC69_9 tyR70 tyS70 tyZ70 tyF70_0 tyF70_1 tyB70 tyR71 tyS71 tyZ71 tyF71_0 tyF71_1 tyB71 tyR100 tyS100 tyZ100 tyF100_0 tyF100_1 tyB100 tyR101 tyS101 tyZ101 tyF101_0 tyF101_1 tyB101 tyR108 tyS108 tyZ108 tyR131 tyS131 tyZ131 tyU131 tyR133 tyS133 tyA133 tyR134 tyS134 tyZ134 tyF134_0 tyF134_1 tyB134 tyR135 tyS135 tyZ135 tyF135_0 tyF135_1 tyB135 tyR136 tyS136 tyZ136 tyA136 tyR140 tyS140 tyZ140 tyU140 tyR145 tyS145 tyZ145 tyF145_0 tyF145_1 tyF145_2 tyF145_3 tyB145 tyR147 tyS147 tyZ147 tyA147 tyR148 tyS148 tyZ148 tyR156 tyS156 tyZ156 tyF156_0 tyF156_1 tyF156_2 tyF156_3 tyF156_4 tyF156_5 tyF156_6 tyF156_7 tyF156_8 tyF156_9 tyF156_10 tyB156
end Go.Proofs.YtgbhjlkenfmadaaGreatDoor
