/- Facts on the types of this seat's program, for the abstract machine. Printed by gen_types.py. -/
import Derived.Test.YtllhcgfdjfmmeaaRows
import Derived.Test.YtllhcgfdjfmmeaaMgC
namespace Go.Proofs.Ytllhcgfdjfmmeaa
set_option linter.unusedVariables false
set_option linter.unusedSimpArgs false
set_option maxRecDepth 100000
theorem tyR2 : rowT Try.prog 2 = some false := by kernel_rfl
theorem tyS2 : szT Try.prog 2 = some 1 := by kernel_rfl
theorem tyZ2 : zT Try.prog 2 = some [.int .i64 0] := by kernel_rfl
theorem tyU2 : Try.prog.underlying 2 = some (.int .i64) := by kernel_rfl
theorem tyR3 : rowT Try.prog 3 = some false := by kernel_rfl
theorem tyS3 : szT Try.prog 3 = some 1 := by kernel_rfl
theorem tyZ3 : zT Try.prog 3 = some [.int .i64 0] := by kernel_rfl
theorem tyU3 : Try.prog.underlying 3 = some (.int .i64) := by kernel_rfl
theorem tyR4 : rowT Try.prog 4 = some false := by kernel_rfl
theorem tyS4 : szT Try.prog 4 = some 1 := by kernel_rfl
theorem tyZ4 : zT Try.prog 4 = some [.bool false] := by kernel_rfl
theorem tyU4 : Try.prog.underlying 4 = some .bool := by kernel_rfl
theorem tyR5 : rowT Try.prog 5 = some false := by kernel_rfl
theorem tyS5 : szT Try.prog 5 = some 1 := by kernel_rfl
theorem tyZ5 : zT Try.prog 5 = some [.int .u8 0] := by kernel_rfl
theorem tyU5 : Try.prog.underlying 5 = some (.int .u8) := by kernel_rfl
theorem tyR7 : rowT Try.prog 7 = some true := by kernel_rfl
theorem tyS7 : szT Try.prog 7 = some 4 := by kernel_rfl
theorem tyZ7 : zT Try.prog 7 = some [.int .i64 0, .int .i64 0, .bool false, .int .u8 0] := by kernel_rfl
theorem tyF7_0 : fldT Try.prog 7 0 = some (0, 2) := by kernel_rfl
theorem tyF7_1 : fldT Try.prog 7 1 = some (1, 3) := by kernel_rfl
theorem tyF7_2 : fldT Try.prog 7 2 = some (2, 4) := by kernel_rfl
theorem tyF7_3 : fldT Try.prog 7 3 = some (3, 6) := by kernel_rfl
theorem tyB7 : bldT Try.prog 7 = some ([.int .i64 0, .int .i64 0, .bool false, .int .u8 0], [(0, 1), (1, 1), (2, 1), (3, 1)]) := by kernel_rfl
theorem tyR9 : rowT Try.prog 9 = some false := by kernel_rfl
theorem tyS9 : szT Try.prog 9 = some 1 := by kernel_rfl
theorem tyZ9 : zT Try.prog 9 = some [.string ⟨#[]⟩] := by kernel_rfl
theorem tyU9 : Try.prog.underlying 9 = some .string := by kernel_rfl
theorem tyR12 : rowT Try.prog 12 = some false := by kernel_rfl
theorem tyS12 : szT Try.prog 12 = some 1 := by kernel_rfl
theorem tyZ12 : zT Try.prog 12 = some [.int .u64 0] := by kernel_rfl
theorem tyU12 : Try.prog.underlying 12 = some (.int .u64) := by kernel_rfl
theorem tyR13 : rowT Try.prog 13 = some true := by kernel_rfl
theorem tyS13 : szT Try.prog 13 = some 2 := by kernel_rfl
theorem tyZ13 : zT Try.prog 13 = some [.string ⟨#[]⟩, .int .u64 0] := by kernel_rfl
theorem tyF13_0 : fldT Try.prog 13 0 = some (0, 9) := by kernel_rfl
theorem tyF13_1 : fldT Try.prog 13 1 = some (1, 12) := by kernel_rfl
theorem tyB13 : bldT Try.prog 13 = some ([.string ⟨#[]⟩, .int .u64 0], [(0, 1), (1, 1)]) := by kernel_rfl
theorem tyR15 : rowT Try.prog 15 = some false := by kernel_rfl
theorem tyS15 : szT Try.prog 15 = some 1 := by kernel_rfl
theorem tyZ15 : zT Try.prog 15 = some [.pointer none] := by kernel_rfl
theorem tyR16 : rowT Try.prog 16 = some false := by kernel_rfl
theorem tyS16 : szT Try.prog 16 = some 1 := by kernel_rfl
theorem tyZ16 : zT Try.prog 16 = some [.pointer none] := by kernel_rfl
theorem tyR17 : rowT Try.prog 17 = some false := by kernel_rfl
theorem tyS17 : szT Try.prog 17 = some 1 := by kernel_rfl
theorem tyZ17 : zT Try.prog 17 = some [.pointer none] := by kernel_rfl
theorem tyR18 : rowT Try.prog 18 = some true := by kernel_rfl
theorem tyS18 : szT Try.prog 18 = some 1 := by kernel_rfl
theorem tyZ18 : zT Try.prog 18 = some [.pointer none] := by kernel_rfl
theorem tyF18_0 : fldT Try.prog 18 0 = some (0, 17) := by kernel_rfl
theorem tyB18 : bldT Try.prog 18 = some ([.pointer none], [(0, 1)]) := by kernel_rfl
theorem tyR21 : rowT Try.prog 21 = some false := by kernel_rfl
theorem tyS21 : szT Try.prog 21 = some 1 := by kernel_rfl
theorem tyZ21 : zT Try.prog 21 = some [.int .i32 0] := by kernel_rfl
theorem tyU21 : Try.prog.underlying 21 = some (.int .i32) := by kernel_rfl
theorem tyR22 : rowT Try.prog 22 = some false := by kernel_rfl
theorem tyS22 : szT Try.prog 22 = some 1 := by kernel_rfl
theorem tyZ22 : zT Try.prog 22 = some [.slice none 0 0] := by kernel_rfl
theorem tyE22 : elT Try.prog 22 = some (47, 2, 24) := by kernel_rfl
theorem tyL22 : isSlT Try.prog 22 = true := by kernel_rfl
theorem tyR26 : rowT Try.prog 26 = some false := by kernel_rfl
theorem tyS26 : szT Try.prog 26 = some 1 := by kernel_rfl
theorem tyZ26 : zT Try.prog 26 = some [.slice none 0 0] := by kernel_rfl
theorem tyE26 : elT Try.prog 26 = some (44, 4, 56) := by kernel_rfl
theorem tyL26 : isSlT Try.prog 26 = true := by kernel_rfl
theorem tyR42 : rowT Try.prog 42 = some false := by kernel_rfl
theorem tyS42 : szT Try.prog 42 = some 1 := by kernel_rfl
theorem tyZ42 : zT Try.prog 42 = some [.slice none 0 0] := by kernel_rfl
theorem tyE42 : elT Try.prog 42 = some (49, 2, 2) := by kernel_rfl
theorem tyL42 : isSlT Try.prog 42 = true := by kernel_rfl
theorem tyR43 : rowT Try.prog 43 = some true := by kernel_rfl
theorem tyS43 : szT Try.prog 43 = some 4 := by kernel_rfl
theorem tyZ43 : zT Try.prog 43 = some [.int .i64 0, .string ⟨#[]⟩, .bool false, .slice none 0 0] := by kernel_rfl
theorem tyF43_0 : fldT Try.prog 43 0 = some (0, 3) := by kernel_rfl
theorem tyF43_1 : fldT Try.prog 43 1 = some (1, 9) := by kernel_rfl
theorem tyF43_2 : fldT Try.prog 43 2 = some (2, 4) := by kernel_rfl
theorem tyF43_3 : fldT Try.prog 43 3 = some (3, 42) := by kernel_rfl
theorem tyB43 : bldT Try.prog 43 = some ([.int .i64 0, .string ⟨#[]⟩, .bool false, .slice none 0 0], [(0, 1), (1, 1), (2, 1), (3, 1)]) := by kernel_rfl
theorem tyR44 : rowT Try.prog 44 = some true := by kernel_rfl
theorem tyS44 : szT Try.prog 44 = some 4 := by kernel_rfl
theorem tyZ44 : zT Try.prog 44 = some [.int .i64 0, .string ⟨#[]⟩, .bool false, .slice none 0 0] := by kernel_rfl
theorem tyF44_0 : fldT Try.prog 44 0 = some (0, 3) := by kernel_rfl
theorem tyF44_1 : fldT Try.prog 44 1 = some (1, 9) := by kernel_rfl
theorem tyF44_2 : fldT Try.prog 44 2 = some (2, 4) := by kernel_rfl
theorem tyF44_3 : fldT Try.prog 44 3 = some (3, 42) := by kernel_rfl
theorem tyB44 : bldT Try.prog 44 = some ([.int .i64 0, .string ⟨#[]⟩, .bool false, .slice none 0 0], [(0, 1), (1, 1), (2, 1), (3, 1)]) := by kernel_rfl
theorem tyR46 : rowT Try.prog 46 = some true := by kernel_rfl
theorem tyS46 : szT Try.prog 46 = some 2 := by kernel_rfl
theorem tyZ46 : zT Try.prog 46 = some [.string ⟨#[]⟩, .int .i64 0] := by kernel_rfl
theorem tyF46_0 : fldT Try.prog 46 0 = some (0, 9) := by kernel_rfl
theorem tyF46_1 : fldT Try.prog 46 1 = some (1, 3) := by kernel_rfl
theorem tyB46 : bldT Try.prog 46 = some ([.string ⟨#[]⟩, .int .i64 0], [(0, 1), (1, 1)]) := by kernel_rfl
theorem tyR47 : rowT Try.prog 47 = some true := by kernel_rfl
theorem tyS47 : szT Try.prog 47 = some 2 := by kernel_rfl
theorem tyZ47 : zT Try.prog 47 = some [.string ⟨#[]⟩, .int .i64 0] := by kernel_rfl
theorem tyF47_0 : fldT Try.prog 47 0 = some (0, 9) := by kernel_rfl
theorem tyF47_1 : fldT Try.prog 47 1 = some (1, 3) := by kernel_rfl
theorem tyB47 : bldT Try.prog 47 = some ([.string ⟨#[]⟩, .int .i64 0], [(0, 1), (1, 1)]) := by kernel_rfl
theorem tyR48 : rowT Try.prog 48 = some true := by kernel_rfl
theorem tyS48 : szT Try.prog 48 = some 2 := by kernel_rfl
theorem tyZ48 : zT Try.prog 48 = some [.int .u8 0, .int .u8 0] := by kernel_rfl
theorem tyF48_0 : fldT Try.prog 48 0 = some (0, 5) := by kernel_rfl
theorem tyF48_1 : fldT Try.prog 48 1 = some (1, 5) := by kernel_rfl
theorem tyB48 : bldT Try.prog 48 = some ([.int .u8 0, .int .u8 0], [(0, 1), (1, 1)]) := by kernel_rfl
theorem tyR49 : rowT Try.prog 49 = some true := by kernel_rfl
theorem tyS49 : szT Try.prog 49 = some 2 := by kernel_rfl
theorem tyZ49 : zT Try.prog 49 = some [.int .u8 0, .int .u8 0] := by kernel_rfl
theorem tyF49_0 : fldT Try.prog 49 0 = some (0, 5) := by kernel_rfl
theorem tyF49_1 : fldT Try.prog 49 1 = some (1, 5) := by kernel_rfl
theorem tyB49 : bldT Try.prog 49 = some ([.int .u8 0, .int .u8 0], [(0, 1), (1, 1)]) := by kernel_rfl
theorem tyR50 : rowT Try.prog 50 = some false := by kernel_rfl
theorem tyS50 : szT Try.prog 50 = some 1 := by kernel_rfl
theorem tyZ50 : zT Try.prog 50 = some [.slice none 0 0] := by kernel_rfl
theorem tyE50 : elT Try.prog 50 = some (56, 2, 2) := by kernel_rfl
theorem tyL50 : isSlT Try.prog 50 = true := by kernel_rfl
theorem tyR55 : rowT Try.prog 55 = some true := by kernel_rfl
theorem tyS55 : szT Try.prog 55 = some 2 := by kernel_rfl
theorem tyZ55 : zT Try.prog 55 = some [.int .u8 0, .bool false] := by kernel_rfl
theorem tyF55_0 : fldT Try.prog 55 0 = some (0, 5) := by kernel_rfl
theorem tyF55_1 : fldT Try.prog 55 1 = some (1, 4) := by kernel_rfl
theorem tyB55 : bldT Try.prog 55 = some ([.int .u8 0, .bool false], [(0, 1), (1, 1)]) := by kernel_rfl
theorem tyR56 : rowT Try.prog 56 = some true := by kernel_rfl
theorem tyS56 : szT Try.prog 56 = some 2 := by kernel_rfl
theorem tyZ56 : zT Try.prog 56 = some [.int .u8 0, .bool false] := by kernel_rfl
theorem tyF56_0 : fldT Try.prog 56 0 = some (0, 5) := by kernel_rfl
theorem tyF56_1 : fldT Try.prog 56 1 = some (1, 4) := by kernel_rfl
theorem tyB56 : bldT Try.prog 56 = some ([.int .u8 0, .bool false], [(0, 1), (1, 1)]) := by kernel_rfl
theorem tyR57 : rowT Try.prog 57 = some false := by kernel_rfl
theorem tyS57 : szT Try.prog 57 = some 1 := by kernel_rfl
theorem tyZ57 : zT Try.prog 57 = some [.slice none 0 0] := by kernel_rfl
theorem tyE57 : elT Try.prog 57 = some (5, 1, 1) := by kernel_rfl
theorem tyL57 : isSlT Try.prog 57 = true := by kernel_rfl
theorem tyC57_9 : bsT Try.prog 57 9 = true := by kernel_rfl
theorem tyR58 : rowT Try.prog 58 = some false := by kernel_rfl
theorem tyS58 : szT Try.prog 58 = some 1 := by kernel_rfl
theorem tyZ58 : zT Try.prog 58 = some [.slice none 0 0] := by kernel_rfl
theorem tyE58 : elT Try.prog 58 = some (63, 2, 2) := by kernel_rfl
theorem tyL58 : isSlT Try.prog 58 = true := by kernel_rfl
theorem tyR62 : rowT Try.prog 62 = some true := by kernel_rfl
theorem tyS62 : szT Try.prog 62 = some 2 := by kernel_rfl
theorem tyZ62 : zT Try.prog 62 = some [.int .u8 0, .bool false] := by kernel_rfl
theorem tyF62_0 : fldT Try.prog 62 0 = some (0, 5) := by kernel_rfl
theorem tyF62_1 : fldT Try.prog 62 1 = some (1, 4) := by kernel_rfl
theorem tyB62 : bldT Try.prog 62 = some ([.int .u8 0, .bool false], [(0, 1), (1, 1)]) := by kernel_rfl
theorem tyR63 : rowT Try.prog 63 = some true := by kernel_rfl
theorem tyS63 : szT Try.prog 63 = some 2 := by kernel_rfl
theorem tyZ63 : zT Try.prog 63 = some [.int .u8 0, .bool false] := by kernel_rfl
theorem tyF63_0 : fldT Try.prog 63 0 = some (0, 5) := by kernel_rfl
theorem tyF63_1 : fldT Try.prog 63 1 = some (1, 4) := by kernel_rfl
theorem tyB63 : bldT Try.prog 63 = some ([.int .u8 0, .bool false], [(0, 1), (1, 1)]) := by kernel_rfl
theorem tyR67 : rowT Try.prog 67 = some false := by kernel_rfl
theorem tyS67 : szT Try.prog 67 = some 1 := by kernel_rfl
theorem tyZ67 : zT Try.prog 67 = some [.slice none 0 0] := by kernel_rfl
theorem tyE67 : elT Try.prog 67 = some (4, 1, 1) := by kernel_rfl
theorem tyL67 : isSlT Try.prog 67 = true := by kernel_rfl
theorem tyR72 : rowT Try.prog 72 = some true := by kernel_rfl
theorem tyS72 : szT Try.prog 72 = some 256 := by kernel_rfl
theorem tyA72 : arT Try.prog 72 = some (256, 4, 1) := by kernel_rfl
theorem tyR75 : rowT Try.prog 75 = some false := by kernel_rfl
theorem tyS75 : szT Try.prog 75 = some 1 := by kernel_rfl
theorem tyZ75 : zT Try.prog 75 = some [.pointer none] := by kernel_rfl
theorem tyR87 : rowT Try.prog 87 = some false := by kernel_rfl
theorem tyS87 : szT Try.prog 87 = some 1 := by kernel_rfl
theorem tyZ87 : zT Try.prog 87 = some [.slice none 0 0] := by kernel_rfl
theorem tyE87 : elT Try.prog 87 = some (90, 2, 40) := by kernel_rfl
theorem tyL87 : isSlT Try.prog 87 = true := by kernel_rfl
theorem tyR89 : rowT Try.prog 89 = some true := by kernel_rfl
theorem tyS89 : szT Try.prog 89 = some 2 := by kernel_rfl
theorem tyZ89 : zT Try.prog 89 = some [.string ⟨#[]⟩, .slice none 0 0] := by kernel_rfl
theorem tyF89_0 : fldT Try.prog 89 0 = some (0, 9) := by kernel_rfl
theorem tyF89_1 : fldT Try.prog 89 1 = some (1, 42) := by kernel_rfl
theorem tyB89 : bldT Try.prog 89 = some ([.string ⟨#[]⟩, .slice none 0 0], [(0, 1), (1, 1)]) := by kernel_rfl
theorem tyR90 : rowT Try.prog 90 = some true := by kernel_rfl
theorem tyS90 : szT Try.prog 90 = some 2 := by kernel_rfl
theorem tyZ90 : zT Try.prog 90 = some [.string ⟨#[]⟩, .slice none 0 0] := by kernel_rfl
theorem tyF90_0 : fldT Try.prog 90 0 = some (0, 9) := by kernel_rfl
theorem tyF90_1 : fldT Try.prog 90 1 = some (1, 42) := by kernel_rfl
theorem tyB90 : bldT Try.prog 90 = some ([.string ⟨#[]⟩, .slice none 0 0], [(0, 1), (1, 1)]) := by kernel_rfl
theorem tyR95 : rowT Try.prog 95 = some true := by kernel_rfl
theorem tyS95 : szT Try.prog 95 = some 4 := by kernel_rfl
theorem tyZ95 : zT Try.prog 95 = some [.pointer none, .pointer none, .pointer none, .string ⟨#[]⟩] := by kernel_rfl
theorem tyF95_0 : fldT Try.prog 95 0 = some (0, 17) := by kernel_rfl
theorem tyF95_1 : fldT Try.prog 95 1 = some (1, 17) := by kernel_rfl
theorem tyF95_2 : fldT Try.prog 95 2 = some (2, 17) := by kernel_rfl
theorem tyF95_3 : fldT Try.prog 95 3 = some (3, 9) := by kernel_rfl
theorem tyB95 : bldT Try.prog 95 = some ([.pointer none, .pointer none, .pointer none, .string ⟨#[]⟩], [(0, 1), (1, 1), (2, 1), (3, 1)]) := by kernel_rfl
theorem tyR97 : rowT Try.prog 97 = some true := by kernel_rfl
theorem tyS97 : szT Try.prog 97 = some 0 := by kernel_rfl
theorem tyZ97 : zT Try.prog 97 = some [] := by kernel_rfl
theorem tyA97 : arT Try.prog 97 = some (0, 16, 1) := by kernel_rfl
theorem tyR98 : rowT Try.prog 98 = some true := by kernel_rfl
theorem tyS98 : szT Try.prog 98 = some 0 := by kernel_rfl
theorem tyZ98 : zT Try.prog 98 = some [] := by kernel_rfl
theorem tyR101 : rowT Try.prog 101 = some false := by kernel_rfl
theorem tyS101 : szT Try.prog 101 = some 1 := by kernel_rfl
theorem tyZ101 : zT Try.prog 101 = some [.int .u32 0] := by kernel_rfl
theorem tyU101 : Try.prog.underlying 101 = some (.int .u32) := by kernel_rfl
theorem tyR105 : rowT Try.prog 105 = some false := by kernel_rfl
theorem tyS105 : szT Try.prog 105 = some 1 := by kernel_rfl
theorem tyZ105 : zT Try.prog 105 = some [.pointer none] := by kernel_rfl
theorem tyR108 : rowT Try.prog 108 = some true := by kernel_rfl
theorem tyS108 : szT Try.prog 108 = some 11 := by kernel_rfl
theorem tyZ108 : zT Try.prog 108 = some [.int .u64 0, .int .u64 0, .int .u32 0, .int .u8 0, .int .u8 0, .int .u8 0, .int .u8 0, .nilFunc, .pointer none, .int .i32 0, .int .i32 0] := by kernel_rfl
theorem tyF108_0 : fldT Try.prog 108 0 = some (0, 12) := by kernel_rfl
theorem tyF108_1 : fldT Try.prog 108 1 = some (1, 12) := by kernel_rfl
theorem tyF108_2 : fldT Try.prog 108 2 = some (2, 101) := by kernel_rfl
theorem tyF108_3 : fldT Try.prog 108 3 = some (3, 102) := by kernel_rfl
theorem tyF108_4 : fldT Try.prog 108 4 = some (4, 5) := by kernel_rfl
theorem tyF108_5 : fldT Try.prog 108 5 = some (5, 5) := by kernel_rfl
theorem tyF108_6 : fldT Try.prog 108 6 = some (6, 103) := by kernel_rfl
theorem tyF108_7 : fldT Try.prog 108 7 = some (7, 104) := by kernel_rfl
theorem tyF108_8 : fldT Try.prog 108 8 = some (8, 105) := by kernel_rfl
theorem tyF108_9 : fldT Try.prog 108 9 = some (9, 106) := by kernel_rfl
theorem tyF108_10 : fldT Try.prog 108 10 = some (10, 107) := by kernel_rfl
theorem tyB108 : bldT Try.prog 108 = some ([.int .u64 0, .int .u64 0, .int .u32 0, .int .u8 0, .int .u8 0, .int .u8 0, .int .u8 0, .nilFunc, .pointer none, .int .i32 0, .int .i32 0], [(0, 1), (1, 1), (2, 1), (3, 1), (4, 1), (5, 1), (6, 1), (7, 1), (8, 1), (9, 1), (10, 1)]) := by kernel_rfl
attribute [go_sem] tyR2 tyS2 tyZ2 tyU2 tyR3 tyS3 tyZ3 tyU3 tyR4 tyS4 tyZ4 tyU4 tyR5 tyS5 tyZ5 tyU5 tyR7 tyS7 tyZ7 tyF7_0 tyF7_1 tyF7_2 tyF7_3 tyB7 tyR9 tyS9 tyZ9 tyU9 tyR12 tyS12 tyZ12 tyU12 tyR13 tyS13 tyZ13 tyF13_0 tyF13_1 tyB13 tyR15 tyS15 tyZ15 tyR16 tyS16 tyZ16 tyR17 tyS17 tyZ17 tyR18 tyS18 tyZ18 tyF18_0 tyB18 tyR21 tyS21 tyZ21 tyU21 tyR22 tyS22 tyZ22 tyE22 tyL22 tyR26 tyS26 tyZ26 tyE26 tyL26 tyR42 tyS42 tyZ42 tyE42 tyL42 tyR43 tyS43 tyZ43 tyF43_0 tyF43_1 tyF43_2 tyF43_3 tyB43 tyR44 tyS44 tyZ44 tyF44_0 tyF44_1 tyF44_2 tyF44_3 tyB44 tyR46 tyS46 tyZ46 tyF46_0 tyF46_1 tyB46 tyR47 tyS47 tyZ47 tyF47_0 tyF47_1 tyB47 tyR48 tyS48 tyZ48 tyF48_0 tyF48_1 tyB48 tyR49 tyS49 tyZ49 tyF49_0 tyF49_1 tyB49 tyR50 tyS50 tyZ50 tyE50 tyL50 tyR55 tyS55 tyZ55 tyF55_0 tyF55_1 tyB55 tyR56 tyS56 tyZ56 tyF56_0 tyF56_1 tyB56 tyR57 tyS57 tyZ57 tyE57 tyL57 tyC57_9 tyR58 tyS58 tyZ58 tyE58 tyL58 tyR62 tyS62 tyZ62 tyF62_0 tyF62_1 tyB62 tyR63 tyS63 tyZ63 tyF63_0 tyF63_1 tyB63 tyR67 tyS67 tyZ67 tyE67 tyL67 tyR72 tyS72 tyA72 tyR75 tyS75 tyZ75 tyR87 tyS87 tyZ87 tyE87 tyL87 tyR89 tyS89 tyZ89 tyF89_0 tyF89_1 tyB89 tyR90 tyS90 tyZ90 tyF90_0 tyF90_1 tyB90 tyR95 tyS95 tyZ95 tyF95_0 tyF95_1 tyF95_2 tyF95_3 tyB95 tyR97 tyS97 tyZ97 tyA97 tyR98 tyS98 tyZ98 tyR101 tyS101 tyZ101 tyU101 tyR105 tyS105 tyZ105 tyR108 tyS108 tyZ108 tyF108_0 tyF108_1 tyF108_2 tyF108_3 tyF108_4 tyF108_5 tyF108_6 tyF108_7 tyF108_8 tyF108_9 tyF108_10 tyB108
end Go.Proofs.Ytllhcgfdjfmmeaa
