/- Facts on the types of this seat's program, for the abstract machine. Printed by gen_types.py. -/
import Derived.Test.YtgbhjlkenfmadaaDoorRows
import Derived.Test.YtgbhjlkenfmadaaDoorMgC
namespace Go.Proofs.YtgbhjlkenfmadaaDoor
set_option linter.unusedVariables false
set_option linter.unusedSimpArgs false
set_option maxRecDepth 100000
theorem tyR2 : rowT Tryd.prog 2 = some false := by kernel_rfl
theorem tyS2 : szT Tryd.prog 2 = some 1 := by kernel_rfl
theorem tyZ2 : zT Tryd.prog 2 = some [.int .i64 0] := by kernel_rfl
theorem tyU2 : Tryd.prog.underlying 2 = some (.int .i64) := by kernel_rfl
theorem tyR3 : rowT Tryd.prog 3 = some false := by kernel_rfl
theorem tyS3 : szT Tryd.prog 3 = some 1 := by kernel_rfl
theorem tyZ3 : zT Tryd.prog 3 = some [.int .i64 0] := by kernel_rfl
theorem tyU3 : Tryd.prog.underlying 3 = some (.int .i64) := by kernel_rfl
theorem tyR4 : rowT Tryd.prog 4 = some false := by kernel_rfl
theorem tyS4 : szT Tryd.prog 4 = some 1 := by kernel_rfl
theorem tyZ4 : zT Tryd.prog 4 = some [.bool false] := by kernel_rfl
theorem tyU4 : Tryd.prog.underlying 4 = some .bool := by kernel_rfl
theorem tyR5 : rowT Tryd.prog 5 = some false := by kernel_rfl
theorem tyS5 : szT Tryd.prog 5 = some 1 := by kernel_rfl
theorem tyZ5 : zT Tryd.prog 5 = some [.int .u8 0] := by kernel_rfl
theorem tyU5 : Tryd.prog.underlying 5 = some (.int .u8) := by kernel_rfl
theorem tyR7 : rowT Tryd.prog 7 = some true := by kernel_rfl
theorem tyS7 : szT Tryd.prog 7 = some 4 := by kernel_rfl
theorem tyZ7 : zT Tryd.prog 7 = some [.int .i64 0, .int .i64 0, .bool false, .int .u8 0] := by kernel_rfl
theorem tyF7_0 : fldT Tryd.prog 7 0 = some (0, 2) := by kernel_rfl
theorem tyF7_1 : fldT Tryd.prog 7 1 = some (1, 3) := by kernel_rfl
theorem tyF7_2 : fldT Tryd.prog 7 2 = some (2, 4) := by kernel_rfl
theorem tyF7_3 : fldT Tryd.prog 7 3 = some (3, 6) := by kernel_rfl
theorem tyB7 : bldT Tryd.prog 7 = some ([.int .i64 0, .int .i64 0, .bool false, .int .u8 0], [(0, 1), (1, 1), (2, 1), (3, 1)]) := by kernel_rfl
theorem tyR9 : rowT Tryd.prog 9 = some false := by kernel_rfl
theorem tyS9 : szT Tryd.prog 9 = some 1 := by kernel_rfl
theorem tyZ9 : zT Tryd.prog 9 = some [.string ⟨#[]⟩] := by kernel_rfl
theorem tyU9 : Tryd.prog.underlying 9 = some .string := by kernel_rfl
theorem tyR12 : rowT Tryd.prog 12 = some false := by kernel_rfl
theorem tyS12 : szT Tryd.prog 12 = some 1 := by kernel_rfl
theorem tyZ12 : zT Tryd.prog 12 = some [.int .u64 0] := by kernel_rfl
theorem tyU12 : Tryd.prog.underlying 12 = some (.int .u64) := by kernel_rfl
theorem tyR13 : rowT Tryd.prog 13 = some true := by kernel_rfl
theorem tyS13 : szT Tryd.prog 13 = some 2 := by kernel_rfl
theorem tyZ13 : zT Tryd.prog 13 = some [.string ⟨#[]⟩, .int .u64 0] := by kernel_rfl
theorem tyF13_0 : fldT Tryd.prog 13 0 = some (0, 9) := by kernel_rfl
theorem tyF13_1 : fldT Tryd.prog 13 1 = some (1, 12) := by kernel_rfl
theorem tyB13 : bldT Tryd.prog 13 = some ([.string ⟨#[]⟩, .int .u64 0], [(0, 1), (1, 1)]) := by kernel_rfl
theorem tyR15 : rowT Tryd.prog 15 = some false := by kernel_rfl
theorem tyS15 : szT Tryd.prog 15 = some 1 := by kernel_rfl
theorem tyZ15 : zT Tryd.prog 15 = some [.pointer none] := by kernel_rfl
theorem tyR16 : rowT Tryd.prog 16 = some false := by kernel_rfl
theorem tyS16 : szT Tryd.prog 16 = some 1 := by kernel_rfl
theorem tyZ16 : zT Tryd.prog 16 = some [.pointer none] := by kernel_rfl
theorem tyR17 : rowT Tryd.prog 17 = some false := by kernel_rfl
theorem tyS17 : szT Tryd.prog 17 = some 1 := by kernel_rfl
theorem tyZ17 : zT Tryd.prog 17 = some [.pointer none] := by kernel_rfl
theorem tyR18 : rowT Tryd.prog 18 = some true := by kernel_rfl
theorem tyS18 : szT Tryd.prog 18 = some 1 := by kernel_rfl
theorem tyZ18 : zT Tryd.prog 18 = some [.pointer none] := by kernel_rfl
theorem tyF18_0 : fldT Tryd.prog 18 0 = some (0, 17) := by kernel_rfl
theorem tyB18 : bldT Tryd.prog 18 = some ([.pointer none], [(0, 1)]) := by kernel_rfl
theorem tyR21 : rowT Tryd.prog 21 = some false := by kernel_rfl
theorem tyS21 : szT Tryd.prog 21 = some 1 := by kernel_rfl
theorem tyZ21 : zT Tryd.prog 21 = some [.int .i32 0] := by kernel_rfl
theorem tyU21 : Tryd.prog.underlying 21 = some (.int .i32) := by kernel_rfl
theorem tyR22 : rowT Tryd.prog 22 = some false := by kernel_rfl
theorem tyS22 : szT Tryd.prog 22 = some 1 := by kernel_rfl
theorem tyZ22 : zT Tryd.prog 22 = some [.slice none 0 0] := by kernel_rfl
theorem tyE22 : elT Tryd.prog 22 = some (9, 1, 16) := by kernel_rfl
theorem tyL22 : isSlT Tryd.prog 22 = true := by kernel_rfl
theorem tyR23 : rowT Tryd.prog 23 = some true := by kernel_rfl
theorem tyS23 : szT Tryd.prog 23 = some 2 := by kernel_rfl
theorem tyZ23 : zT Tryd.prog 23 = some [.int .i64 0, .slice none 0 0] := by kernel_rfl
theorem tyF23_0 : fldT Tryd.prog 23 0 = some (0, 3) := by kernel_rfl
theorem tyF23_1 : fldT Tryd.prog 23 1 = some (1, 22) := by kernel_rfl
theorem tyB23 : bldT Tryd.prog 23 = some ([.int .i64 0, .slice none 0 0], [(0, 1), (1, 1)]) := by kernel_rfl
theorem tyR24 : rowT Tryd.prog 24 = some true := by kernel_rfl
theorem tyS24 : szT Tryd.prog 24 = some 2 := by kernel_rfl
theorem tyZ24 : zT Tryd.prog 24 = some [.int .i64 0, .slice none 0 0] := by kernel_rfl
theorem tyF24_0 : fldT Tryd.prog 24 0 = some (0, 3) := by kernel_rfl
theorem tyF24_1 : fldT Tryd.prog 24 1 = some (1, 22) := by kernel_rfl
theorem tyB24 : bldT Tryd.prog 24 = some ([.int .i64 0, .slice none 0 0], [(0, 1), (1, 1)]) := by kernel_rfl
theorem tyR28 : rowT Tryd.prog 28 = some false := by kernel_rfl
theorem tyS28 : szT Tryd.prog 28 = some 1 := by kernel_rfl
theorem tyZ28 : zT Tryd.prog 28 = some [.int .i64 0] := by kernel_rfl
theorem tyU28 : Tryd.prog.underlying 28 = some (.int .i64) := by kernel_rfl
theorem tyR38 : rowT Tryd.prog 38 = some true := by kernel_rfl
theorem tyS38 : szT Tryd.prog 38 = some 4 := by kernel_rfl
theorem tyZ38 : zT Tryd.prog 38 = some [.int .i64 0, .slice none 0 0, .string ⟨#[]⟩, .bool false] := by kernel_rfl
theorem tyF38_0 : fldT Tryd.prog 38 0 = some (0, 24) := by kernel_rfl
theorem tyF38_1 : fldT Tryd.prog 38 1 = some (2, 9) := by kernel_rfl
theorem tyF38_2 : fldT Tryd.prog 38 2 = some (3, 4) := by kernel_rfl
theorem tyB38 : bldT Tryd.prog 38 = some ([.int .i64 0, .slice none 0 0, .string ⟨#[]⟩, .bool false], [(0, 2), (2, 1), (3, 1)]) := by kernel_rfl
theorem tyR39 : rowT Tryd.prog 39 = some true := by kernel_rfl
theorem tyS39 : szT Tryd.prog 39 = some 4 := by kernel_rfl
theorem tyZ39 : zT Tryd.prog 39 = some [.int .i64 0, .slice none 0 0, .string ⟨#[]⟩, .bool false] := by kernel_rfl
theorem tyF39_0 : fldT Tryd.prog 39 0 = some (0, 24) := by kernel_rfl
theorem tyF39_1 : fldT Tryd.prog 39 1 = some (2, 9) := by kernel_rfl
theorem tyF39_2 : fldT Tryd.prog 39 2 = some (3, 4) := by kernel_rfl
theorem tyB39 : bldT Tryd.prog 39 = some ([.int .i64 0, .slice none 0 0, .string ⟨#[]⟩, .bool false], [(0, 2), (2, 1), (3, 1)]) := by kernel_rfl
theorem tyR43 : rowT Tryd.prog 43 = some false := by kernel_rfl
theorem tyS43 : szT Tryd.prog 43 = some 1 := by kernel_rfl
theorem tyZ43 : zT Tryd.prog 43 = some [.slice none 0 0] := by kernel_rfl
theorem tyE43 : elT Tryd.prog 43 = some (49, 4, 40) := by kernel_rfl
theorem tyL43 : isSlT Tryd.prog 43 = true := by kernel_rfl
theorem tyR48 : rowT Tryd.prog 48 = some true := by kernel_rfl
theorem tyS48 : szT Tryd.prog 48 = some 4 := by kernel_rfl
theorem tyZ48 : zT Tryd.prog 48 = some [.int .i64 0, .int .i64 0, .int .i64 0, .string ⟨#[]⟩] := by kernel_rfl
theorem tyF48_0 : fldT Tryd.prog 48 0 = some (0, 3) := by kernel_rfl
theorem tyF48_1 : fldT Tryd.prog 48 1 = some (1, 3) := by kernel_rfl
theorem tyF48_2 : fldT Tryd.prog 48 2 = some (2, 3) := by kernel_rfl
theorem tyF48_3 : fldT Tryd.prog 48 3 = some (3, 9) := by kernel_rfl
theorem tyB48 : bldT Tryd.prog 48 = some ([.int .i64 0, .int .i64 0, .int .i64 0, .string ⟨#[]⟩], [(0, 1), (1, 1), (2, 1), (3, 1)]) := by kernel_rfl
theorem tyR49 : rowT Tryd.prog 49 = some true := by kernel_rfl
theorem tyS49 : szT Tryd.prog 49 = some 4 := by kernel_rfl
theorem tyZ49 : zT Tryd.prog 49 = some [.int .i64 0, .int .i64 0, .int .i64 0, .string ⟨#[]⟩] := by kernel_rfl
theorem tyF49_0 : fldT Tryd.prog 49 0 = some (0, 3) := by kernel_rfl
theorem tyF49_1 : fldT Tryd.prog 49 1 = some (1, 3) := by kernel_rfl
theorem tyF49_2 : fldT Tryd.prog 49 2 = some (2, 3) := by kernel_rfl
theorem tyF49_3 : fldT Tryd.prog 49 3 = some (3, 9) := by kernel_rfl
theorem tyB49 : bldT Tryd.prog 49 = some ([.int .i64 0, .int .i64 0, .int .i64 0, .string ⟨#[]⟩], [(0, 1), (1, 1), (2, 1), (3, 1)]) := by kernel_rfl
theorem tyR51 : rowT Tryd.prog 51 = some false := by kernel_rfl
theorem tyS51 : szT Tryd.prog 51 = some 1 := by kernel_rfl
theorem tyZ51 : zT Tryd.prog 51 = some [.pointer none] := by kernel_rfl
theorem tyR55 : rowT Tryd.prog 55 = some false := by kernel_rfl
theorem tyS55 : szT Tryd.prog 55 = some 1 := by kernel_rfl
theorem tyZ55 : zT Tryd.prog 55 = some [.pointer none] := by kernel_rfl
theorem tyR56 : rowT Tryd.prog 56 = some false := by kernel_rfl
theorem tyS56 : szT Tryd.prog 56 = some 1 := by kernel_rfl
theorem tyZ56 : zT Tryd.prog 56 = some [.slice none 0 0] := by kernel_rfl
theorem tyE56 : elT Tryd.prog 56 = some (5, 1, 1) := by kernel_rfl
theorem tyL56 : isSlT Tryd.prog 56 = true := by kernel_rfl
theorem tyC56_9 : bsT Tryd.prog 56 9 = true := by kernel_rfl
theorem tyR57 : rowT Tryd.prog 57 = some true := by kernel_rfl
theorem tyS57 : szT Tryd.prog 57 = some 2 := by kernel_rfl
theorem tyZ57 : zT Tryd.prog 57 = some [.pointer none, .slice none 0 0] := by kernel_rfl
theorem tyF57_0 : fldT Tryd.prog 57 0 = some (0, 55) := by kernel_rfl
theorem tyF57_1 : fldT Tryd.prog 57 1 = some (1, 56) := by kernel_rfl
theorem tyB57 : bldT Tryd.prog 57 = some ([.pointer none, .slice none 0 0], [(0, 1), (1, 1)]) := by kernel_rfl
theorem tyR58 : rowT Tryd.prog 58 = some true := by kernel_rfl
theorem tyS58 : szT Tryd.prog 58 = some 2 := by kernel_rfl
theorem tyZ58 : zT Tryd.prog 58 = some [.pointer none, .slice none 0 0] := by kernel_rfl
theorem tyF58_0 : fldT Tryd.prog 58 0 = some (0, 55) := by kernel_rfl
theorem tyF58_1 : fldT Tryd.prog 58 1 = some (1, 56) := by kernel_rfl
theorem tyB58 : bldT Tryd.prog 58 = some ([.pointer none, .slice none 0 0], [(0, 1), (1, 1)]) := by kernel_rfl
theorem tyR70 : rowT Tryd.prog 70 = some false := by kernel_rfl
theorem tyS70 : szT Tryd.prog 70 = some 1 := by kernel_rfl
theorem tyZ70 : zT Tryd.prog 70 = some [.slice none 0 0] := by kernel_rfl
theorem tyE70 : elT Tryd.prog 70 = some (72, 2, 16) := by kernel_rfl
theorem tyL70 : isSlT Tryd.prog 70 = true := by kernel_rfl
theorem tyR71 : rowT Tryd.prog 71 = some true := by kernel_rfl
theorem tyS71 : szT Tryd.prog 71 = some 2 := by kernel_rfl
theorem tyZ71 : zT Tryd.prog 71 = some [.int .i64 0, .int .i64 0] := by kernel_rfl
theorem tyF71_0 : fldT Tryd.prog 71 0 = some (0, 3) := by kernel_rfl
theorem tyF71_1 : fldT Tryd.prog 71 1 = some (1, 3) := by kernel_rfl
theorem tyB71 : bldT Tryd.prog 71 = some ([.int .i64 0, .int .i64 0], [(0, 1), (1, 1)]) := by kernel_rfl
theorem tyR72 : rowT Tryd.prog 72 = some true := by kernel_rfl
theorem tyS72 : szT Tryd.prog 72 = some 2 := by kernel_rfl
theorem tyZ72 : zT Tryd.prog 72 = some [.int .i64 0, .int .i64 0] := by kernel_rfl
theorem tyF72_0 : fldT Tryd.prog 72 0 = some (0, 3) := by kernel_rfl
theorem tyF72_1 : fldT Tryd.prog 72 1 = some (1, 3) := by kernel_rfl
theorem tyB72 : bldT Tryd.prog 72 = some ([.int .i64 0, .int .i64 0], [(0, 1), (1, 1)]) := by kernel_rfl
theorem tyR79 : rowT Tryd.prog 79 = some false := by kernel_rfl
theorem tyS79 : szT Tryd.prog 79 = some 1 := by kernel_rfl
theorem tyZ79 : zT Tryd.prog 79 = some [.pointer none] := by kernel_rfl
theorem tyR86 : rowT Tryd.prog 86 = some true := by kernel_rfl
theorem tyS86 : szT Tryd.prog 86 = some 2 := by kernel_rfl
theorem tyZ86 : zT Tryd.prog 86 = some [.bool false, .bool false] := by kernel_rfl
theorem tyF86_0 : fldT Tryd.prog 86 0 = some (0, 4) := by kernel_rfl
theorem tyF86_1 : fldT Tryd.prog 86 1 = some (1, 4) := by kernel_rfl
theorem tyB86 : bldT Tryd.prog 86 = some ([.bool false, .bool false], [(0, 1), (1, 1)]) := by kernel_rfl
theorem tyR87 : rowT Tryd.prog 87 = some true := by kernel_rfl
theorem tyS87 : szT Tryd.prog 87 = some 2 := by kernel_rfl
theorem tyZ87 : zT Tryd.prog 87 = some [.bool false, .bool false] := by kernel_rfl
theorem tyF87_0 : fldT Tryd.prog 87 0 = some (0, 4) := by kernel_rfl
theorem tyF87_1 : fldT Tryd.prog 87 1 = some (1, 4) := by kernel_rfl
theorem tyB87 : bldT Tryd.prog 87 = some ([.bool false, .bool false], [(0, 1), (1, 1)]) := by kernel_rfl
theorem tyR105 : rowT Tryd.prog 105 = some false := by kernel_rfl
theorem tyS105 : szT Tryd.prog 105 = some 1 := by kernel_rfl
theorem tyZ105 : zT Tryd.prog 105 = some [.int .u64 0] := by kernel_rfl
theorem tyU105 : Tryd.prog.underlying 105 = some (.int .u64) := by kernel_rfl
theorem tyR107 : rowT Tryd.prog 107 = some true := by kernel_rfl
theorem tyS107 : szT Tryd.prog 107 = some 256 := by kernel_rfl
theorem tyA107 : arT Tryd.prog 107 = some (256, 5, 1) := by kernel_rfl
theorem tyR108 : rowT Tryd.prog 108 = some true := by kernel_rfl
theorem tyS108 : szT Tryd.prog 108 = some 2 := by kernel_rfl
theorem tyZ108 : zT Tryd.prog 108 = some [.int .u8 0, .int .u8 0] := by kernel_rfl
theorem tyF108_0 : fldT Tryd.prog 108 0 = some (0, 5) := by kernel_rfl
theorem tyF108_1 : fldT Tryd.prog 108 1 = some (1, 5) := by kernel_rfl
theorem tyB108 : bldT Tryd.prog 108 = some ([.int .u8 0, .int .u8 0], [(0, 1), (1, 1)]) := by kernel_rfl
theorem tyR109 : rowT Tryd.prog 109 = some true := by kernel_rfl
theorem tyS109 : szT Tryd.prog 109 = some 2 := by kernel_rfl
theorem tyZ109 : zT Tryd.prog 109 = some [.int .u8 0, .int .u8 0] := by kernel_rfl
theorem tyF109_0 : fldT Tryd.prog 109 0 = some (0, 5) := by kernel_rfl
theorem tyF109_1 : fldT Tryd.prog 109 1 = some (1, 5) := by kernel_rfl
theorem tyB109 : bldT Tryd.prog 109 = some ([.int .u8 0, .int .u8 0], [(0, 1), (1, 1)]) := by kernel_rfl
theorem tyR110 : rowT Tryd.prog 110 = some true := by kernel_rfl
theorem tyS110 : szT Tryd.prog 110 = some 32 := by kernel_rfl
theorem tyZ110 : zT Tryd.prog 110 = some [.int .u8 0, .int .u8 0, .int .u8 0, .int .u8 0, .int .u8 0, .int .u8 0, .int .u8 0, .int .u8 0, .int .u8 0, .int .u8 0, .int .u8 0, .int .u8 0, .int .u8 0, .int .u8 0, .int .u8 0, .int .u8 0, .int .u8 0, .int .u8 0, .int .u8 0, .int .u8 0, .int .u8 0, .int .u8 0, .int .u8 0, .int .u8 0, .int .u8 0, .int .u8 0, .int .u8 0, .int .u8 0, .int .u8 0, .int .u8 0, .int .u8 0, .int .u8 0] := by kernel_rfl
theorem tyA110 : arT Tryd.prog 110 = some (16, 109, 2) := by kernel_rfl
theorem tyR114 : rowT Tryd.prog 114 = some false := by kernel_rfl
theorem tyS114 : szT Tryd.prog 114 = some 1 := by kernel_rfl
theorem tyZ114 : zT Tryd.prog 114 = some [.int .u32 0] := by kernel_rfl
theorem tyU114 : Tryd.prog.underlying 114 = some (.int .u32) := by kernel_rfl
theorem tyR119 : rowT Tryd.prog 119 = some true := by kernel_rfl
theorem tyS119 : szT Tryd.prog 119 = some 4 := by kernel_rfl
theorem tyZ119 : zT Tryd.prog 119 = some [.pointer none, .pointer none, .pointer none, .string ⟨#[]⟩] := by kernel_rfl
theorem tyF119_0 : fldT Tryd.prog 119 0 = some (0, 17) := by kernel_rfl
theorem tyF119_1 : fldT Tryd.prog 119 1 = some (1, 17) := by kernel_rfl
theorem tyF119_2 : fldT Tryd.prog 119 2 = some (2, 17) := by kernel_rfl
theorem tyF119_3 : fldT Tryd.prog 119 3 = some (3, 9) := by kernel_rfl
theorem tyB119 : bldT Tryd.prog 119 = some ([.pointer none, .pointer none, .pointer none, .string ⟨#[]⟩], [(0, 1), (1, 1), (2, 1), (3, 1)]) := by kernel_rfl
theorem tyR121 : rowT Tryd.prog 121 = some true := by kernel_rfl
theorem tyS121 : szT Tryd.prog 121 = some 0 := by kernel_rfl
theorem tyZ121 : zT Tryd.prog 121 = some [] := by kernel_rfl
theorem tyA121 : arT Tryd.prog 121 = some (0, 16, 1) := by kernel_rfl
theorem tyR122 : rowT Tryd.prog 122 = some true := by kernel_rfl
theorem tyS122 : szT Tryd.prog 122 = some 0 := by kernel_rfl
theorem tyZ122 : zT Tryd.prog 122 = some [] := by kernel_rfl
theorem tyR130 : rowT Tryd.prog 130 = some true := by kernel_rfl
theorem tyS130 : szT Tryd.prog 130 = some 11 := by kernel_rfl
theorem tyZ130 : zT Tryd.prog 130 = some [.int .u64 0, .int .u64 0, .int .u32 0, .int .u8 0, .int .u8 0, .int .u8 0, .int .u8 0, .nilFunc, .pointer none, .int .i32 0, .int .i32 0] := by kernel_rfl
theorem tyF130_0 : fldT Tryd.prog 130 0 = some (0, 12) := by kernel_rfl
theorem tyF130_1 : fldT Tryd.prog 130 1 = some (1, 12) := by kernel_rfl
theorem tyF130_2 : fldT Tryd.prog 130 2 = some (2, 114) := by kernel_rfl
theorem tyF130_3 : fldT Tryd.prog 130 3 = some (3, 125) := by kernel_rfl
theorem tyF130_4 : fldT Tryd.prog 130 4 = some (4, 5) := by kernel_rfl
theorem tyF130_5 : fldT Tryd.prog 130 5 = some (5, 5) := by kernel_rfl
theorem tyF130_6 : fldT Tryd.prog 130 6 = some (6, 126) := by kernel_rfl
theorem tyF130_7 : fldT Tryd.prog 130 7 = some (7, 127) := by kernel_rfl
theorem tyF130_8 : fldT Tryd.prog 130 8 = some (8, 79) := by kernel_rfl
theorem tyF130_9 : fldT Tryd.prog 130 9 = some (9, 128) := by kernel_rfl
theorem tyF130_10 : fldT Tryd.prog 130 10 = some (10, 129) := by kernel_rfl
theorem tyB130 : bldT Tryd.prog 130 = some ([.int .u64 0, .int .u64 0, .int .u32 0, .int .u8 0, .int .u8 0, .int .u8 0, .int .u8 0, .nilFunc, .pointer none, .int .i32 0, .int .i32 0], [(0, 1), (1, 1), (2, 1), (3, 1), (4, 1), (5, 1), (6, 1), (7, 1), (8, 1), (9, 1), (10, 1)]) := by kernel_rfl
attribute [go_sem] tyR2 tyS2 tyZ2 tyU2 tyR3 tyS3 tyZ3 tyU3 tyR4 tyS4 tyZ4 tyU4 tyR5 tyS5 tyZ5 tyU5 tyR7 tyS7 tyZ7 tyF7_0 tyF7_1 tyF7_2 tyF7_3 tyB7 tyR9 tyS9 tyZ9 tyU9 tyR12 tyS12 tyZ12 tyU12 tyR13 tyS13 tyZ13 tyF13_0 tyF13_1 tyB13 tyR15 tyS15 tyZ15 tyR16 tyS16 tyZ16 tyR17 tyS17 tyZ17 tyR18 tyS18 tyZ18 tyF18_0 tyB18 tyR21 tyS21 tyZ21 tyU21 tyR22 tyS22 tyZ22 tyE22 tyL22 tyR23 tyS23 tyZ23 tyF23_0 tyF23_1 tyB23 tyR24 tyS24 tyZ24 tyF24_0 tyF24_1 tyB24 tyR28 tyS28 tyZ28 tyU28 tyR38 tyS38 tyZ38 tyF38_0 tyF38_1 tyF38_2 tyB38 tyR39 tyS39 tyZ39 tyF39_0 tyF39_1 tyF39_2 tyB39 tyR43 tyS43 tyZ43 tyE43 tyL43 tyR48 tyS48 tyZ48 tyF48_0 tyF48_1 tyF48_2 tyF48_3 tyB48 tyR49 tyS49 tyZ49 tyF49_0 tyF49_1 tyF49_2 tyF49_3 tyB49 tyR51 tyS51 tyZ51 tyR55 tyS55 tyZ55 tyR56 tyS56 tyZ56 tyE56 tyL56 tyC56_9 tyR57 tyS57 tyZ57 tyF57_0 tyF57_1 tyB57 tyR58 tyS58 tyZ58 tyF58_0 tyF58_1 tyB58 tyR70 tyS70 tyZ70 tyE70 tyL70 tyR71 tyS71 tyZ71 tyF71_0 tyF71_1 tyB71 tyR72 tyS72 tyZ72 tyF72_0 tyF72_1 tyB72 tyR79 tyS79 tyZ79 tyR86 tyS86 tyZ86 tyF86_0 tyF86_1 tyB86 tyR87 tyS87 tyZ87 tyF87_0 tyF87_1 tyB87 tyR105 tyS105 tyZ105 tyU105 tyR107 tyS107 tyA107 tyR108 tyS108 tyZ108 tyF108_0 tyF108_1 tyB108 tyR109 tyS109 tyZ109 tyF109_0 tyF109_1 tyB109 tyR110 tyS110 tyZ110 tyA110 tyR114 tyS114 tyZ114 tyU114 tyR119 tyS119 tyZ119 tyF119_0 tyF119_1 tyF119_2 tyF119_3 tyB119 tyR121 tyS121 tyZ121 tyA121 tyR122 tyS122 tyZ122 tyR130 tyS130 tyZ130 tyF130_0 tyF130_1 tyF130_2 tyF130_3 tyF130_4 tyF130_5 tyF130_6 tyF130_7 tyF130_8 tyF130_9 tyF130_10 tyB130
end Go.Proofs.YtgbhjlkenfmadaaDoor
