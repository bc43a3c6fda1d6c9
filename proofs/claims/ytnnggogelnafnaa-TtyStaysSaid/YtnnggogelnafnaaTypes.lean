/- Facts on the types of this seat's program, for the abstract machine. Printed by gen_types.py. -/
import Derived.Test.YtnnggogelnafnaaRows
import Derived.Test.YtnnggogelnafnaaMachU
namespace Go.Proofs.Ytnnggogelnafnaa
set_option linter.unusedVariables false
set_option linter.unusedSimpArgs false
set_option maxRecDepth 100000
theorem tyR2 : rowT Try.prog 2 = some false := by kernel_rfl
theorem tyS2 : szT Try.prog 2 = some 1 := by kernel_rfl
theorem tyZ2 : zT Try.prog 2 = some [.int .i64 0] := by kernel_rfl
theorem tyU2 : Try.prog.underlying 2 = some (.int .i64) := by kernel_rfl
theorem tyR3 : rowT Try.prog 3 = some false := by kernel_rfl
theorem tyS3 : szT Try.prog 3 = some 1 := by kernel_rfl
theorem tyZ3 : zT Try.prog 3 = some [.int .i64 0] := by kernel_rfl
theorem tyU3 : Try.prog.underlying 3 = some (.int .i64) := by kernel_rfl
theorem tyR4 : rowT Try.prog 4 = some false := by kernel_rfl
theorem tyS4 : szT Try.prog 4 = some 1 := by kernel_rfl
theorem tyZ4 : zT Try.prog 4 = some [.bool false] := by kernel_rfl
theorem tyU4 : Try.prog.underlying 4 = some .bool := by kernel_rfl
theorem tyR5 : rowT Try.prog 5 = some false := by kernel_rfl
theorem tyS5 : szT Try.prog 5 = some 1 := by kernel_rfl
theorem tyZ5 : zT Try.prog 5 = some [.int .u8 0] := by kernel_rfl
theorem tyU5 : Try.prog.underlying 5 = some (.int .u8) := by kernel_rfl
theorem tyR7 : rowT Try.prog 7 = some true := by kernel_rfl
theorem tyS7 : szT Try.prog 7 = some 4 := by kernel_rfl
theorem tyZ7 : zT Try.prog 7 = some [.int .i64 0, .int .i64 0, .bool false, .int .u8 0] := by kernel_rfl
theorem tyF7_0 : fldT Try.prog 7 0 = some (0, 2) := by kernel_rfl
theorem tyF7_1 : fldT Try.prog 7 1 = some (1, 3) := by kernel_rfl
theorem tyF7_2 : fldT Try.prog 7 2 = some (2, 4) := by kernel_rfl
theorem tyF7_3 : fldT Try.prog 7 3 = some (3, 6) := by kernel_rfl
theorem tyB7 : bldT Try.prog 7 = some ([.int .i64 0, .int .i64 0, .bool false, .int .u8 0], [(0, 1), (1, 1), (2, 1), (3, 1)]) := by kernel_rfl
theorem tyR9 : rowT Try.prog 9 = some false := by kernel_rfl
theorem tyS9 : szT Try.prog 9 = some 1 := by kernel_rfl
theorem tyZ9 : zT Try.prog 9 = some [.string ⟨#[]⟩] := by kernel_rfl
theorem tyU9 : Try.prog.underlying 9 = some .string := by kernel_rfl
theorem tyR12 : rowT Try.prog 12 = some false := by kernel_rfl
theorem tyS12 : szT Try.prog 12 = some 1 := by kernel_rfl
theorem tyZ12 : zT Try.prog 12 = some [.int .u64 0] := by kernel_rfl
theorem tyU12 : Try.prog.underlying 12 = some (.int .u64) := by kernel_rfl
theorem tyR13 : rowT Try.prog 13 = some true := by kernel_rfl
theorem tyS13 : szT Try.prog 13 = some 2 := by kernel_rfl
theorem tyZ13 : zT Try.prog 13 = some [.string ⟨#[]⟩, .int .u64 0] := by kernel_rfl
theorem tyF13_0 : fldT Try.prog 13 0 = some (0, 9) := by kernel_rfl
theorem tyF13_1 : fldT Try.prog 13 1 = some (1, 12) := by kernel_rfl
theorem tyB13 : bldT Try.prog 13 = some ([.string ⟨#[]⟩, .int .u64 0], [(0, 1), (1, 1)]) := by kernel_rfl
theorem tyR15 : rowT Try.prog 15 = some false := by kernel_rfl
theorem tyS15 : szT Try.prog 15 = some 1 := by kernel_rfl
theorem tyZ15 : zT Try.prog 15 = some [.pointer none] := by kernel_rfl
theorem tyR16 : rowT Try.prog 16 = some false := by kernel_rfl
theorem tyS16 : szT Try.prog 16 = some 1 := by kernel_rfl
theorem tyZ16 : zT Try.prog 16 = some [.pointer none] := by kernel_rfl
theorem tyR17 : rowT Try.prog 17 = some false := by kernel_rfl
theorem tyS17 : szT Try.prog 17 = some 1 := by kernel_rfl
theorem tyZ17 : zT Try.prog 17 = some [.pointer none] := by kernel_rfl
theorem tyR18 : rowT Try.prog 18 = some true := by kernel_rfl
theorem tyS18 : szT Try.prog 18 = some 1 := by kernel_rfl
theorem tyZ18 : zT Try.prog 18 = some [.pointer none] := by kernel_rfl
theorem tyF18_0 : fldT Try.prog 18 0 = some (0, 17) := by kernel_rfl
theorem tyB18 : bldT Try.prog 18 = some ([.pointer none], [(0, 1)]) := by kernel_rfl
theorem tyR21 : rowT Try.prog 21 = some false := by kernel_rfl
theorem tyS21 : szT Try.prog 21 = some 1 := by kernel_rfl
theorem tyZ21 : zT Try.prog 21 = some [.int .i32 0] := by kernel_rfl
theorem tyU21 : Try.prog.underlying 21 = some (.int .i32) := by kernel_rfl
theorem tyR22 : rowT Try.prog 22 = some false := by kernel_rfl
theorem tyS22 : szT Try.prog 22 = some 1 := by kernel_rfl
theorem tyZ22 : zT Try.prog 22 = some [.slice none 0 0] := by kernel_rfl
theorem tyE22 : elT Try.prog 22 = some (9, 1, 16) := by kernel_rfl
theorem tyL22 : isSlT Try.prog 22 = true := by kernel_rfl
theorem tyR23 : rowT Try.prog 23 = some true := by kernel_rfl
theorem tyS23 : szT Try.prog 23 = some 6 := by kernel_rfl
theorem tyZ23 : zT Try.prog 23 = some [.int .i64 0, .int .i64 0, .string ⟨#[]⟩, .slice none 0 0, .string ⟨#[]⟩, .bool false] := by kernel_rfl
theorem tyF23_0 : fldT Try.prog 23 0 = some (0, 3) := by kernel_rfl
theorem tyF23_1 : fldT Try.prog 23 1 = some (1, 3) := by kernel_rfl
theorem tyF23_2 : fldT Try.prog 23 2 = some (2, 9) := by kernel_rfl
theorem tyF23_3 : fldT Try.prog 23 3 = some (3, 22) := by kernel_rfl
theorem tyF23_4 : fldT Try.prog 23 4 = some (4, 9) := by kernel_rfl
theorem tyF23_5 : fldT Try.prog 23 5 = some (5, 4) := by kernel_rfl
theorem tyB23 : bldT Try.prog 23 = some ([.int .i64 0, .int .i64 0, .string ⟨#[]⟩, .slice none 0 0, .string ⟨#[]⟩, .bool false], [(0, 1), (1, 1), (2, 1), (3, 1), (4, 1), (5, 1)]) := by kernel_rfl
theorem tyR24 : rowT Try.prog 24 = some true := by kernel_rfl
theorem tyS24 : szT Try.prog 24 = some 6 := by kernel_rfl
theorem tyZ24 : zT Try.prog 24 = some [.int .i64 0, .int .i64 0, .string ⟨#[]⟩, .slice none 0 0, .string ⟨#[]⟩, .bool false] := by kernel_rfl
theorem tyF24_0 : fldT Try.prog 24 0 = some (0, 3) := by kernel_rfl
theorem tyF24_1 : fldT Try.prog 24 1 = some (1, 3) := by kernel_rfl
theorem tyF24_2 : fldT Try.prog 24 2 = some (2, 9) := by kernel_rfl
theorem tyF24_3 : fldT Try.prog 24 3 = some (3, 22) := by kernel_rfl
theorem tyF24_4 : fldT Try.prog 24 4 = some (4, 9) := by kernel_rfl
theorem tyF24_5 : fldT Try.prog 24 5 = some (5, 4) := by kernel_rfl
theorem tyB24 : bldT Try.prog 24 = some ([.int .i64 0, .int .i64 0, .string ⟨#[]⟩, .slice none 0 0, .string ⟨#[]⟩, .bool false], [(0, 1), (1, 1), (2, 1), (3, 1), (4, 1), (5, 1)]) := by kernel_rfl
theorem tyR34 : rowT Try.prog 34 = some false := by kernel_rfl
theorem tyS34 : szT Try.prog 34 = some 1 := by kernel_rfl
theorem tyZ34 : zT Try.prog 34 = some [.slice none 0 0] := by kernel_rfl
theorem tyE34 : elT Try.prog 34 = some (3, 1, 8) := by kernel_rfl
theorem tyL34 : isSlT Try.prog 34 = true := by kernel_rfl
theorem tyR43 : rowT Try.prog 43 = some false := by kernel_rfl
theorem tyS43 : szT Try.prog 43 = some 1 := by kernel_rfl
theorem tyZ43 : zT Try.prog 43 = some [.int .i64 0] := by kernel_rfl
theorem tyU43 : Try.prog.underlying 43 = some (.int .i64) := by kernel_rfl
theorem tyR45 : rowT Try.prog 45 = some false := by kernel_rfl
theorem tyS45 : szT Try.prog 45 = some 1 := by kernel_rfl
theorem tyZ45 : zT Try.prog 45 = some [.slice none 0 0] := by kernel_rfl
theorem tyE45 : elT Try.prog 45 = some (47, 3, 32) := by kernel_rfl
theorem tyL45 : isSlT Try.prog 45 = true := by kernel_rfl
theorem tyR46 : rowT Try.prog 46 = some true := by kernel_rfl
theorem tyS46 : szT Try.prog 46 = some 3 := by kernel_rfl
theorem tyZ46 : zT Try.prog 46 = some [.int .i64 0, .int .i64 0, .string ⟨#[]⟩] := by kernel_rfl
theorem tyF46_0 : fldT Try.prog 46 0 = some (0, 3) := by kernel_rfl
theorem tyF46_1 : fldT Try.prog 46 1 = some (1, 3) := by kernel_rfl
theorem tyF46_2 : fldT Try.prog 46 2 = some (2, 9) := by kernel_rfl
theorem tyB46 : bldT Try.prog 46 = some ([.int .i64 0, .int .i64 0, .string ⟨#[]⟩], [(0, 1), (1, 1), (2, 1)]) := by kernel_rfl
theorem tyR47 : rowT Try.prog 47 = some true := by kernel_rfl
theorem tyS47 : szT Try.prog 47 = some 3 := by kernel_rfl
theorem tyZ47 : zT Try.prog 47 = some [.int .i64 0, .int .i64 0, .string ⟨#[]⟩] := by kernel_rfl
theorem tyF47_0 : fldT Try.prog 47 0 = some (0, 3) := by kernel_rfl
theorem tyF47_1 : fldT Try.prog 47 1 = some (1, 3) := by kernel_rfl
theorem tyF47_2 : fldT Try.prog 47 2 = some (2, 9) := by kernel_rfl
theorem tyB47 : bldT Try.prog 47 = some ([.int .i64 0, .int .i64 0, .string ⟨#[]⟩], [(0, 1), (1, 1), (2, 1)]) := by kernel_rfl
theorem tyR53 : rowT Try.prog 53 = some false := by kernel_rfl
theorem tyS53 : szT Try.prog 53 = some 1 := by kernel_rfl
theorem tyZ53 : zT Try.prog 53 = some [.pointer none] := by kernel_rfl
theorem tyR55 : rowT Try.prog 55 = some false := by kernel_rfl
theorem tyS55 : szT Try.prog 55 = some 1 := by kernel_rfl
theorem tyZ55 : zT Try.prog 55 = some [.slice none 0 0] := by kernel_rfl
theorem tyE55 : elT Try.prog 55 = some (5, 1, 1) := by kernel_rfl
theorem tyL55 : isSlT Try.prog 55 = true := by kernel_rfl
theorem tyC55_9 : bsT Try.prog 55 9 = true := by kernel_rfl
theorem tyR59 : rowT Try.prog 59 = some true := by kernel_rfl
theorem tyS59 : szT Try.prog 59 = some 4 := by kernel_rfl
theorem tyZ59 : zT Try.prog 59 = some [.pointer none, .pointer none, .pointer none, .string ⟨#[]⟩] := by kernel_rfl
theorem tyF59_0 : fldT Try.prog 59 0 = some (0, 17) := by kernel_rfl
theorem tyF59_1 : fldT Try.prog 59 1 = some (1, 17) := by kernel_rfl
theorem tyF59_2 : fldT Try.prog 59 2 = some (2, 17) := by kernel_rfl
theorem tyF59_3 : fldT Try.prog 59 3 = some (3, 9) := by kernel_rfl
theorem tyB59 : bldT Try.prog 59 = some ([.pointer none, .pointer none, .pointer none, .string ⟨#[]⟩], [(0, 1), (1, 1), (2, 1), (3, 1)]) := by kernel_rfl
theorem tyR61 : rowT Try.prog 61 = some true := by kernel_rfl
theorem tyS61 : szT Try.prog 61 = some 0 := by kernel_rfl
theorem tyZ61 : zT Try.prog 61 = some [] := by kernel_rfl
theorem tyA61 : arT Try.prog 61 = some (0, 16, 1) := by kernel_rfl
theorem tyR62 : rowT Try.prog 62 = some true := by kernel_rfl
theorem tyS62 : szT Try.prog 62 = some 0 := by kernel_rfl
theorem tyZ62 : zT Try.prog 62 = some [] := by kernel_rfl
theorem tyR65 : rowT Try.prog 65 = some false := by kernel_rfl
theorem tyS65 : szT Try.prog 65 = some 1 := by kernel_rfl
theorem tyZ65 : zT Try.prog 65 = some [.int .u32 0] := by kernel_rfl
theorem tyU65 : Try.prog.underlying 65 = some (.int .u32) := by kernel_rfl
theorem tyR69 : rowT Try.prog 69 = some false := by kernel_rfl
theorem tyS69 : szT Try.prog 69 = some 1 := by kernel_rfl
theorem tyZ69 : zT Try.prog 69 = some [.pointer none] := by kernel_rfl
theorem tyR72 : rowT Try.prog 72 = some true := by kernel_rfl
theorem tyS72 : szT Try.prog 72 = some 11 := by kernel_rfl
theorem tyZ72 : zT Try.prog 72 = some [.int .u64 0, .int .u64 0, .int .u32 0, .int .u8 0, .int .u8 0, .int .u8 0, .int .u8 0, .nilFunc, .pointer none, .int .i32 0, .int .i32 0] := by kernel_rfl
theorem tyF72_0 : fldT Try.prog 72 0 = some (0, 12) := by kernel_rfl
theorem tyF72_1 : fldT Try.prog 72 1 = some (1, 12) := by kernel_rfl
theorem tyF72_2 : fldT Try.prog 72 2 = some (2, 65) := by kernel_rfl
theorem tyF72_3 : fldT Try.prog 72 3 = some (3, 66) := by kernel_rfl
theorem tyF72_4 : fldT Try.prog 72 4 = some (4, 5) := by kernel_rfl
theorem tyF72_5 : fldT Try.prog 72 5 = some (5, 5) := by kernel_rfl
theorem tyF72_6 : fldT Try.prog 72 6 = some (6, 67) := by kernel_rfl
theorem tyF72_7 : fldT Try.prog 72 7 = some (7, 68) := by kernel_rfl
theorem tyF72_8 : fldT Try.prog 72 8 = some (8, 69) := by kernel_rfl
theorem tyF72_9 : fldT Try.prog 72 9 = some (9, 70) := by kernel_rfl
theorem tyF72_10 : fldT Try.prog 72 10 = some (10, 71) := by kernel_rfl
theorem tyB72 : bldT Try.prog 72 = some ([.int .u64 0, .int .u64 0, .int .u32 0, .int .u8 0, .int .u8 0, .int .u8 0, .int .u8 0, .nilFunc, .pointer none, .int .i32 0, .int .i32 0], [(0, 1), (1, 1), (2, 1), (3, 1), (4, 1), (5, 1), (6, 1), (7, 1), (8, 1), (9, 1), (10, 1)]) := by kernel_rfl
attribute [go_sem] tyR2 tyS2 tyZ2 tyU2 tyR3 tyS3 tyZ3 tyU3 tyR4 tyS4 tyZ4 tyU4 tyR5 tyS5 tyZ5 tyU5 tyR7 tyS7 tyZ7 tyF7_0 tyF7_1 tyF7_2 tyF7_3 tyB7 tyR9 tyS9 tyZ9 tyU9 tyR12 tyS12 tyZ12 tyU12 tyR13 tyS13 tyZ13 tyF13_0 tyF13_1 tyB13 tyR15 tyS15 tyZ15 tyR16 tyS16 tyZ16 tyR17 tyS17 tyZ17 tyR18 tyS18 tyZ18 tyF18_0 tyB18 tyR21 tyS21 tyZ21 tyU21 tyR22 tyS22 tyZ22 tyE22 tyL22 tyR23 tyS23 tyZ23 tyF23_0 tyF23_1 tyF23_2 tyF23_3 tyF23_4 tyF23_5 tyB23 tyR24 tyS24 tyZ24 tyF24_0 tyF24_1 tyF24_2 tyF24_3 tyF24_4 tyF24_5 tyB24 tyR34 tyS34 tyZ34 tyE34 tyL34 tyR43 tyS43 tyZ43 tyU43 tyR45 tyS45 tyZ45 tyE45 tyL45 tyR46 tyS46 tyZ46 tyF46_0 tyF46_1 tyF46_2 tyB46 tyR47 tyS47 tyZ47 tyF47_0 tyF47_1 tyF47_2 tyB47 tyR53 tyS53 tyZ53 tyR55 tyS55 tyZ55 tyE55 tyL55 tyC55_9 tyR59 tyS59 tyZ59 tyF59_0 tyF59_1 tyF59_2 tyF59_3 tyB59 tyR61 tyS61 tyZ61 tyA61 tyR62 tyS62 tyZ62 tyR65 tyS65 tyZ65 tyU65 tyR69 tyS69 tyZ69 tyR72 tyS72 tyZ72 tyF72_0 tyF72_1 tyF72_2 tyF72_3 tyF72_4 tyF72_5 tyF72_6 tyF72_7 tyF72_8 tyF72_9 tyF72_10 tyB72
end Go.Proofs.Ytnnggogelnafnaa
