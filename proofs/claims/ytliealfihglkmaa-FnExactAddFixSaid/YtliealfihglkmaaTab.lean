/- What the seat's tables say of each type and function, as closed facts. Conditions: none. -/
import Derived.Test.YtliealfihglkmaaProg
import Derived.Test.YtliealfihglkmaaCv
namespace Go.Proofs.Ytliealfihglkmaa
open Go.RowKit
theorem lay3 : layT Try.prog 3 = some (false, 1) := by kernel_rfl
theorem zero3 : zeroT Try.prog 3 = some [.int .i64 0] := by kernel_rfl
theorem int3 : intT Try.prog 3 = some .i64 := by kernel_rfl
theorem lay4 : layT Try.prog 4 = some (false, 1) := by kernel_rfl
theorem zero4 : zeroT Try.prog 4 = some [.bool false] := by kernel_rfl
theorem bool4 : Try.prog.underlying 4 = some .bool := Try.underlying4
theorem lay5 : layT Try.prog 5 = some (false, 1) := by kernel_rfl
theorem zero5 : zeroT Try.prog 5 = some [.int .u8 0] := by kernel_rfl
theorem int5 : intT Try.prog 5 = some .u8 := by kernel_rfl
theorem lay22 : layT Try.prog 22 = some (false, 1) := by kernel_rfl
theorem zero22 : zeroT Try.prog 22 = some [.slice none 0 0] := by kernel_rfl
theorem el22 : elT Try.prog 22 = some (46, 3, 24) := by kernel_rfl
theorem el22s : (elT Try.prog 22).isSome = true := by kernel_rfl
theorem lay25 : layT Try.prog 25 = some (false, 1) := by kernel_rfl
theorem zero25 : zeroT Try.prog 25 = some [.slice none 0 0] := by kernel_rfl
theorem el25 : elT Try.prog 25 = some (49, 3, 24) := by kernel_rfl
theorem el25s : (elT Try.prog 25).isSome = true := by kernel_rfl
theorem lay37 : layT Try.prog 37 = some (true, 2) := by kernel_rfl
theorem zero37 : zeroT Try.prog 37 = some [.int .i64 0, .int .i64 0] := by kernel_rfl
theorem fld37_0 : fldT Try.prog 37 0 = some 0 := by kernel_rfl
theorem fld37_1 : fldT Try.prog 37 1 = some 1 := by kernel_rfl
theorem scal37 : scalT Try.prog 37 = some [some .i64, some .i64] := by kernel_rfl
theorem lay46 : layT Try.prog 46 = some (true, 3) := by kernel_rfl
theorem zero46 : zeroT Try.prog 46 = some [.int .i64 0, .int .i64 0, .int .i64 0] := by kernel_rfl
theorem fld46_0 : fldT Try.prog 46 0 = some 0 := by kernel_rfl
theorem fld46_1 : fldT Try.prog 46 1 = some 1 := by kernel_rfl
theorem fld46_2 : fldT Try.prog 46 2 = some 2 := by kernel_rfl
theorem lay49 : layT Try.prog 49 = some (true, 3) := by kernel_rfl
theorem zero49 : zeroT Try.prog 49 = some [.int .i64 0, .int .i64 0, .int .i64 0] := by kernel_rfl
theorem fld49_0 : fldT Try.prog 49 0 = some 0 := by kernel_rfl
theorem fld49_1 : fldT Try.prog 49 1 = some 1 := by kernel_rfl
theorem fld49_2 : fldT Try.prog 49 2 = some 2 := by kernel_rfl
theorem scal49 : scalT Try.prog 49 = some [some .i64, some .i64, some .i64] := by kernel_rfl
theorem lay54 : layT Try.prog 54 = some (true, 2) := by kernel_rfl
theorem zero54 : zeroT Try.prog 54 = some [.int .i64 0, .int .i64 0] := by kernel_rfl
theorem fld54_0 : fldT Try.prog 54 0 = some 0 := by kernel_rfl
theorem fld54_1 : fldT Try.prog 54 1 = some 1 := by kernel_rfl
theorem scal54 : scalT Try.prog 54 = some [some .i64, some .i64] := by kernel_rfl
theorem lay58 : layT Try.prog 58 = some (false, 1) := by kernel_rfl
theorem zero58 : zeroT Try.prog 58 = some [.slice none 0 0] := by kernel_rfl
theorem el58 : elT Try.prog 58 = some (5, 1, 1) := by kernel_rfl
theorem el58s : (elT Try.prog 58).isSome = true := by kernel_rfl
theorem lay83 : layT Try.prog 83 = some (false, 1) := by kernel_rfl
theorem zero83 : zeroT Try.prog 83 = some [.int .u64 0] := by kernel_rfl
theorem int83 : intT Try.prog 83 = some .u64 := by kernel_rfl
theorem lay85 : layT Try.prog 85 = some (true, 3) := by kernel_rfl
theorem zero85 : zeroT Try.prog 85 = some [.slice none 0 0, .int .i64 0, .int .u64 0] := by kernel_rfl
theorem fld85_0 : fldT Try.prog 85 0 = some 0 := by kernel_rfl
theorem fld85_1 : fldT Try.prog 85 1 = some 1 := by kernel_rfl
theorem fld85_2 : fldT Try.prog 85 2 = some 2 := by kernel_rfl
theorem lay89 : layT Try.prog 89 = some (false, 1) := by kernel_rfl
theorem zero89 : zeroT Try.prog 89 = some [.slice none 0 0] := by kernel_rfl
theorem el89 : elT Try.prog 89 = some (3, 1, 8) := by kernel_rfl
theorem el89s : (elT Try.prog 89).isSome = true := by kernel_rfl
theorem lay94 : layT Try.prog 94 = some (false, 1) := by kernel_rfl
theorem zero94 : zeroT Try.prog 94 = some [.slice none 0 0] := by kernel_rfl
theorem el94 : elT Try.prog 94 = some (25, 1, 24) := by kernel_rfl
theorem el94s : (elT Try.prog 94).isSome = true := by kernel_rfl
theorem callable2 : callable Try.prog 2 = true := by kernel_rfl
theorem callable3 : callable Try.prog 3 = true := by kernel_rfl
theorem callable4 : callable Try.prog 4 = true := by kernel_rfl
theorem callable5 : callable Try.prog 5 = true := by kernel_rfl
theorem callable6 : callable Try.prog 6 = true := by kernel_rfl
theorem callable7 : callable Try.prog 7 = true := by kernel_rfl
theorem callable8 : callable Try.prog 8 = true := by kernel_rfl
theorem callable9 : callable Try.prog 9 = true := by kernel_rfl
theorem callable10 : callable Try.prog 10 = true := by kernel_rfl
theorem callable11 : callable Try.prog 11 = true := by kernel_rfl
theorem callable12 : callable Try.prog 12 = true := by kernel_rfl
theorem callable13 : callable Try.prog 13 = true := by kernel_rfl
theorem callable14 : callable Try.prog 14 = true := by kernel_rfl
theorem callable15 : callable Try.prog 15 = true := by kernel_rfl
theorem callable16 : callable Try.prog 16 = true := by kernel_rfl
theorem callable17 : callable Try.prog 17 = true := by kernel_rfl
theorem callable18 : callable Try.prog 18 = true := by kernel_rfl
theorem callable19 : callable Try.prog 19 = true := by kernel_rfl
theorem callable20 : callable Try.prog 20 = true := by kernel_rfl
theorem callable21 : callable Try.prog 21 = true := by kernel_rfl
theorem callable22 : callable Try.prog 22 = true := by kernel_rfl
theorem callable23 : callable Try.prog 23 = true := by kernel_rfl
theorem callable24 : callable Try.prog 24 = true := by kernel_rfl
theorem callable25 : callable Try.prog 25 = true := by kernel_rfl
theorem callable26 : callable Try.prog 26 = true := by kernel_rfl
theorem callable27 : callable Try.prog 27 = true := by kernel_rfl
theorem callable28 : callable Try.prog 28 = true := by kernel_rfl
theorem callable29 : callable Try.prog 29 = true := by kernel_rfl
theorem callable30 : callable Try.prog 30 = true := by kernel_rfl
theorem callable31 : callable Try.prog 31 = true := by kernel_rfl
theorem callable32 : callable Try.prog 32 = true := by kernel_rfl
theorem callable33 : callable Try.prog 33 = true := by kernel_rfl
theorem callable34 : callable Try.prog 34 = true := by kernel_rfl
theorem callable35 : callable Try.prog 35 = true := by kernel_rfl
theorem callable36 : callable Try.prog 36 = true := by kernel_rfl
theorem callable37 : callable Try.prog 37 = true := by kernel_rfl
theorem callable38 : callable Try.prog 38 = true := by kernel_rfl
theorem callable39 : callable Try.prog 39 = true := by kernel_rfl
theorem callable40 : callable Try.prog 40 = true := by kernel_rfl
theorem callable41 : callable Try.prog 41 = true := by kernel_rfl
theorem callable42 : callable Try.prog 42 = true := by kernel_rfl
theorem callable43 : callable Try.prog 43 = true := by kernel_rfl
theorem callable44 : callable Try.prog 44 = true := by kernel_rfl
theorem callable45 : callable Try.prog 45 = true := by kernel_rfl
theorem callable46 : callable Try.prog 46 = true := by kernel_rfl
theorem callable47 : callable Try.prog 47 = true := by kernel_rfl
theorem callable48 : callable Try.prog 48 = true := by kernel_rfl
theorem callable49 : callable Try.prog 49 = true := by kernel_rfl
theorem callable50 : callable Try.prog 50 = true := by kernel_rfl
theorem callable51 : callable Try.prog 51 = true := by kernel_rfl
theorem callable52 : callable Try.prog 52 = true := by kernel_rfl
theorem callable53 : callable Try.prog 53 = true := by kernel_rfl
theorem callable54 : callable Try.prog 54 = true := by kernel_rfl
theorem callable55 : callable Try.prog 55 = true := by kernel_rfl
theorem callable56 : callable Try.prog 56 = true := by kernel_rfl
theorem callable57 : callable Try.prog 57 = true := by kernel_rfl
theorem callable58 : callable Try.prog 58 = true := by kernel_rfl
theorem callable59 : callable Try.prog 59 = true := by kernel_rfl
theorem callable60 : callable Try.prog 60 = true := by kernel_rfl
theorem callable61 : callable Try.prog 61 = true := by kernel_rfl
theorem callable62 : callable Try.prog 62 = true := by kernel_rfl
theorem callable63 : callable Try.prog 63 = true := by kernel_rfl
theorem callable64 : callable Try.prog 64 = true := by kernel_rfl
theorem callable65 : callable Try.prog 65 = true := by kernel_rfl
theorem callable66 : callable Try.prog 66 = true := by kernel_rfl
theorem callable67 : callable Try.prog 67 = true := by kernel_rfl
theorem callable68 : callable Try.prog 68 = true := by kernel_rfl
theorem callable69 : callable Try.prog 69 = true := by kernel_rfl
theorem callable70 : callable Try.prog 70 = true := by kernel_rfl
theorem callable71 : callable Try.prog 71 = true := by kernel_rfl
theorem callable72 : callable Try.prog 72 = true := by kernel_rfl
theorem callable73 : callable Try.prog 73 = true := by kernel_rfl
theorem callable74 : callable Try.prog 74 = true := by kernel_rfl
theorem callable75 : callable Try.prog 75 = true := by kernel_rfl
theorem callable76 : callable Try.prog 76 = true := by kernel_rfl
theorem callable77 : callable Try.prog 77 = true := by kernel_rfl
theorem callable78 : callable Try.prog 78 = true := by kernel_rfl
theorem callable79 : callable Try.prog 79 = true := by kernel_rfl
theorem callable80 : callable Try.prog 80 = true := by kernel_rfl
theorem callable81 : callable Try.prog 81 = true := by kernel_rfl
theorem callable82 : callable Try.prog 82 = true := by kernel_rfl
end Go.Proofs.Ytliealfihglkmaa
