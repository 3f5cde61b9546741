/- What the seat's tables say of each type and function, as closed facts. Conditions: none. -/
import Derived.Test.YtjabeiolgghfdaaProg
import Derived.Test.YtjabeiolgghfdaaCv
namespace Go.Proofs.Ytjabeiolgghfdaa
open Go.RowKit
theorem lay3 : layT Try.prog 3 = some (false, 1) := by kernel_rfl
theorem zero3 : zeroT Try.prog 3 = some [.int .i64 0] := by kernel_rfl
theorem int3 : intT Try.prog 3 = some .i64 := by kernel_rfl
theorem lay4 : layT Try.prog 4 = some (false, 1) := by kernel_rfl
theorem zero4 : zeroT Try.prog 4 = some [.bool false] := by kernel_rfl
theorem bool4 : Try.prog.underlying 4 = some .bool := Try.underlying4
theorem lay5 : layT Try.prog 5 = some (false, 1) := by kernel_rfl
theorem zero5 : zeroT Try.prog 5 = some [.int .u8 0] := by kernel_rfl
theorem int5 : intT Try.prog 5 = some .u8 := by kernel_rfl
theorem lay22 : layT Try.prog 22 = some (false, 1) := by kernel_rfl
theorem zero22 : zeroT Try.prog 22 = some [.slice none 0 0] := by kernel_rfl
theorem el22 : elT Try.prog 22 = some (61, 7, 56) := by kernel_rfl
theorem el22s : (elT Try.prog 22).isSome = true := by kernel_rfl
theorem lay25 : layT Try.prog 25 = some (false, 1) := by kernel_rfl
theorem zero25 : zeroT Try.prog 25 = some [.slice none 0 0] := by kernel_rfl
theorem el25 : elT Try.prog 25 = some (59, 7, 56) := by kernel_rfl
theorem el25s : (elT Try.prog 25).isSome = true := by kernel_rfl
theorem lay36 : layT Try.prog 36 = some (false, 1) := by kernel_rfl
theorem zero36 : zeroT Try.prog 36 = some [.slice none 0 0] := by kernel_rfl
theorem el36 : elT Try.prog 36 = some (3, 1, 8) := by kernel_rfl
theorem el36s : (elT Try.prog 36).isSome = true := by kernel_rfl
theorem lay45 : layT Try.prog 45 = some (false, 1) := by kernel_rfl
theorem zero45 : zeroT Try.prog 45 = some [.slice none 0 0] := by kernel_rfl
theorem el45 : elT Try.prog 45 = some (36, 1, 24) := by kernel_rfl
theorem el45s : (elT Try.prog 45).isSome = true := by kernel_rfl
theorem lay50 : layT Try.prog 50 = some (false, 1) := by kernel_rfl
theorem zero50 : zeroT Try.prog 50 = some [.slice none 0 0] := by kernel_rfl
theorem el50 : elT Try.prog 50 = some (5, 1, 1) := by kernel_rfl
theorem el50s : (elT Try.prog 50).isSome = true := by kernel_rfl
theorem lay59 : layT Try.prog 59 = some (true, 7) := by kernel_rfl
theorem zero59 : zeroT Try.prog 59 = some [.int .i64 0, .int .i64 0, .int .i64 0, .int .i64 0, .int .i64 0, .int .i64 0, .int .i64 0] := by kernel_rfl
theorem fld59_0 : fldT Try.prog 59 0 = some 0 := by kernel_rfl
theorem fld59_1 : fldT Try.prog 59 1 = some 1 := by kernel_rfl
theorem fld59_2 : fldT Try.prog 59 2 = some 2 := by kernel_rfl
theorem fld59_3 : fldT Try.prog 59 3 = some 3 := by kernel_rfl
theorem fld59_4 : fldT Try.prog 59 4 = some 4 := by kernel_rfl
theorem fld59_5 : fldT Try.prog 59 5 = some 5 := by kernel_rfl
theorem fld59_6 : fldT Try.prog 59 6 = some 6 := by kernel_rfl
theorem lay61 : layT Try.prog 61 = some (true, 7) := by kernel_rfl
theorem zero61 : zeroT Try.prog 61 = some [.int .i64 0, .int .i64 0, .int .i64 0, .int .i64 0, .int .i64 0, .int .i64 0, .int .i64 0] := by kernel_rfl
theorem fld61_0 : fldT Try.prog 61 0 = some 0 := by kernel_rfl
theorem fld61_1 : fldT Try.prog 61 1 = some 1 := by kernel_rfl
theorem fld61_2 : fldT Try.prog 61 2 = some 2 := by kernel_rfl
theorem fld61_3 : fldT Try.prog 61 3 = some 3 := by kernel_rfl
theorem fld61_4 : fldT Try.prog 61 4 = some 4 := by kernel_rfl
theorem fld61_5 : fldT Try.prog 61 5 = some 5 := by kernel_rfl
theorem fld61_6 : fldT Try.prog 61 6 = some 6 := by kernel_rfl
theorem lay62 : layT Try.prog 62 = some (false, 1) := by kernel_rfl
theorem zero62 : zeroT Try.prog 62 = some [.nilFunc] := by kernel_rfl
theorem lay70 : layT Try.prog 70 = some (false, 1) := by kernel_rfl
theorem zero70 : zeroT Try.prog 70 = some [.pointer none] := by kernel_rfl
theorem lay71 : layT Try.prog 71 = some (false, 1) := by kernel_rfl
theorem zero71 : zeroT Try.prog 71 = some [.int .u64 0] := by kernel_rfl
theorem int71 : intT Try.prog 71 = some .u64 := by kernel_rfl
theorem lay73 : layT Try.prog 73 = some (true, 3) := by kernel_rfl
theorem zero73 : zeroT Try.prog 73 = some [.slice none 0 0, .int .i64 0, .int .u64 0] := by kernel_rfl
theorem fld73_0 : fldT Try.prog 73 0 = some 0 := by kernel_rfl
theorem fld73_1 : fldT Try.prog 73 1 = some 1 := by kernel_rfl
theorem fld73_2 : fldT Try.prog 73 2 = some 2 := by kernel_rfl
theorem callable2 : callable Try.prog 2 = true := by kernel_rfl
theorem callable3 : callable Try.prog 3 = true := by kernel_rfl
theorem callable4 : callable Try.prog 4 = true := by kernel_rfl
theorem callable5 : callable Try.prog 5 = true := by kernel_rfl
theorem callable6 : callable Try.prog 6 = true := by kernel_rfl
theorem callable7 : callable Try.prog 7 = true := by kernel_rfl
theorem callable8 : callable Try.prog 8 = true := by kernel_rfl
theorem callable9 : callable Try.prog 9 = true := by kernel_rfl
theorem callable10 : callable Try.prog 10 = true := by kernel_rfl
theorem callable11 : callable Try.prog 11 = true := by kernel_rfl
theorem callable12 : callable Try.prog 12 = true := by kernel_rfl
theorem callable13 : callable Try.prog 13 = true := by kernel_rfl
theorem callable14 : callable Try.prog 14 = true := by kernel_rfl
theorem callable15 : callable Try.prog 15 = true := by kernel_rfl
theorem callable16 : callable Try.prog 16 = true := by kernel_rfl
theorem callable17 : callable Try.prog 17 = true := by kernel_rfl
theorem callable18 : callable Try.prog 18 = true := by kernel_rfl
theorem callable19 : callable Try.prog 19 = true := by kernel_rfl
theorem callable20 : callable Try.prog 20 = true := by kernel_rfl
theorem callable21 : callable Try.prog 21 = true := by kernel_rfl
theorem callable22 : callable Try.prog 22 = true := by kernel_rfl
theorem callable23 : callable Try.prog 23 = true := by kernel_rfl
theorem callable24 : callable Try.prog 24 = true := by kernel_rfl
theorem callable25 : callable Try.prog 25 = true := by kernel_rfl
theorem callable26 : callable Try.prog 26 = true := by kernel_rfl
theorem callable27 : callable Try.prog 27 = true := by kernel_rfl
theorem callable28 : callable Try.prog 28 = true := by kernel_rfl
theorem callable29 : callable Try.prog 29 = true := by kernel_rfl
theorem callable30 : callable Try.prog 30 = true := by kernel_rfl
theorem callable31 : callable Try.prog 31 = true := by kernel_rfl
theorem callable32 : callable Try.prog 32 = true := by kernel_rfl
theorem callable33 : callable Try.prog 33 = true := by kernel_rfl
theorem callable34 : callable Try.prog 34 = true := by kernel_rfl
theorem callable35 : callable Try.prog 35 = true := by kernel_rfl
theorem callable36 : callable Try.prog 36 = true := by kernel_rfl
theorem callable37 : callable Try.prog 37 = true := by kernel_rfl
theorem callable38 : callable Try.prog 38 = true := by kernel_rfl
theorem callable39 : callable Try.prog 39 = true := by kernel_rfl
theorem callable40 : callable Try.prog 40 = true := by kernel_rfl
theorem callable41 : callable Try.prog 41 = true := by kernel_rfl
theorem callable42 : callable Try.prog 42 = true := by kernel_rfl
theorem callable43 : callable Try.prog 43 = true := by kernel_rfl
theorem callable44 : callable Try.prog 44 = true := by kernel_rfl
theorem callable45 : callable Try.prog 45 = true := by kernel_rfl
theorem callable46 : callable Try.prog 46 = true := by kernel_rfl
theorem callable47 : callable Try.prog 47 = true := by kernel_rfl
theorem callable48 : callable Try.prog 48 = true := by kernel_rfl
theorem callable49 : callable Try.prog 49 = true := by kernel_rfl
theorem callable50 : callable Try.prog 50 = true := by kernel_rfl
theorem callable51 : callable Try.prog 51 = true := by kernel_rfl
theorem callable52 : callable Try.prog 52 = true := by kernel_rfl
theorem callable53 : callable Try.prog 53 = true := by kernel_rfl
theorem callable54 : callable Try.prog 54 = true := by kernel_rfl
theorem callable55 : callable Try.prog 55 = true := by kernel_rfl
theorem callable56 : callable Try.prog 56 = true := by kernel_rfl
theorem callable57 : callable Try.prog 57 = true := by kernel_rfl
theorem callable58 : callable Try.prog 58 = true := by kernel_rfl
theorem callable59 : callable Try.prog 59 = true := by kernel_rfl
theorem callable60 : callable Try.prog 60 = true := by kernel_rfl
theorem callable61 : callable Try.prog 61 = true := by kernel_rfl
theorem callable62 : callable Try.prog 62 = true := by kernel_rfl
theorem callable63 : callable Try.prog 63 = true := by kernel_rfl
theorem callable64 : callable Try.prog 64 = true := by kernel_rfl
theorem callable65 : callable Try.prog 65 = true := by kernel_rfl
theorem callable66 : callable Try.prog 66 = true := by kernel_rfl
theorem callable67 : callable Try.prog 67 = true := by kernel_rfl
theorem callable68 : callable Try.prog 68 = true := by kernel_rfl
theorem callable69 : callable Try.prog 69 = true := by kernel_rfl
theorem callable70 : callable Try.prog 70 = true := by kernel_rfl
theorem callable71 : callable Try.prog 71 = true := by kernel_rfl
theorem callable72 : callable Try.prog 72 = true := by kernel_rfl
theorem callable73 : callable Try.prog 73 = true := by kernel_rfl
theorem callable74 : callable Try.prog 74 = true := by kernel_rfl
theorem callable75 : callable Try.prog 75 = true := by kernel_rfl
theorem callable76 : callable Try.prog 76 = true := by kernel_rfl
theorem callable77 : callable Try.prog 77 = true := by kernel_rfl
theorem callable78 : callable Try.prog 78 = true := by kernel_rfl
theorem callable79 : callable Try.prog 79 = true := by kernel_rfl
theorem callable80 : callable Try.prog 80 = true := by kernel_rfl
theorem callable81 : callable Try.prog 81 = true := by kernel_rfl
theorem callable82 : callable Try.prog 82 = true := by kernel_rfl
end Go.Proofs.Ytjabeiolgghfdaa
