/- What the seat's tables say of each type and function, as closed facts. Conditions: none. -/
import Derived.Test.YtlpgcbkialcjcaaProg
import Derived.Test.YtlpgcbkialcjcaaCv
namespace Go.Proofs.Ytlpgcbkialcjcaa
open Go.RowKit
theorem lay3 : layT Try.prog 3 = some (false, 1) := by kernel_rfl
theorem zero3 : zeroT Try.prog 3 = some [.int .i64 0] := by kernel_rfl
theorem int3 : intT Try.prog 3 = some .i64 := by kernel_rfl
theorem lay4 : layT Try.prog 4 = some (false, 1) := by kernel_rfl
theorem zero4 : zeroT Try.prog 4 = some [.bool false] := by kernel_rfl
theorem bool4 : Try.prog.underlying 4 = some .bool := Try.underlying4
theorem lay5 : layT Try.prog 5 = some (false, 1) := by kernel_rfl
theorem zero5 : zeroT Try.prog 5 = some [.int .u8 0] := by kernel_rfl
theorem int5 : intT Try.prog 5 = some .u8 := by kernel_rfl
theorem lay23 : layT Try.prog 23 = some (true, 6) := by kernel_rfl
theorem zero23 : zeroT Try.prog 23 = some [.int .i64 0, .int .i64 0, .int .i64 0, .int .i64 0, .int .i64 0, .int .i64 0] := by kernel_rfl
theorem fld23_0 : fldT Try.prog 23 0 = some 0 := by kernel_rfl
theorem fld23_1 : fldT Try.prog 23 1 = some 1 := by kernel_rfl
theorem fld23_2 : fldT Try.prog 23 2 = some 2 := by kernel_rfl
theorem fld23_3 : fldT Try.prog 23 3 = some 3 := by kernel_rfl
theorem fld23_4 : fldT Try.prog 23 4 = some 4 := by kernel_rfl
theorem fld23_5 : fldT Try.prog 23 5 = some 5 := by kernel_rfl
theorem lay24 : layT Try.prog 24 = some (false, 1) := by kernel_rfl
theorem zero24 : zeroT Try.prog 24 = some [.nilFunc] := by kernel_rfl
theorem lay25 : layT Try.prog 25 = some (true, 6) := by kernel_rfl
theorem zero25 : zeroT Try.prog 25 = some [.int .i64 0, .int .i64 0, .int .i64 0, .int .i64 0, .int .i64 0, .int .i64 0] := by kernel_rfl
theorem fld25_0 : fldT Try.prog 25 0 = some 0 := by kernel_rfl
theorem fld25_1 : fldT Try.prog 25 1 = some 1 := by kernel_rfl
theorem fld25_2 : fldT Try.prog 25 2 = some 2 := by kernel_rfl
theorem fld25_3 : fldT Try.prog 25 3 = some 3 := by kernel_rfl
theorem fld25_4 : fldT Try.prog 25 4 = some 4 := by kernel_rfl
theorem fld25_5 : fldT Try.prog 25 5 = some 5 := by kernel_rfl
theorem scal25 : scalT Try.prog 25 = some [some .i64, some .i64, some .i64, some .i64, some .i64, some .i64] := by kernel_rfl
theorem lay28 : layT Try.prog 28 = some (false, 1) := by kernel_rfl
theorem zero28 : zeroT Try.prog 28 = some [.slice none 0 0] := by kernel_rfl
theorem el28 : elT Try.prog 28 = some (23, 6, 48) := by kernel_rfl
theorem el28s : (elT Try.prog 28).isSome = true := by kernel_rfl
theorem lay31 : layT Try.prog 31 = some (false, 1) := by kernel_rfl
theorem zero31 : zeroT Try.prog 31 = some [.slice none 0 0] := by kernel_rfl
theorem el31 : elT Try.prog 31 = some (25, 6, 48) := by kernel_rfl
theorem el31s : (elT Try.prog 31).isSome = true := by kernel_rfl
theorem lay39 : layT Try.prog 39 = some (false, 1) := by kernel_rfl
theorem zero39 : zeroT Try.prog 39 = some [.slice none 0 0] := by kernel_rfl
theorem el39 : elT Try.prog 39 = some (3, 1, 8) := by kernel_rfl
theorem el39s : (elT Try.prog 39).isSome = true := by kernel_rfl
theorem lay48 : layT Try.prog 48 = some (false, 1) := by kernel_rfl
theorem zero48 : zeroT Try.prog 48 = some [.slice none 0 0] := by kernel_rfl
theorem el48 : elT Try.prog 48 = some (5, 1, 1) := by kernel_rfl
theorem el48s : (elT Try.prog 48).isSome = true := by kernel_rfl
theorem lay58 : layT Try.prog 58 = some (false, 1) := by kernel_rfl
theorem zero58 : zeroT Try.prog 58 = some [.nilFunc] := by kernel_rfl
theorem lay60 : layT Try.prog 60 = some (false, 1) := by kernel_rfl
theorem zero60 : zeroT Try.prog 60 = some [.pointer none] := by kernel_rfl
theorem lay61 : layT Try.prog 61 = some (false, 1) := by kernel_rfl
theorem zero61 : zeroT Try.prog 61 = some [.int .u64 0] := by kernel_rfl
theorem int61 : intT Try.prog 61 = some .u64 := by kernel_rfl
theorem lay63 : layT Try.prog 63 = some (true, 3) := by kernel_rfl
theorem zero63 : zeroT Try.prog 63 = some [.slice none 0 0, .int .i64 0, .int .u64 0] := by kernel_rfl
theorem fld63_0 : fldT Try.prog 63 0 = some 0 := by kernel_rfl
theorem fld63_1 : fldT Try.prog 63 1 = some 1 := by kernel_rfl
theorem fld63_2 : fldT Try.prog 63 2 = some 2 := by kernel_rfl
theorem lay75 : layT Try.prog 75 = some (false, 1) := by kernel_rfl
theorem zero75 : zeroT Try.prog 75 = some [.int .u64 0] := by kernel_rfl
theorem int75 : intT Try.prog 75 = some .u64 := by kernel_rfl
theorem callable2 : callable Try.prog 2 = true := by kernel_rfl
theorem callable3 : callable Try.prog 3 = true := by kernel_rfl
theorem callable4 : callable Try.prog 4 = true := by kernel_rfl
theorem callable5 : callable Try.prog 5 = true := by kernel_rfl
theorem callable6 : callable Try.prog 6 = true := by kernel_rfl
theorem callable7 : callable Try.prog 7 = true := by kernel_rfl
theorem callable8 : callable Try.prog 8 = true := by kernel_rfl
theorem callable9 : callable Try.prog 9 = true := by kernel_rfl
theorem callable10 : callable Try.prog 10 = true := by kernel_rfl
theorem callable11 : callable Try.prog 11 = true := by kernel_rfl
theorem callable12 : callable Try.prog 12 = true := by kernel_rfl
theorem callable13 : callable Try.prog 13 = true := by kernel_rfl
theorem callable14 : callable Try.prog 14 = true := by kernel_rfl
theorem callable15 : callable Try.prog 15 = true := by kernel_rfl
theorem callable16 : callable Try.prog 16 = true := by kernel_rfl
theorem callable17 : callable Try.prog 17 = true := by kernel_rfl
theorem callable18 : callable Try.prog 18 = true := by kernel_rfl
theorem callable19 : callable Try.prog 19 = true := by kernel_rfl
theorem callable20 : callable Try.prog 20 = true := by kernel_rfl
theorem callable21 : callable Try.prog 21 = true := by kernel_rfl
theorem callable22 : callable Try.prog 22 = true := by kernel_rfl
theorem callable23 : callable Try.prog 23 = true := by kernel_rfl
theorem callable24 : callable Try.prog 24 = true := by kernel_rfl
theorem callable25 : callable Try.prog 25 = true := by kernel_rfl
theorem callable26 : callable Try.prog 26 = true := by kernel_rfl
theorem callable27 : callable Try.prog 27 = true := by kernel_rfl
theorem callable28 : callable Try.prog 28 = true := by kernel_rfl
theorem callable29 : callable Try.prog 29 = true := by kernel_rfl
theorem callable30 : callable Try.prog 30 = true := by kernel_rfl
theorem callable31 : callable Try.prog 31 = true := by kernel_rfl
theorem callable32 : callable Try.prog 32 = true := by kernel_rfl
theorem callable33 : callable Try.prog 33 = true := by kernel_rfl
theorem callable34 : callable Try.prog 34 = true := by kernel_rfl
theorem callable35 : callable Try.prog 35 = true := by kernel_rfl
theorem callable36 : callable Try.prog 36 = true := by kernel_rfl
theorem callable37 : callable Try.prog 37 = true := by kernel_rfl
theorem callable38 : callable Try.prog 38 = true := by kernel_rfl
theorem callable39 : callable Try.prog 39 = true := by kernel_rfl
theorem callable40 : callable Try.prog 40 = true := by kernel_rfl
theorem callable41 : callable Try.prog 41 = true := by kernel_rfl
theorem callable42 : callable Try.prog 42 = true := by kernel_rfl
theorem callable43 : callable Try.prog 43 = true := by kernel_rfl
theorem callable44 : callable Try.prog 44 = true := by kernel_rfl
theorem callable45 : callable Try.prog 45 = true := by kernel_rfl
theorem callable46 : callable Try.prog 46 = true := by kernel_rfl
theorem callable47 : callable Try.prog 47 = true := by kernel_rfl
theorem callable48 : callable Try.prog 48 = true := by kernel_rfl
theorem callable49 : callable Try.prog 49 = true := by kernel_rfl
theorem callable50 : callable Try.prog 50 = true := by kernel_rfl
theorem callable51 : callable Try.prog 51 = true := by kernel_rfl
theorem callable52 : callable Try.prog 52 = true := by kernel_rfl
theorem callable53 : callable Try.prog 53 = true := by kernel_rfl
theorem callable54 : callable Try.prog 54 = true := by kernel_rfl
theorem callable55 : callable Try.prog 55 = true := by kernel_rfl
theorem callable56 : callable Try.prog 56 = true := by kernel_rfl
theorem callable57 : callable Try.prog 57 = true := by kernel_rfl
theorem callable58 : callable Try.prog 58 = true := by kernel_rfl
theorem callable59 : callable Try.prog 59 = true := by kernel_rfl
theorem callable60 : callable Try.prog 60 = true := by kernel_rfl
theorem callable61 : callable Try.prog 61 = true := by kernel_rfl
theorem callable62 : callable Try.prog 62 = true := by kernel_rfl
theorem callable63 : callable Try.prog 63 = true := by kernel_rfl
theorem callable64 : callable Try.prog 64 = true := by kernel_rfl
theorem callable66 : callable Try.prog 66 = true := by kernel_rfl
theorem callable67 : callable Try.prog 67 = true := by kernel_rfl
theorem callable68 : callable Try.prog 68 = true := by kernel_rfl
theorem callable69 : callable Try.prog 69 = true := by kernel_rfl
theorem callable70 : callable Try.prog 70 = true := by kernel_rfl
end Go.Proofs.Ytlpgcbkialcjcaa
