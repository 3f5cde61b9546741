/- What the seat's tables say of each type and function, as closed facts. Conditions: none. -/
import Derived.Test.YtkkmmbogeeopaaaProg
import Derived.Test.YtkkmmbogeeopaaaCv
namespace Go.Proofs.Ytkkmmbogeeopaaa
open Go.RowKit
theorem lay3 : layT Try.prog 3 = some (false, 1) := by kernel_rfl
theorem zero3 : zeroT Try.prog 3 = some [.int .i64 0] := by kernel_rfl
theorem int3 : intT Try.prog 3 = some .i64 := by kernel_rfl
theorem lay4 : layT Try.prog 4 = some (false, 1) := by kernel_rfl
theorem zero4 : zeroT Try.prog 4 = some [.bool false] := by kernel_rfl
theorem bool4 : Try.prog.underlying 4 = some .bool := Try.underlying4
theorem lay5 : layT Try.prog 5 = some (false, 1) := by kernel_rfl
theorem zero5 : zeroT Try.prog 5 = some [.int .u8 0] := by kernel_rfl
theorem int5 : intT Try.prog 5 = some .u8 := by kernel_rfl
theorem lay22 : layT Try.prog 22 = some (false, 1) := by kernel_rfl
theorem zero22 : zeroT Try.prog 22 = some [.slice none 0 0] := by kernel_rfl
theorem el22 : elT Try.prog 22 = some (106, 3, 24) := by kernel_rfl
theorem el22s : (elT Try.prog 22).isSome = true := by kernel_rfl
theorem lay24 : layT Try.prog 24 = some (true, 3) := by kernel_rfl
theorem zero24 : zeroT Try.prog 24 = some [.slice none 0 0, .int .i64 0, .int .i64 0] := by kernel_rfl
theorem fld24_0 : fldT Try.prog 24 0 = some 0 := by kernel_rfl
theorem fld24_1 : fldT Try.prog 24 1 = some 1 := by kernel_rfl
theorem fld24_2 : fldT Try.prog 24 2 = some 2 := by kernel_rfl
theorem lay27 : layT Try.prog 27 = some (false, 1) := by kernel_rfl
theorem zero27 : zeroT Try.prog 27 = some [.slice none 0 0] := by kernel_rfl
theorem el27 : elT Try.prog 27 = some (74, 3, 24) := by kernel_rfl
theorem el27s : (elT Try.prog 27).isSome = true := by kernel_rfl
theorem lay29 : layT Try.prog 29 = some (true, 3) := by kernel_rfl
theorem zero29 : zeroT Try.prog 29 = some [.slice none 0 0, .int .i64 0, .int .i64 0] := by kernel_rfl
theorem fld29_0 : fldT Try.prog 29 0 = some 0 := by kernel_rfl
theorem fld29_1 : fldT Try.prog 29 1 = some 1 := by kernel_rfl
theorem fld29_2 : fldT Try.prog 29 2 = some 2 := by kernel_rfl
theorem lay39 : layT Try.prog 39 = some (false, 1) := by kernel_rfl
theorem zero39 : zeroT Try.prog 39 = some [.slice none 0 0] := by kernel_rfl
theorem el39 : elT Try.prog 39 = some (5, 1, 1) := by kernel_rfl
theorem el39s : (elT Try.prog 39).isSome = true := by kernel_rfl
theorem lay41 : layT Try.prog 41 = some (false, 1) := by kernel_rfl
theorem zero41 : zeroT Try.prog 41 = some [.slice none 0 0] := by kernel_rfl
theorem el41 : elT Try.prog 41 = some (49, 3, 24) := by kernel_rfl
theorem el41s : (elT Try.prog 41).isSome = true := by kernel_rfl
theorem lay42 : layT Try.prog 42 = some (false, 1) := by kernel_rfl
theorem zero42 : zeroT Try.prog 42 = some [.slice none 0 0] := by kernel_rfl
theorem el42 : elT Try.prog 42 = some (51, 5, 40) := by kernel_rfl
theorem el42s : (elT Try.prog 42).isSome = true := by kernel_rfl
theorem lay43 : layT Try.prog 43 = some (false, 1) := by kernel_rfl
theorem zero43 : zeroT Try.prog 43 = some [.slice none 0 0] := by kernel_rfl
theorem el43 : elT Try.prog 43 = some (3, 1, 8) := by kernel_rfl
theorem el43s : (elT Try.prog 43).isSome = true := by kernel_rfl
theorem lay49 : layT Try.prog 49 = some (true, 3) := by kernel_rfl
theorem zero49 : zeroT Try.prog 49 = some [.int .i64 0, .int .i64 0, .int .i64 0] := by kernel_rfl
theorem fld49_0 : fldT Try.prog 49 0 = some 0 := by kernel_rfl
theorem fld49_1 : fldT Try.prog 49 1 = some 1 := by kernel_rfl
theorem fld49_2 : fldT Try.prog 49 2 = some 2 := by kernel_rfl
theorem lay51 : layT Try.prog 51 = some (true, 5) := by kernel_rfl
theorem zero51 : zeroT Try.prog 51 = some [.int .i64 0, .int .i64 0, .int .i64 0, .int .i64 0, .int .i64 0] := by kernel_rfl
theorem fld51_0 : fldT Try.prog 51 0 = some 0 := by kernel_rfl
theorem fld51_1 : fldT Try.prog 51 1 = some 1 := by kernel_rfl
theorem fld51_2 : fldT Try.prog 51 2 = some 2 := by kernel_rfl
theorem fld51_3 : fldT Try.prog 51 3 = some 3 := by kernel_rfl
theorem fld51_4 : fldT Try.prog 51 4 = some 4 := by kernel_rfl
theorem lay74 : layT Try.prog 74 = some (true, 3) := by kernel_rfl
theorem zero74 : zeroT Try.prog 74 = some [.int .i64 0, .int .i64 0, .bool false] := by kernel_rfl
theorem fld74_0 : fldT Try.prog 74 0 = some 0 := by kernel_rfl
theorem fld74_1 : fldT Try.prog 74 1 = some 1 := by kernel_rfl
theorem fld74_2 : fldT Try.prog 74 2 = some 2 := by kernel_rfl
theorem lay80 : layT Try.prog 80 = some (false, 1) := by kernel_rfl
theorem zero80 : zeroT Try.prog 80 = some [.pointer none] := by kernel_rfl
theorem lay81 : layT Try.prog 81 = some (false, 1) := by kernel_rfl
theorem zero81 : zeroT Try.prog 81 = some [.int .u64 0] := by kernel_rfl
theorem int81 : intT Try.prog 81 = some .u64 := by kernel_rfl
theorem lay83 : layT Try.prog 83 = some (true, 3) := by kernel_rfl
theorem zero83 : zeroT Try.prog 83 = some [.slice none 0 0, .int .i64 0, .int .u64 0] := by kernel_rfl
theorem fld83_0 : fldT Try.prog 83 0 = some 0 := by kernel_rfl
theorem fld83_1 : fldT Try.prog 83 1 = some 1 := by kernel_rfl
theorem fld83_2 : fldT Try.prog 83 2 = some 2 := by kernel_rfl
theorem lay91 : layT Try.prog 91 = some (false, 1) := by kernel_rfl
theorem zero91 : zeroT Try.prog 91 = some [.map none] := by kernel_rfl
theorem zmap91 : (Try.prog.info? 3).bind (fun i => i.zero) = some (.int .i64 0) := by kernel_rfl
theorem lay93 : layT Try.prog 93 = some (true, 4) := by kernel_rfl
theorem zero93 : zeroT Try.prog 93 = some [.slice none 0 0, .int .i64 0, .map none, .map none] := by kernel_rfl
theorem fld93_0 : fldT Try.prog 93 0 = some 0 := by kernel_rfl
theorem fld93_1 : fldT Try.prog 93 1 = some 1 := by kernel_rfl
theorem fld93_2 : fldT Try.prog 93 2 = some 2 := by kernel_rfl
theorem fld93_3 : fldT Try.prog 93 3 = some 3 := by kernel_rfl
theorem lay99 : layT Try.prog 99 = some (false, 1) := by kernel_rfl
theorem zero99 : zeroT Try.prog 99 = some [.nilFunc] := by kernel_rfl
theorem lay106 : layT Try.prog 106 = some (true, 3) := by kernel_rfl
theorem zero106 : zeroT Try.prog 106 = some [.int .i64 0, .int .i64 0, .bool false] := by kernel_rfl
theorem fld106_0 : fldT Try.prog 106 0 = some 0 := by kernel_rfl
theorem fld106_1 : fldT Try.prog 106 1 = some 1 := by kernel_rfl
theorem fld106_2 : fldT Try.prog 106 2 = some 2 := by kernel_rfl
theorem lay110 : layT Try.prog 110 = some (false, 1) := by kernel_rfl
theorem zero110 : zeroT Try.prog 110 = some [.nilFunc] := by kernel_rfl
theorem callable2 : callable Try.prog 2 = true := by kernel_rfl
theorem callable3 : callable Try.prog 3 = true := by kernel_rfl
theorem callable4 : callable Try.prog 4 = true := by kernel_rfl
theorem callable5 : callable Try.prog 5 = true := by kernel_rfl
theorem callable6 : callable Try.prog 6 = true := by kernel_rfl
theorem callable7 : callable Try.prog 7 = true := by kernel_rfl
theorem callable8 : callable Try.prog 8 = true := by kernel_rfl
theorem callable9 : callable Try.prog 9 = true := by kernel_rfl
theorem callable10 : callable Try.prog 10 = true := by kernel_rfl
theorem callable11 : callable Try.prog 11 = true := by kernel_rfl
theorem callable12 : callable Try.prog 12 = true := by kernel_rfl
theorem callable13 : callable Try.prog 13 = true := by kernel_rfl
theorem callable14 : callable Try.prog 14 = true := by kernel_rfl
theorem callable15 : callable Try.prog 15 = true := by kernel_rfl
theorem callable16 : callable Try.prog 16 = true := by kernel_rfl
theorem callable17 : callable Try.prog 17 = true := by kernel_rfl
theorem callable18 : callable Try.prog 18 = true := by kernel_rfl
theorem callable19 : callable Try.prog 19 = true := by kernel_rfl
theorem callable20 : callable Try.prog 20 = true := by kernel_rfl
theorem callable21 : callable Try.prog 21 = true := by kernel_rfl
theorem callable22 : callable Try.prog 22 = true := by kernel_rfl
theorem callable23 : callable Try.prog 23 = true := by kernel_rfl
theorem callable24 : callable Try.prog 24 = true := by kernel_rfl
theorem callable25 : callable Try.prog 25 = true := by kernel_rfl
theorem callable26 : callable Try.prog 26 = true := by kernel_rfl
theorem callable27 : callable Try.prog 27 = true := by kernel_rfl
theorem callable28 : callable Try.prog 28 = true := by kernel_rfl
theorem callable29 : callable Try.prog 29 = true := by kernel_rfl
theorem callable30 : callable Try.prog 30 = true := by kernel_rfl
theorem callable31 : callable Try.prog 31 = true := by kernel_rfl
theorem callable32 : callable Try.prog 32 = true := by kernel_rfl
theorem callable33 : callable Try.prog 33 = true := by kernel_rfl
theorem callable34 : callable Try.prog 34 = true := by kernel_rfl
theorem callable35 : callable Try.prog 35 = true := by kernel_rfl
theorem callable36 : callable Try.prog 36 = true := by kernel_rfl
theorem callable37 : callable Try.prog 37 = true := by kernel_rfl
theorem callable38 : callable Try.prog 38 = true := by kernel_rfl
theorem callable39 : callable Try.prog 39 = true := by kernel_rfl
theorem callable40 : callable Try.prog 40 = true := by kernel_rfl
theorem callable41 : callable Try.prog 41 = true := by kernel_rfl
theorem callable42 : callable Try.prog 42 = true := by kernel_rfl
theorem callable43 : callable Try.prog 43 = true := by kernel_rfl
theorem callable44 : callable Try.prog 44 = true := by kernel_rfl
theorem callable45 : callable Try.prog 45 = true := by kernel_rfl
theorem callable46 : callable Try.prog 46 = true := by kernel_rfl
theorem callable47 : callable Try.prog 47 = true := by kernel_rfl
theorem callable48 : callable Try.prog 48 = true := by kernel_rfl
theorem callable49 : callable Try.prog 49 = true := by kernel_rfl
theorem callable50 : callable Try.prog 50 = true := by kernel_rfl
theorem callable51 : callable Try.prog 51 = true := by kernel_rfl
theorem callable52 : callable Try.prog 52 = true := by kernel_rfl
theorem callable53 : callable Try.prog 53 = true := by kernel_rfl
theorem callable54 : callable Try.prog 54 = true := by kernel_rfl
theorem callable55 : callable Try.prog 55 = true := by kernel_rfl
theorem callable56 : callable Try.prog 56 = true := by kernel_rfl
theorem callable57 : callable Try.prog 57 = true := by kernel_rfl
theorem callable58 : callable Try.prog 58 = true := by kernel_rfl
theorem callable59 : callable Try.prog 59 = true := by kernel_rfl
theorem callable60 : callable Try.prog 60 = true := by kernel_rfl
theorem callable61 : callable Try.prog 61 = true := by kernel_rfl
theorem callable62 : callable Try.prog 62 = true := by kernel_rfl
theorem callable63 : callable Try.prog 63 = true := by kernel_rfl
theorem callable64 : callable Try.prog 64 = true := by kernel_rfl
theorem callable65 : callable Try.prog 65 = true := by kernel_rfl
theorem callable66 : callable Try.prog 66 = true := by kernel_rfl
theorem callable67 : callable Try.prog 67 = true := by kernel_rfl
theorem callable68 : callable Try.prog 68 = true := by kernel_rfl
theorem callable69 : callable Try.prog 69 = true := by kernel_rfl
theorem callable70 : callable Try.prog 70 = true := by kernel_rfl
theorem callable71 : callable Try.prog 71 = true := by kernel_rfl
theorem callable72 : callable Try.prog 72 = true := by kernel_rfl
theorem callable73 : callable Try.prog 73 = true := by kernel_rfl
theorem callable74 : callable Try.prog 74 = true := by kernel_rfl
theorem callable75 : callable Try.prog 75 = true := by kernel_rfl
theorem callable76 : callable Try.prog 76 = true := by kernel_rfl
theorem callable77 : callable Try.prog 77 = true := by kernel_rfl
theorem callable78 : callable Try.prog 78 = true := by kernel_rfl
theorem callable79 : callable Try.prog 79 = true := by kernel_rfl
theorem callable80 : callable Try.prog 80 = true := by kernel_rfl
theorem callable81 : callable Try.prog 81 = true := by kernel_rfl
theorem callable82 : callable Try.prog 82 = true := by kernel_rfl
theorem callable83 : callable Try.prog 83 = true := by kernel_rfl
theorem callable84 : callable Try.prog 84 = true := by kernel_rfl
theorem callable85 : callable Try.prog 85 = true := by kernel_rfl
theorem callable86 : callable Try.prog 86 = true := by kernel_rfl
theorem callable87 : callable Try.prog 87 = true := by kernel_rfl
theorem callable88 : callable Try.prog 88 = true := by kernel_rfl
theorem callable89 : callable Try.prog 89 = true := by kernel_rfl
theorem callable90 : callable Try.prog 90 = true := by kernel_rfl
theorem callable91 : callable Try.prog 91 = true := by kernel_rfl
theorem callable92 : callable Try.prog 92 = true := by kernel_rfl
theorem callable93 : callable Try.prog 93 = true := by kernel_rfl
theorem callable94 : callable Try.prog 94 = true := by kernel_rfl
theorem callable95 : callable Try.prog 95 = true := by kernel_rfl
theorem callable96 : callable Try.prog 96 = true := by kernel_rfl
end Go.Proofs.Ytkkmmbogeeopaaa
