/- What the seat's tables say of each type and function, as closed facts. Conditions: none. -/
import Derived.Test.YtlpgcbkialcjcaaGreatDoorProg
import Derived.Test.YtlpgcbkialcjcaaGreatDoorCv
namespace Go.Proofs.YtlpgcbkialcjcaaGreatDoor
open Go.RowKit
theorem lay2 : layT Tryz.prog 2 = some (false, 1) := by kernel_rfl
theorem zero2 : zeroT Tryz.prog 2 = some [.int .i64 0] := by kernel_rfl
theorem int2 : intT Tryz.prog 2 = some .i64 := by kernel_rfl
theorem lay3 : layT Tryz.prog 3 = some (false, 1) := by kernel_rfl
theorem zero3 : zeroT Tryz.prog 3 = some [.int .i64 0] := by kernel_rfl
theorem int3 : intT Tryz.prog 3 = some .i64 := by kernel_rfl
theorem lay4 : layT Tryz.prog 4 = some (false, 1) := by kernel_rfl
theorem zero4 : zeroT Tryz.prog 4 = some [.bool false] := by kernel_rfl
theorem bool4 : Tryz.prog.underlying 4 = some .bool := Tryz.underlying4
theorem lay5 : layT Tryz.prog 5 = some (false, 1) := by kernel_rfl
theorem zero5 : zeroT Tryz.prog 5 = some [.int .u8 0] := by kernel_rfl
theorem int5 : intT Tryz.prog 5 = some .u8 := by kernel_rfl
theorem lay9 : layT Tryz.prog 9 = some (false, 1) := by kernel_rfl
theorem zero9 : zeroT Tryz.prog 9 = some [.string ⟨#[]⟩] := by kernel_rfl
theorem str9 : Tryz.prog.underlying 9 = some .string := Tryz.underlying9
theorem lay21 : layT Tryz.prog 21 = some (false, 1) := by kernel_rfl
theorem zero21 : zeroT Tryz.prog 21 = some [.int .i32 0] := by kernel_rfl
theorem int21 : intT Tryz.prog 21 = some .i32 := by kernel_rfl
theorem lay22 : layT Tryz.prog 22 = some (false, 1) := by kernel_rfl
theorem zero22 : zeroT Tryz.prog 22 = some [.slice none 0 0] := by kernel_rfl
theorem el22 : elT Tryz.prog 22 = some (5, 1, 1) := by kernel_rfl
theorem el22s : (elT Tryz.prog 22).isSome = true := by kernel_rfl
theorem lay25 : layT Tryz.prog 25 = some (true, 6) := by kernel_rfl
theorem zero25 : zeroT Tryz.prog 25 = some [.int .i64 0, .int .i64 0, .int .i64 0, .int .i64 0, .int .i64 0, .int .i64 0] := by kernel_rfl
theorem fld25_0 : fldT Tryz.prog 25 0 = some 0 := by kernel_rfl
theorem fld25_1 : fldT Tryz.prog 25 1 = some 1 := by kernel_rfl
theorem fld25_2 : fldT Tryz.prog 25 2 = some 2 := by kernel_rfl
theorem fld25_3 : fldT Tryz.prog 25 3 = some 3 := by kernel_rfl
theorem fld25_4 : fldT Tryz.prog 25 4 = some 4 := by kernel_rfl
theorem fld25_5 : fldT Tryz.prog 25 5 = some 5 := by kernel_rfl
theorem scal25 : scalT Tryz.prog 25 = some [some .i64, some .i64, some .i64, some .i64, some .i64, some .i64] := by kernel_rfl
theorem lay33 : layT Tryz.prog 33 = some (false, 1) := by kernel_rfl
theorem zero33 : zeroT Tryz.prog 33 = some [.slice none 0 0] := by kernel_rfl
theorem el33 : elT Tryz.prog 33 = some (25, 6, 48) := by kernel_rfl
theorem el33s : (elT Tryz.prog 33).isSome = true := by kernel_rfl
theorem lay41 : layT Tryz.prog 41 = some (false, 1) := by kernel_rfl
theorem zero41 : zeroT Tryz.prog 41 = some [.slice none 0 0] := by kernel_rfl
theorem el41 : elT Tryz.prog 41 = some (3, 1, 8) := by kernel_rfl
theorem el41s : (elT Tryz.prog 41).isSome = true := by kernel_rfl
theorem lay50 : layT Tryz.prog 50 = some (false, 1) := by kernel_rfl
theorem zero50 : zeroT Tryz.prog 50 = some [.slice none 0 0] := by kernel_rfl
theorem el50 : elT Tryz.prog 50 = some (9, 1, 16) := by kernel_rfl
theorem el50s : (elT Tryz.prog 50).isSome = true := by kernel_rfl
theorem lay55 : layT Tryz.prog 55 = some (true, 4) := by kernel_rfl
theorem zero55 : zeroT Tryz.prog 55 = some [.string ⟨#[]⟩, .string ⟨#[]⟩, .string ⟨#[]⟩, .string ⟨#[]⟩] := by kernel_rfl
theorem lay56 : layT Tryz.prog 56 = some (false, 1) := by kernel_rfl
theorem zero56 : zeroT Tryz.prog 56 = some [.pointer none] := by kernel_rfl
theorem lay57 : layT Tryz.prog 57 = some (false, 1) := by kernel_rfl
theorem zero57 : zeroT Tryz.prog 57 = some [.int .u64 0] := by kernel_rfl
theorem int57 : intT Tryz.prog 57 = some .u64 := by kernel_rfl
theorem lay59 : layT Tryz.prog 59 = some (true, 3) := by kernel_rfl
theorem zero59 : zeroT Tryz.prog 59 = some [.slice none 0 0, .int .i64 0, .int .u64 0] := by kernel_rfl
theorem fld59_0 : fldT Tryz.prog 59 0 = some 0 := by kernel_rfl
theorem fld59_1 : fldT Tryz.prog 59 1 = some 1 := by kernel_rfl
theorem fld59_2 : fldT Tryz.prog 59 2 = some 2 := by kernel_rfl
theorem lay69 : layT Tryz.prog 69 = some (false, 1) := by kernel_rfl
theorem zero69 : zeroT Tryz.prog 69 = some [.nilFunc] := by kernel_rfl
theorem lay79 : layT Tryz.prog 79 = some (false, 1) := by kernel_rfl
theorem zero79 : zeroT Tryz.prog 79 = some [.pointer none] := by kernel_rfl
theorem lay81 : layT Tryz.prog 81 = some (true, 2) := by kernel_rfl
theorem zero81 : zeroT Tryz.prog 81 = some [.pointer none, .slice none 0 0] := by kernel_rfl
theorem fld81_0 : fldT Tryz.prog 81 0 = some 0 := by kernel_rfl
theorem fld81_1 : fldT Tryz.prog 81 1 = some 1 := by kernel_rfl
theorem lay93 : layT Tryz.prog 93 = some (false, 1) := by kernel_rfl
theorem zero93 : zeroT Tryz.prog 93 = some [.int .u64 0] := by kernel_rfl
theorem int93 : intT Tryz.prog 93 = some .u64 := by kernel_rfl
theorem lay101 : layT Tryz.prog 101 = some (false, 1) := by kernel_rfl
theorem zero101 : zeroT Tryz.prog 101 = some [.pointer none] := by kernel_rfl
theorem lay106 : layT Tryz.prog 106 = some (true, 256) := by kernel_rfl
theorem lay108 : layT Tryz.prog 108 = some (true, 2) := by kernel_rfl
theorem zero108 : zeroT Tryz.prog 108 = some [.int .u8 0, .int .u8 0] := by kernel_rfl
theorem fld108_0 : fldT Tryz.prog 108 0 = some 0 := by kernel_rfl
theorem fld108_1 : fldT Tryz.prog 108 1 = some 1 := by kernel_rfl
theorem lay109 : layT Tryz.prog 109 = some (true, 32) := by kernel_rfl
theorem lay112 : layT Tryz.prog 112 = some (true, 24) := by kernel_rfl
theorem zero112 : zeroT Tryz.prog 112 = some [.int .u8 0, .int .u8 0, .int .u8 0, .int .u8 0, .int .u8 0, .int .u8 0, .int .u8 0, .int .u8 0, .int .u8 0, .int .u8 0, .int .u8 0, .int .u8 0, .int .u8 0, .int .u8 0, .int .u8 0, .int .u8 0, .int .u8 0, .int .u8 0, .int .u8 0, .int .u8 0, .int .u8 0, .int .u8 0, .int .u8 0, .int .u8 0] := by kernel_rfl
theorem lay117 : layT Tryz.prog 117 = some (false, 1) := by kernel_rfl
theorem zero117 : zeroT Tryz.prog 117 = some [.int .u32 0] := by kernel_rfl
theorem int117 : intT Tryz.prog 117 = some .u32 := by kernel_rfl
theorem lay127 : layT Tryz.prog 127 = some (true, 20) := by kernel_rfl
theorem zero127 : zeroT Tryz.prog 127 = some [.int .u64 0, .int .u64 0, .int .u64 0, .int .u64 0, .int .u64 0, .int .u64 0, .int .u64 0, .int .u64 0, .int .u64 0, .int .u64 0, .int .u64 0, .int .u64 0, .int .u64 0, .int .u64 0, .int .u64 0, .int .u64 0, .int .u64 0, .int .u64 0, .int .u64 0, .int .u64 0] := by kernel_rfl
theorem lay128 : layT Tryz.prog 128 = some (true, 65) := by kernel_rfl
theorem lay133 : layT Tryz.prog 133 = some (true, 3) := by kernel_rfl
theorem fld133_0 : fldT Tryz.prog 133 0 = some 0 := by kernel_rfl
theorem fld133_1 : fldT Tryz.prog 133 1 = some 1 := by kernel_rfl
theorem fld133_2 : fldT Tryz.prog 133 2 = some 2 := by kernel_rfl
theorem lay140 : layT Tryz.prog 140 = some (true, 1) := by kernel_rfl
theorem zero140 : zeroT Tryz.prog 140 = some [.string ⟨#[]⟩] := by kernel_rfl
theorem fld140_0 : fldT Tryz.prog 140 0 = some 0 := by kernel_rfl
theorem lay141 : layT Tryz.prog 141 = some (true, 32) := by kernel_rfl
theorem lay142 : layT Tryz.prog 142 = some (true, 64) := by kernel_rfl
theorem callable2 : callable Tryz.prog 2 = true := by kernel_rfl
theorem callable3 : callable Tryz.prog 3 = true := by kernel_rfl
theorem callable4 : callable Tryz.prog 4 = true := by kernel_rfl
theorem callable5 : callable Tryz.prog 5 = true := by kernel_rfl
theorem callable6 : callable Tryz.prog 6 = true := by kernel_rfl
theorem callable7 : callable Tryz.prog 7 = true := by kernel_rfl
theorem callable8 : callable Tryz.prog 8 = true := by kernel_rfl
theorem callable9 : callable Tryz.prog 9 = true := by kernel_rfl
theorem callable10 : callable Tryz.prog 10 = true := by kernel_rfl
theorem callable11 : callable Tryz.prog 11 = true := by kernel_rfl
theorem callable12 : callable Tryz.prog 12 = true := by kernel_rfl
theorem callable13 : callable Tryz.prog 13 = true := by kernel_rfl
theorem callable14 : callable Tryz.prog 14 = true := by kernel_rfl
theorem callable15 : callable Tryz.prog 15 = true := by kernel_rfl
theorem callable16 : callable Tryz.prog 16 = true := by kernel_rfl
theorem callable17 : callable Tryz.prog 17 = true := by kernel_rfl
theorem callable18 : callable Tryz.prog 18 = true := by kernel_rfl
theorem callable19 : callable Tryz.prog 19 = true := by kernel_rfl
theorem callable20 : callable Tryz.prog 20 = true := by kernel_rfl
theorem callable21 : callable Tryz.prog 21 = true := by kernel_rfl
theorem callable22 : callable Tryz.prog 22 = true := by kernel_rfl
theorem callable23 : callable Tryz.prog 23 = true := by kernel_rfl
theorem callable24 : callable Tryz.prog 24 = true := by kernel_rfl
theorem callable25 : callable Tryz.prog 25 = true := by kernel_rfl
theorem callable26 : callable Tryz.prog 26 = true := by kernel_rfl
theorem callable27 : callable Tryz.prog 27 = true := by kernel_rfl
theorem callable28 : callable Tryz.prog 28 = true := by kernel_rfl
theorem callable29 : callable Tryz.prog 29 = true := by kernel_rfl
theorem callable30 : callable Tryz.prog 30 = true := by kernel_rfl
theorem callable31 : callable Tryz.prog 31 = true := by kernel_rfl
theorem callable32 : callable Tryz.prog 32 = true := by kernel_rfl
theorem callable33 : callable Tryz.prog 33 = true := by kernel_rfl
theorem callable34 : callable Tryz.prog 34 = true := by kernel_rfl
theorem callable35 : callable Tryz.prog 35 = true := by kernel_rfl
theorem callable36 : callable Tryz.prog 36 = true := by kernel_rfl
theorem callable37 : callable Tryz.prog 37 = true := by kernel_rfl
theorem callable38 : callable Tryz.prog 38 = true := by kernel_rfl
theorem callable39 : callable Tryz.prog 39 = true := by kernel_rfl
theorem callable40 : callable Tryz.prog 40 = true := by kernel_rfl
theorem callable41 : callable Tryz.prog 41 = true := by kernel_rfl
theorem callable42 : callable Tryz.prog 42 = true := by kernel_rfl
theorem callable43 : callable Tryz.prog 43 = true := by kernel_rfl
theorem callable44 : callable Tryz.prog 44 = true := by kernel_rfl
theorem callable45 : callable Tryz.prog 45 = true := by kernel_rfl
theorem callable46 : callable Tryz.prog 46 = true := by kernel_rfl
theorem callable47 : callable Tryz.prog 47 = true := by kernel_rfl
theorem callable48 : callable Tryz.prog 48 = true := by kernel_rfl
theorem callable49 : callable Tryz.prog 49 = true := by kernel_rfl
theorem callable50 : callable Tryz.prog 50 = true := by kernel_rfl
theorem callable51 : callable Tryz.prog 51 = true := by kernel_rfl
theorem callable52 : callable Tryz.prog 52 = true := by kernel_rfl
theorem callable53 : callable Tryz.prog 53 = true := by kernel_rfl
theorem callable54 : callable Tryz.prog 54 = true := by kernel_rfl
theorem callable55 : callable Tryz.prog 55 = true := by kernel_rfl
theorem callable56 : callable Tryz.prog 56 = true := by kernel_rfl
theorem callable57 : callable Tryz.prog 57 = true := by kernel_rfl
theorem callable58 : callable Tryz.prog 58 = true := by kernel_rfl
theorem callable59 : callable Tryz.prog 59 = true := by kernel_rfl
theorem callable60 : callable Tryz.prog 60 = true := by kernel_rfl
theorem callable61 : callable Tryz.prog 61 = true := by kernel_rfl
theorem callable62 : callable Tryz.prog 62 = true := by kernel_rfl
theorem callable63 : callable Tryz.prog 63 = true := by kernel_rfl
theorem callable64 : callable Tryz.prog 64 = true := by kernel_rfl
theorem callable65 : callable Tryz.prog 65 = true := by kernel_rfl
theorem callable66 : callable Tryz.prog 66 = true := by kernel_rfl
theorem callable67 : callable Tryz.prog 67 = true := by kernel_rfl
theorem callable68 : callable Tryz.prog 68 = true := by kernel_rfl
theorem callable69 : callable Tryz.prog 69 = true := by kernel_rfl
theorem callable70 : callable Tryz.prog 70 = true := by kernel_rfl
theorem callable71 : callable Tryz.prog 71 = true := by kernel_rfl
theorem callable72 : callable Tryz.prog 72 = true := by kernel_rfl
theorem callable74 : callable Tryz.prog 74 = true := by kernel_rfl
theorem callable75 : callable Tryz.prog 75 = true := by kernel_rfl
theorem callable76 : callable Tryz.prog 76 = true := by kernel_rfl
theorem callable77 : callable Tryz.prog 77 = true := by kernel_rfl
theorem callable78 : callable Tryz.prog 78 = true := by kernel_rfl
theorem callable79 : callable Tryz.prog 79 = true := by kernel_rfl
theorem callable80 : callable Tryz.prog 80 = true := by kernel_rfl
theorem callable81 : callable Tryz.prog 81 = true := by kernel_rfl
theorem callable83 : callable Tryz.prog 83 = true := by kernel_rfl
theorem callable84 : callable Tryz.prog 84 = true := by kernel_rfl
theorem callable85 : callable Tryz.prog 85 = true := by kernel_rfl
theorem callable86 : callable Tryz.prog 86 = true := by kernel_rfl
theorem callable87 : callable Tryz.prog 87 = true := by kernel_rfl
theorem callable88 : callable Tryz.prog 88 = true := by kernel_rfl
theorem callable89 : callable Tryz.prog 89 = true := by kernel_rfl
theorem callable90 : callable Tryz.prog 90 = true := by kernel_rfl
theorem callable93 : callable Tryz.prog 93 = true := by kernel_rfl
theorem callable95 : callable Tryz.prog 95 = true := by kernel_rfl
theorem callable96 : callable Tryz.prog 96 = true := by kernel_rfl
theorem callable97 : callable Tryz.prog 97 = true := by kernel_rfl
theorem callable98 : callable Tryz.prog 98 = true := by kernel_rfl
theorem callable99 : callable Tryz.prog 99 = true := by kernel_rfl
theorem callable100 : callable Tryz.prog 100 = true := by kernel_rfl
theorem callable101 : callable Tryz.prog 101 = true := by kernel_rfl
theorem callable102 : callable Tryz.prog 102 = true := by kernel_rfl
theorem callable103 : callable Tryz.prog 103 = true := by kernel_rfl
theorem callable105 : callable Tryz.prog 105 = true := by kernel_rfl
theorem callable106 : callable Tryz.prog 106 = true := by kernel_rfl
theorem callable107 : callable Tryz.prog 107 = true := by kernel_rfl
theorem callable108 : callable Tryz.prog 108 = true := by kernel_rfl
theorem callable109 : callable Tryz.prog 109 = true := by kernel_rfl
theorem callable110 : callable Tryz.prog 110 = true := by kernel_rfl
theorem callable111 : callable Tryz.prog 111 = true := by kernel_rfl
theorem callable112 : callable Tryz.prog 112 = true := by kernel_rfl
theorem callable113 : callable Tryz.prog 113 = true := by kernel_rfl
theorem callable114 : callable Tryz.prog 114 = true := by kernel_rfl
theorem callable115 : callable Tryz.prog 115 = true := by kernel_rfl
theorem callable116 : callable Tryz.prog 116 = true := by kernel_rfl
theorem callable117 : callable Tryz.prog 117 = true := by kernel_rfl
theorem callable118 : callable Tryz.prog 118 = true := by kernel_rfl
theorem callable119 : callable Tryz.prog 119 = true := by kernel_rfl
theorem callable120 : callable Tryz.prog 120 = true := by kernel_rfl
theorem callable121 : callable Tryz.prog 121 = true := by kernel_rfl
theorem callable122 : callable Tryz.prog 122 = true := by kernel_rfl
theorem callable155 : callable Tryz.prog 155 = true := by kernel_rfl
end Go.Proofs.YtlpgcbkialcjcaaGreatDoor
