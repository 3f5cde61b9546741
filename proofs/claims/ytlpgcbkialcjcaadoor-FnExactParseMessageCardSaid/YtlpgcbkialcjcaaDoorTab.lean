/- What the seat's tables say of each type and function, as closed facts. Conditions: none. -/
import Derived.Test.YtlpgcbkialcjcaaDoorProg
import Derived.Test.YtlpgcbkialcjcaaDoorCv
namespace Go.Proofs.YtlpgcbkialcjcaaDoor
open Go.RowKit
theorem lay2 : layT Tryd.prog 2 = some (false, 1) := by kernel_rfl
theorem zero2 : zeroT Tryd.prog 2 = some [.int .i64 0] := by kernel_rfl
theorem int2 : intT Tryd.prog 2 = some .i64 := by kernel_rfl
theorem lay3 : layT Tryd.prog 3 = some (false, 1) := by kernel_rfl
theorem zero3 : zeroT Tryd.prog 3 = some [.int .i64 0] := by kernel_rfl
theorem int3 : intT Tryd.prog 3 = some .i64 := by kernel_rfl
theorem lay4 : layT Tryd.prog 4 = some (false, 1) := by kernel_rfl
theorem zero4 : zeroT Tryd.prog 4 = some [.bool false] := by kernel_rfl
theorem bool4 : Tryd.prog.underlying 4 = some .bool := Tryd.underlying4
theorem lay5 : layT Tryd.prog 5 = some (false, 1) := by kernel_rfl
theorem zero5 : zeroT Tryd.prog 5 = some [.int .u8 0] := by kernel_rfl
theorem int5 : intT Tryd.prog 5 = some .u8 := by kernel_rfl
theorem lay9 : layT Tryd.prog 9 = some (false, 1) := by kernel_rfl
theorem zero9 : zeroT Tryd.prog 9 = some [.string ⟨#[]⟩] := by kernel_rfl
theorem str9 : Tryd.prog.underlying 9 = some .string := Tryd.underlying9
theorem lay21 : layT Tryd.prog 21 = some (false, 1) := by kernel_rfl
theorem zero21 : zeroT Tryd.prog 21 = some [.int .i32 0] := by kernel_rfl
theorem int21 : intT Tryd.prog 21 = some .i32 := by kernel_rfl
theorem lay23 : layT Tryd.prog 23 = some (true, 6) := by kernel_rfl
theorem zero23 : zeroT Tryd.prog 23 = some [.int .i64 0, .int .i64 0, .int .i64 0, .int .i64 0, .int .i64 0, .int .i64 0] := by kernel_rfl
theorem fld23_0 : fldT Tryd.prog 23 0 = some 0 := by kernel_rfl
theorem fld23_1 : fldT Tryd.prog 23 1 = some 1 := by kernel_rfl
theorem fld23_2 : fldT Tryd.prog 23 2 = some 2 := by kernel_rfl
theorem fld23_3 : fldT Tryd.prog 23 3 = some 3 := by kernel_rfl
theorem fld23_4 : fldT Tryd.prog 23 4 = some 4 := by kernel_rfl
theorem fld23_5 : fldT Tryd.prog 23 5 = some 5 := by kernel_rfl
theorem lay26 : layT Tryd.prog 26 = some (true, 6) := by kernel_rfl
theorem zero26 : zeroT Tryd.prog 26 = some [.int .i64 0, .int .i64 0, .int .i64 0, .int .i64 0, .int .i64 0, .int .i64 0] := by kernel_rfl
theorem fld26_0 : fldT Tryd.prog 26 0 = some 0 := by kernel_rfl
theorem fld26_1 : fldT Tryd.prog 26 1 = some 1 := by kernel_rfl
theorem fld26_2 : fldT Tryd.prog 26 2 = some 2 := by kernel_rfl
theorem fld26_3 : fldT Tryd.prog 26 3 = some 3 := by kernel_rfl
theorem fld26_4 : fldT Tryd.prog 26 4 = some 4 := by kernel_rfl
theorem fld26_5 : fldT Tryd.prog 26 5 = some 5 := by kernel_rfl
theorem lay36 : layT Tryd.prog 36 = some (false, 1) := by kernel_rfl
theorem zero36 : zeroT Tryd.prog 36 = some [.slice none 0 0] := by kernel_rfl
theorem el36 : elT Tryd.prog 36 = some (9, 1, 16) := by kernel_rfl
theorem el36s : (elT Tryd.prog 36).isSome = true := by kernel_rfl
theorem lay44 : layT Tryd.prog 44 = some (false, 1) := by kernel_rfl
theorem zero44 : zeroT Tryd.prog 44 = some [.slice none 0 0] := by kernel_rfl
theorem el44 : elT Tryd.prog 44 = some (3, 1, 8) := by kernel_rfl
theorem el44s : (elT Tryd.prog 44).isSome = true := by kernel_rfl
theorem lay47 : layT Tryd.prog 47 = some (true, 4) := by kernel_rfl
theorem zero47 : zeroT Tryd.prog 47 = some [.string ⟨#[]⟩, .string ⟨#[]⟩, .string ⟨#[]⟩, .string ⟨#[]⟩] := by kernel_rfl
theorem lay56 : layT Tryd.prog 56 = some (false, 1) := by kernel_rfl
theorem zero56 : zeroT Tryd.prog 56 = some [.pointer none] := by kernel_rfl
theorem lay57 : layT Tryd.prog 57 = some (false, 1) := by kernel_rfl
theorem zero57 : zeroT Tryd.prog 57 = some [.slice none 0 0] := by kernel_rfl
theorem el57 : elT Tryd.prog 57 = some (5, 1, 1) := by kernel_rfl
theorem el57s : (elT Tryd.prog 57).isSome = true := by kernel_rfl
theorem lay59 : layT Tryd.prog 59 = some (true, 2) := by kernel_rfl
theorem zero59 : zeroT Tryd.prog 59 = some [.pointer none, .slice none 0 0] := by kernel_rfl
theorem fld59_0 : fldT Tryd.prog 59 0 = some 0 := by kernel_rfl
theorem fld59_1 : fldT Tryd.prog 59 1 = some 1 := by kernel_rfl
theorem lay72 : layT Tryd.prog 72 = some (false, 1) := by kernel_rfl
theorem zero72 : zeroT Tryd.prog 72 = some [.pointer none] := by kernel_rfl
theorem lay78 : layT Tryd.prog 78 = some (false, 1) := by kernel_rfl
theorem zero78 : zeroT Tryd.prog 78 = some [.int .u64 0] := by kernel_rfl
theorem int78 : intT Tryd.prog 78 = some .u64 := by kernel_rfl
theorem lay79 : layT Tryd.prog 79 = some (true, 256) := by kernel_rfl
theorem lay81 : layT Tryd.prog 81 = some (true, 2) := by kernel_rfl
theorem zero81 : zeroT Tryd.prog 81 = some [.int .u8 0, .int .u8 0] := by kernel_rfl
theorem fld81_0 : fldT Tryd.prog 81 0 = some 0 := by kernel_rfl
theorem fld81_1 : fldT Tryd.prog 81 1 = some 1 := by kernel_rfl
theorem lay82 : layT Tryd.prog 82 = some (true, 32) := by kernel_rfl
theorem lay84 : layT Tryd.prog 84 = some (true, 24) := by kernel_rfl
theorem zero84 : zeroT Tryd.prog 84 = some [.int .u8 0, .int .u8 0, .int .u8 0, .int .u8 0, .int .u8 0, .int .u8 0, .int .u8 0, .int .u8 0, .int .u8 0, .int .u8 0, .int .u8 0, .int .u8 0, .int .u8 0, .int .u8 0, .int .u8 0, .int .u8 0, .int .u8 0, .int .u8 0, .int .u8 0, .int .u8 0, .int .u8 0, .int .u8 0, .int .u8 0, .int .u8 0] := by kernel_rfl
theorem lay85 : layT Tryd.prog 85 = some (false, 1) := by kernel_rfl
theorem zero85 : zeroT Tryd.prog 85 = some [.int .u64 0] := by kernel_rfl
theorem int85 : intT Tryd.prog 85 = some .u64 := by kernel_rfl
theorem lay90 : layT Tryd.prog 90 = some (false, 1) := by kernel_rfl
theorem zero90 : zeroT Tryd.prog 90 = some [.int .u32 0] := by kernel_rfl
theorem int90 : intT Tryd.prog 90 = some .u32 := by kernel_rfl
theorem lay100 : layT Tryd.prog 100 = some (true, 20) := by kernel_rfl
theorem zero100 : zeroT Tryd.prog 100 = some [.int .u64 0, .int .u64 0, .int .u64 0, .int .u64 0, .int .u64 0, .int .u64 0, .int .u64 0, .int .u64 0, .int .u64 0, .int .u64 0, .int .u64 0, .int .u64 0, .int .u64 0, .int .u64 0, .int .u64 0, .int .u64 0, .int .u64 0, .int .u64 0, .int .u64 0, .int .u64 0] := by kernel_rfl
theorem lay101 : layT Tryd.prog 101 = some (true, 65) := by kernel_rfl
theorem lay106 : layT Tryd.prog 106 = some (true, 3) := by kernel_rfl
theorem fld106_0 : fldT Tryd.prog 106 0 = some 0 := by kernel_rfl
theorem fld106_1 : fldT Tryd.prog 106 1 = some 1 := by kernel_rfl
theorem fld106_2 : fldT Tryd.prog 106 2 = some 2 := by kernel_rfl
theorem lay112 : layT Tryd.prog 112 = some (true, 1) := by kernel_rfl
theorem zero112 : zeroT Tryd.prog 112 = some [.string ⟨#[]⟩] := by kernel_rfl
theorem fld112_0 : fldT Tryd.prog 112 0 = some 0 := by kernel_rfl
theorem lay113 : layT Tryd.prog 113 = some (true, 32) := by kernel_rfl
theorem lay114 : layT Tryd.prog 114 = some (true, 64) := by kernel_rfl
theorem callable2 : callable Tryd.prog 2 = true := by kernel_rfl
theorem callable3 : callable Tryd.prog 3 = true := by kernel_rfl
theorem callable4 : callable Tryd.prog 4 = true := by kernel_rfl
theorem callable5 : callable Tryd.prog 5 = true := by kernel_rfl
theorem callable6 : callable Tryd.prog 6 = true := by kernel_rfl
theorem callable7 : callable Tryd.prog 7 = true := by kernel_rfl
theorem callable8 : callable Tryd.prog 8 = true := by kernel_rfl
theorem callable9 : callable Tryd.prog 9 = true := by kernel_rfl
theorem callable10 : callable Tryd.prog 10 = true := by kernel_rfl
theorem callable11 : callable Tryd.prog 11 = true := by kernel_rfl
theorem callable12 : callable Tryd.prog 12 = true := by kernel_rfl
theorem callable13 : callable Tryd.prog 13 = true := by kernel_rfl
theorem callable14 : callable Tryd.prog 14 = true := by kernel_rfl
theorem callable15 : callable Tryd.prog 15 = true := by kernel_rfl
theorem callable16 : callable Tryd.prog 16 = true := by kernel_rfl
theorem callable17 : callable Tryd.prog 17 = true := by kernel_rfl
theorem callable18 : callable Tryd.prog 18 = true := by kernel_rfl
theorem callable19 : callable Tryd.prog 19 = true := by kernel_rfl
theorem callable20 : callable Tryd.prog 20 = true := by kernel_rfl
theorem callable21 : callable Tryd.prog 21 = true := by kernel_rfl
theorem callable22 : callable Tryd.prog 22 = true := by kernel_rfl
theorem callable23 : callable Tryd.prog 23 = true := by kernel_rfl
theorem callable24 : callable Tryd.prog 24 = true := by kernel_rfl
theorem callable25 : callable Tryd.prog 25 = true := by kernel_rfl
theorem callable26 : callable Tryd.prog 26 = true := by kernel_rfl
theorem callable27 : callable Tryd.prog 27 = true := by kernel_rfl
theorem callable28 : callable Tryd.prog 28 = true := by kernel_rfl
theorem callable29 : callable Tryd.prog 29 = true := by kernel_rfl
theorem callable30 : callable Tryd.prog 30 = true := by kernel_rfl
theorem callable31 : callable Tryd.prog 31 = true := by kernel_rfl
theorem callable32 : callable Tryd.prog 32 = true := by kernel_rfl
theorem callable33 : callable Tryd.prog 33 = true := by kernel_rfl
theorem callable34 : callable Tryd.prog 34 = true := by kernel_rfl
theorem callable35 : callable Tryd.prog 35 = true := by kernel_rfl
theorem callable36 : callable Tryd.prog 36 = true := by kernel_rfl
theorem callable37 : callable Tryd.prog 37 = true := by kernel_rfl
theorem callable38 : callable Tryd.prog 38 = true := by kernel_rfl
theorem callable39 : callable Tryd.prog 39 = true := by kernel_rfl
theorem callable40 : callable Tryd.prog 40 = true := by kernel_rfl
theorem callable41 : callable Tryd.prog 41 = true := by kernel_rfl
theorem callable42 : callable Tryd.prog 42 = true := by kernel_rfl
theorem callable43 : callable Tryd.prog 43 = true := by kernel_rfl
theorem callable44 : callable Tryd.prog 44 = true := by kernel_rfl
theorem callable45 : callable Tryd.prog 45 = true := by kernel_rfl
theorem callable46 : callable Tryd.prog 46 = true := by kernel_rfl
theorem callable47 : callable Tryd.prog 47 = true := by kernel_rfl
theorem callable48 : callable Tryd.prog 48 = true := by kernel_rfl
theorem callable49 : callable Tryd.prog 49 = true := by kernel_rfl
theorem callable51 : callable Tryd.prog 51 = true := by kernel_rfl
theorem callable52 : callable Tryd.prog 52 = true := by kernel_rfl
theorem callable53 : callable Tryd.prog 53 = true := by kernel_rfl
theorem callable54 : callable Tryd.prog 54 = true := by kernel_rfl
theorem callable55 : callable Tryd.prog 55 = true := by kernel_rfl
theorem callable56 : callable Tryd.prog 56 = true := by kernel_rfl
theorem callable59 : callable Tryd.prog 59 = true := by kernel_rfl
theorem callable61 : callable Tryd.prog 61 = true := by kernel_rfl
theorem callable62 : callable Tryd.prog 62 = true := by kernel_rfl
theorem callable63 : callable Tryd.prog 63 = true := by kernel_rfl
theorem callable64 : callable Tryd.prog 64 = true := by kernel_rfl
theorem callable65 : callable Tryd.prog 65 = true := by kernel_rfl
theorem callable66 : callable Tryd.prog 66 = true := by kernel_rfl
theorem callable67 : callable Tryd.prog 67 = true := by kernel_rfl
theorem callable68 : callable Tryd.prog 68 = true := by kernel_rfl
theorem callable70 : callable Tryd.prog 70 = true := by kernel_rfl
theorem callable71 : callable Tryd.prog 71 = true := by kernel_rfl
theorem callable72 : callable Tryd.prog 72 = true := by kernel_rfl
theorem callable73 : callable Tryd.prog 73 = true := by kernel_rfl
theorem callable74 : callable Tryd.prog 74 = true := by kernel_rfl
theorem callable75 : callable Tryd.prog 75 = true := by kernel_rfl
theorem callable76 : callable Tryd.prog 76 = true := by kernel_rfl
theorem callable77 : callable Tryd.prog 77 = true := by kernel_rfl
theorem callable78 : callable Tryd.prog 78 = true := by kernel_rfl
theorem callable79 : callable Tryd.prog 79 = true := by kernel_rfl
theorem callable80 : callable Tryd.prog 80 = true := by kernel_rfl
theorem callable81 : callable Tryd.prog 81 = true := by kernel_rfl
theorem callable82 : callable Tryd.prog 82 = true := by kernel_rfl
theorem callable83 : callable Tryd.prog 83 = true := by kernel_rfl
theorem callable84 : callable Tryd.prog 84 = true := by kernel_rfl
theorem callable85 : callable Tryd.prog 85 = true := by kernel_rfl
theorem callable86 : callable Tryd.prog 86 = true := by kernel_rfl
theorem callable87 : callable Tryd.prog 87 = true := by kernel_rfl
theorem callable119 : callable Tryd.prog 119 = true := by kernel_rfl
end Go.Proofs.YtlpgcbkialcjcaaDoor
