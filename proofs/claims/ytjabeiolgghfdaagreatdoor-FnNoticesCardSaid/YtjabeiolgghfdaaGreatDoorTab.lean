/- What the seat's tables say of each type and function, as closed facts. Conditions: none. -/
import Derived.Test.YtjabeiolgghfdaaGreatDoorProg
import Derived.Test.YtjabeiolgghfdaaGreatDoorCv
namespace Go.Proofs.YtjabeiolgghfdaaGreatDoor
open Go.RowKit
theorem lay2 : layT Tryz.prog 2 = some (false, 1) := by kernel_rfl
theorem zero2 : zeroT Tryz.prog 2 = some [.int .i64 0] := by kernel_rfl
theorem int2 : intT Tryz.prog 2 = some .i64 := by kernel_rfl
theorem lay3 : layT Tryz.prog 3 = some (false, 1) := by kernel_rfl
theorem zero3 : zeroT Tryz.prog 3 = some [.int .i64 0] := by kernel_rfl
theorem int3 : intT Tryz.prog 3 = some .i64 := by kernel_rfl
theorem lay4 : layT Tryz.prog 4 = some (false, 1) := by kernel_rfl
theorem zero4 : zeroT Tryz.prog 4 = some [.bool false] := by kernel_rfl
theorem bool4 : Tryz.prog.underlying 4 = some .bool := Tryz.underlying4
theorem lay5 : layT Tryz.prog 5 = some (false, 1) := by kernel_rfl
theorem zero5 : zeroT Tryz.prog 5 = some [.int .u8 0] := by kernel_rfl
theorem int5 : intT Tryz.prog 5 = some .u8 := by kernel_rfl
theorem lay9 : layT Tryz.prog 9 = some (false, 1) := by kernel_rfl
theorem zero9 : zeroT Tryz.prog 9 = some [.string ⟨#[]⟩] := by kernel_rfl
theorem str9 : Tryz.prog.underlying 9 = some .string := Tryz.underlying9
theorem lay21 : layT Tryz.prog 21 = some (false, 1) := by kernel_rfl
theorem zero21 : zeroT Tryz.prog 21 = some [.int .i32 0] := by kernel_rfl
theorem int21 : intT Tryz.prog 21 = some .i32 := by kernel_rfl
theorem lay22 : layT Tryz.prog 22 = some (false, 1) := by kernel_rfl
theorem zero22 : zeroT Tryz.prog 22 = some [.slice none 0 0] := by kernel_rfl
theorem el22 : elT Tryz.prog 22 = some (5, 1, 1) := by kernel_rfl
theorem el22s : (elT Tryz.prog 22).isSome = true := by kernel_rfl
theorem lay25 : layT Tryz.prog 25 = some (true, 7) := by kernel_rfl
theorem zero25 : zeroT Tryz.prog 25 = some [.int .i64 0, .int .i64 0, .int .i64 0, .int .i64 0, .int .i64 0, .int .i64 0, .int .i64 0] := by kernel_rfl
theorem fld25_0 : fldT Tryz.prog 25 0 = some 0 := by kernel_rfl
theorem fld25_1 : fldT Tryz.prog 25 1 = some 1 := by kernel_rfl
theorem fld25_2 : fldT Tryz.prog 25 2 = some 2 := by kernel_rfl
theorem fld25_3 : fldT Tryz.prog 25 3 = some 3 := by kernel_rfl
theorem fld25_4 : fldT Tryz.prog 25 4 = some 4 := by kernel_rfl
theorem fld25_5 : fldT Tryz.prog 25 5 = some 5 := by kernel_rfl
theorem fld25_6 : fldT Tryz.prog 25 6 = some 6 := by kernel_rfl
theorem scal25 : scalT Tryz.prog 25 = some [some .i64, some .i64, some .i64, some .i64, some .i64, some .i64, some .i64] := by kernel_rfl
theorem lay32 : layT Tryz.prog 32 = some (false, 1) := by kernel_rfl
theorem zero32 : zeroT Tryz.prog 32 = some [.slice none 0 0] := by kernel_rfl
theorem el32 : elT Tryz.prog 32 = some (25, 7, 56) := by kernel_rfl
theorem el32s : (elT Tryz.prog 32).isSome = true := by kernel_rfl
theorem lay35 : layT Tryz.prog 35 = some (false, 1) := by kernel_rfl
theorem zero35 : zeroT Tryz.prog 35 = some [.slice none 0 0] := by kernel_rfl
theorem el35 : elT Tryz.prog 35 = some (3, 1, 8) := by kernel_rfl
theorem el35s : (elT Tryz.prog 35).isSome = true := by kernel_rfl
theorem lay45 : layT Tryz.prog 45 = some (false, 1) := by kernel_rfl
theorem zero45 : zeroT Tryz.prog 45 = some [.pointer none] := by kernel_rfl
theorem lay46 : layT Tryz.prog 46 = some (false, 1) := by kernel_rfl
theorem zero46 : zeroT Tryz.prog 46 = some [.int .u64 0] := by kernel_rfl
theorem int46 : intT Tryz.prog 46 = some .u64 := by kernel_rfl
theorem lay48 : layT Tryz.prog 48 = some (true, 3) := by kernel_rfl
theorem zero48 : zeroT Tryz.prog 48 = some [.slice none 0 0, .int .i64 0, .int .u64 0] := by kernel_rfl
theorem fld48_0 : fldT Tryz.prog 48 0 = some 0 := by kernel_rfl
theorem fld48_1 : fldT Tryz.prog 48 1 = some 1 := by kernel_rfl
theorem fld48_2 : fldT Tryz.prog 48 2 = some 2 := by kernel_rfl
theorem lay51 : layT Tryz.prog 51 = some (false, 1) := by kernel_rfl
theorem zero51 : zeroT Tryz.prog 51 = some [.nilFunc] := by kernel_rfl
theorem lay53 : layT Tryz.prog 53 = some (false, 1) := by kernel_rfl
theorem zero53 : zeroT Tryz.prog 53 = some [.slice none 0 0] := by kernel_rfl
theorem el53 : elT Tryz.prog 53 = some (9, 1, 16) := by kernel_rfl
theorem el53s : (elT Tryz.prog 53).isSome = true := by kernel_rfl
theorem lay74 : layT Tryz.prog 74 = some (false, 1) := by kernel_rfl
theorem zero74 : zeroT Tryz.prog 74 = some [.pointer none] := by kernel_rfl
theorem lay76 : layT Tryz.prog 76 = some (true, 2) := by kernel_rfl
theorem zero76 : zeroT Tryz.prog 76 = some [.pointer none, .slice none 0 0] := by kernel_rfl
theorem fld76_0 : fldT Tryz.prog 76 0 = some 0 := by kernel_rfl
theorem fld76_1 : fldT Tryz.prog 76 1 = some 1 := by kernel_rfl
theorem lay89 : layT Tryz.prog 89 = some (false, 1) := by kernel_rfl
theorem zero89 : zeroT Tryz.prog 89 = some [.pointer none] := by kernel_rfl
theorem lay91 : layT Tryz.prog 91 = some (false, 1) := by kernel_rfl
theorem zero91 : zeroT Tryz.prog 91 = some [.int .u64 0] := by kernel_rfl
theorem int91 : intT Tryz.prog 91 = some .u64 := by kernel_rfl
theorem lay96 : layT Tryz.prog 96 = some (true, 256) := by kernel_rfl
theorem lay98 : layT Tryz.prog 98 = some (true, 2) := by kernel_rfl
theorem zero98 : zeroT Tryz.prog 98 = some [.int .u8 0, .int .u8 0] := by kernel_rfl
theorem fld98_0 : fldT Tryz.prog 98 0 = some 0 := by kernel_rfl
theorem fld98_1 : fldT Tryz.prog 98 1 = some 1 := by kernel_rfl
theorem lay99 : layT Tryz.prog 99 = some (true, 32) := by kernel_rfl
theorem lay106 : layT Tryz.prog 106 = some (true, 24) := by kernel_rfl
theorem zero106 : zeroT Tryz.prog 106 = some [.int .u8 0, .int .u8 0, .int .u8 0, .int .u8 0, .int .u8 0, .int .u8 0, .int .u8 0, .int .u8 0, .int .u8 0, .int .u8 0, .int .u8 0, .int .u8 0, .int .u8 0, .int .u8 0, .int .u8 0, .int .u8 0, .int .u8 0, .int .u8 0, .int .u8 0, .int .u8 0, .int .u8 0, .int .u8 0, .int .u8 0, .int .u8 0] := by kernel_rfl
theorem lay111 : layT Tryz.prog 111 = some (false, 1) := by kernel_rfl
theorem zero111 : zeroT Tryz.prog 111 = some [.int .u32 0] := by kernel_rfl
theorem int111 : intT Tryz.prog 111 = some .u32 := by kernel_rfl
theorem lay118 : layT Tryz.prog 118 = some (true, 3) := by kernel_rfl
theorem fld118_0 : fldT Tryz.prog 118 0 = some 0 := by kernel_rfl
theorem fld118_1 : fldT Tryz.prog 118 1 = some 1 := by kernel_rfl
theorem fld118_2 : fldT Tryz.prog 118 2 = some 2 := by kernel_rfl
theorem lay121 : layT Tryz.prog 121 = some (true, 20) := by kernel_rfl
theorem zero121 : zeroT Tryz.prog 121 = some [.int .u64 0, .int .u64 0, .int .u64 0, .int .u64 0, .int .u64 0, .int .u64 0, .int .u64 0, .int .u64 0, .int .u64 0, .int .u64 0, .int .u64 0, .int .u64 0, .int .u64 0, .int .u64 0, .int .u64 0, .int .u64 0, .int .u64 0, .int .u64 0, .int .u64 0, .int .u64 0] := by kernel_rfl
theorem lay122 : layT Tryz.prog 122 = some (true, 65) := by kernel_rfl
theorem lay128 : layT Tryz.prog 128 = some (true, 1) := by kernel_rfl
theorem zero128 : zeroT Tryz.prog 128 = some [.string ⟨#[]⟩] := by kernel_rfl
theorem fld128_0 : fldT Tryz.prog 128 0 = some 0 := by kernel_rfl
theorem lay130 : layT Tryz.prog 130 = some (true, 32) := by kernel_rfl
theorem lay131 : layT Tryz.prog 131 = some (true, 64) := by kernel_rfl
theorem callable2 : callable Tryz.prog 2 = true := by kernel_rfl
theorem callable3 : callable Tryz.prog 3 = true := by kernel_rfl
theorem callable4 : callable Tryz.prog 4 = true := by kernel_rfl
theorem callable5 : callable Tryz.prog 5 = true := by kernel_rfl
theorem callable6 : callable Tryz.prog 6 = true := by kernel_rfl
theorem callable7 : callable Tryz.prog 7 = true := by kernel_rfl
theorem callable8 : callable Tryz.prog 8 = true := by kernel_rfl
theorem callable9 : callable Tryz.prog 9 = true := by kernel_rfl
theorem callable10 : callable Tryz.prog 10 = true := by kernel_rfl
theorem callable11 : callable Tryz.prog 11 = true := by kernel_rfl
theorem callable12 : callable Tryz.prog 12 = true := by kernel_rfl
theorem callable13 : callable Tryz.prog 13 = true := by kernel_rfl
theorem callable14 : callable Tryz.prog 14 = true := by kernel_rfl
theorem callable15 : callable Tryz.prog 15 = true := by kernel_rfl
theorem callable16 : callable Tryz.prog 16 = true := by kernel_rfl
theorem callable17 : callable Tryz.prog 17 = true := by kernel_rfl
theorem callable18 : callable Tryz.prog 18 = true := by kernel_rfl
theorem callable19 : callable Tryz.prog 19 = true := by kernel_rfl
theorem callable20 : callable Tryz.prog 20 = true := by kernel_rfl
theorem callable21 : callable Tryz.prog 21 = true := by kernel_rfl
theorem callable22 : callable Tryz.prog 22 = true := by kernel_rfl
theorem callable23 : callable Tryz.prog 23 = true := by kernel_rfl
theorem callable24 : callable Tryz.prog 24 = true := by kernel_rfl
theorem callable25 : callable Tryz.prog 25 = true := by kernel_rfl
theorem callable26 : callable Tryz.prog 26 = true := by kernel_rfl
theorem callable27 : callable Tryz.prog 27 = true := by kernel_rfl
theorem callable28 : callable Tryz.prog 28 = true := by kernel_rfl
theorem callable29 : callable Tryz.prog 29 = true := by kernel_rfl
theorem callable30 : callable Tryz.prog 30 = true := by kernel_rfl
theorem callable31 : callable Tryz.prog 31 = true := by kernel_rfl
theorem callable32 : callable Tryz.prog 32 = true := by kernel_rfl
theorem callable33 : callable Tryz.prog 33 = true := by kernel_rfl
theorem callable34 : callable Tryz.prog 34 = true := by kernel_rfl
theorem callable35 : callable Tryz.prog 35 = true := by kernel_rfl
theorem callable36 : callable Tryz.prog 36 = true := by kernel_rfl
theorem callable37 : callable Tryz.prog 37 = true := by kernel_rfl
theorem callable38 : callable Tryz.prog 38 = true := by kernel_rfl
theorem callable39 : callable Tryz.prog 39 = true := by kernel_rfl
theorem callable40 : callable Tryz.prog 40 = true := by kernel_rfl
theorem callable41 : callable Tryz.prog 41 = true := by kernel_rfl
theorem callable42 : callable Tryz.prog 42 = true := by kernel_rfl
theorem callable43 : callable Tryz.prog 43 = true := by kernel_rfl
theorem callable44 : callable Tryz.prog 44 = true := by kernel_rfl
theorem callable45 : callable Tryz.prog 45 = true := by kernel_rfl
theorem callable46 : callable Tryz.prog 46 = true := by kernel_rfl
theorem callable47 : callable Tryz.prog 47 = true := by kernel_rfl
theorem callable48 : callable Tryz.prog 48 = true := by kernel_rfl
theorem callable49 : callable Tryz.prog 49 = true := by kernel_rfl
theorem callable50 : callable Tryz.prog 50 = true := by kernel_rfl
theorem callable51 : callable Tryz.prog 51 = true := by kernel_rfl
theorem callable52 : callable Tryz.prog 52 = true := by kernel_rfl
theorem callable53 : callable Tryz.prog 53 = true := by kernel_rfl
theorem callable54 : callable Tryz.prog 54 = true := by kernel_rfl
theorem callable55 : callable Tryz.prog 55 = true := by kernel_rfl
theorem callable56 : callable Tryz.prog 56 = true := by kernel_rfl
theorem callable57 : callable Tryz.prog 57 = true := by kernel_rfl
theorem callable58 : callable Tryz.prog 58 = true := by kernel_rfl
theorem callable59 : callable Tryz.prog 59 = true := by kernel_rfl
theorem callable60 : callable Tryz.prog 60 = true := by kernel_rfl
theorem callable61 : callable Tryz.prog 61 = true := by kernel_rfl
theorem callable62 : callable Tryz.prog 62 = true := by kernel_rfl
theorem callable63 : callable Tryz.prog 63 = true := by kernel_rfl
theorem callable64 : callable Tryz.prog 64 = true := by kernel_rfl
theorem callable65 : callable Tryz.prog 65 = true := by kernel_rfl
theorem callable66 : callable Tryz.prog 66 = true := by kernel_rfl
theorem callable67 : callable Tryz.prog 67 = true := by kernel_rfl
theorem callable68 : callable Tryz.prog 68 = true := by kernel_rfl
theorem callable69 : callable Tryz.prog 69 = true := by kernel_rfl
theorem callable70 : callable Tryz.prog 70 = true := by kernel_rfl
theorem callable71 : callable Tryz.prog 71 = true := by kernel_rfl
theorem callable73 : callable Tryz.prog 73 = true := by kernel_rfl
theorem callable74 : callable Tryz.prog 74 = true := by kernel_rfl
theorem callable75 : callable Tryz.prog 75 = true := by kernel_rfl
theorem callable76 : callable Tryz.prog 76 = true := by kernel_rfl
theorem callable77 : callable Tryz.prog 77 = true := by kernel_rfl
theorem callable78 : callable Tryz.prog 78 = true := by kernel_rfl
theorem callable79 : callable Tryz.prog 79 = true := by kernel_rfl
theorem callable82 : callable Tryz.prog 82 = true := by kernel_rfl
theorem callable84 : callable Tryz.prog 84 = true := by kernel_rfl
theorem callable85 : callable Tryz.prog 85 = true := by kernel_rfl
theorem callable86 : callable Tryz.prog 86 = true := by kernel_rfl
theorem callable87 : callable Tryz.prog 87 = true := by kernel_rfl
theorem callable88 : callable Tryz.prog 88 = true := by kernel_rfl
theorem callable89 : callable Tryz.prog 89 = true := by kernel_rfl
theorem callable90 : callable Tryz.prog 90 = true := by kernel_rfl
theorem callable91 : callable Tryz.prog 91 = true := by kernel_rfl
theorem callable92 : callable Tryz.prog 92 = true := by kernel_rfl
theorem callable93 : callable Tryz.prog 93 = true := by kernel_rfl
theorem callable94 : callable Tryz.prog 94 = true := by kernel_rfl
theorem callable96 : callable Tryz.prog 96 = true := by kernel_rfl
theorem callable97 : callable Tryz.prog 97 = true := by kernel_rfl
theorem callable98 : callable Tryz.prog 98 = true := by kernel_rfl
theorem callable99 : callable Tryz.prog 99 = true := by kernel_rfl
theorem callable100 : callable Tryz.prog 100 = true := by kernel_rfl
theorem callable101 : callable Tryz.prog 101 = true := by kernel_rfl
theorem callable102 : callable Tryz.prog 102 = true := by kernel_rfl
theorem callable103 : callable Tryz.prog 103 = true := by kernel_rfl
theorem callable104 : callable Tryz.prog 104 = true := by kernel_rfl
theorem callable105 : callable Tryz.prog 105 = true := by kernel_rfl
theorem callable106 : callable Tryz.prog 106 = true := by kernel_rfl
theorem callable107 : callable Tryz.prog 107 = true := by kernel_rfl
theorem callable108 : callable Tryz.prog 108 = true := by kernel_rfl
theorem callable139 : callable Tryz.prog 139 = true := by kernel_rfl
end Go.Proofs.YtjabeiolgghfdaaGreatDoor
