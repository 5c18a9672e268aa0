/- Closed facts about the types and functions of this seat's program. No condition. -/
import Derived.Test.YtigfdclopkagmaaDoorProg
import Derived.Test.YtigfdclopkagmaaDoorEng2
import Derived.KernelRfl
namespace Go.Proofs.YtigfdclopkagmaaDoor
open Go.Eng
theorem mixed : Tryd.prog.follows .mixedOrders = true := by kernel_rfl
theorem cl6 : callable Tryd.prog 6 = true := by kernel_rfl
theorem zl25 : zeroL Tryd.prog 25 = some [.int .i64 0, .int .i64 0] := by kernel_rfl
theorem ag25 : aggSize Tryd.prog 25 = some 2 := by kernel_rfl
theorem cl7 : callable Tryd.prog 7 = true := by kernel_rfl
theorem fk25 : flatK Tryd.prog 25 = some [.i64, .i64] := by kernel_rfl
theorem fg25 : flatG Tryd.prog 25 = some [.i .i64, .i .i64] := by kernel_rfl
theorem il22 : isSlice Tryd.prog 22 = true := by kernel_rfl
theorem ez22 : esz Tryd.prog 22 = some 4 := by kernel_rfl
theorem ag30 : aggSize Tryd.prog 30 = some 4 := by kernel_rfl
theorem fg30 : flatG Tryd.prog 30 = some [.i .i8, .s, .i .i64, .i .i64] := by kernel_rfl
theorem cl8 : callable Tryd.prog 8 = true := by kernel_rfl
theorem fo25_0 : foff Tryd.prog 25 0 = some 0 := by kernel_rfl
theorem sg23 : single Tryd.prog 23 = true := by kernel_rfl
theorem fo25_1 : foff Tryd.prog 25 1 = some 1 := by kernel_rfl
theorem sg3 : single Tryd.prog 3 = true := by kernel_rfl
theorem st9 : isStr Tryd.prog 9 = true := by kernel_rfl
theorem zl30 : zeroL Tryd.prog 30 = some [.int .i8 0, .string ByteArray.empty, .int .i64 0, .int .i64 0] := by kernel_rfl
theorem fo30_3 : foff Tryd.prog 30 3 = some 3 := by kernel_rfl
theorem fo30_0 : foff Tryd.prog 30 0 = some 0 := by kernel_rfl
theorem sg28 : single Tryd.prog 28 = true := by kernel_rfl
theorem bo4 : isBoolT Tryd.prog 4 = true := by kernel_rfl
theorem fo30_1 : foff Tryd.prog 30 1 = some 1 := by kernel_rfl
theorem sg9 : single Tryd.prog 9 = true := by kernel_rfl
theorem fo30_2 : foff Tryd.prog 30 2 = some 2 := by kernel_rfl
theorem sg4 : single Tryd.prog 4 = true := by kernel_rfl
theorem zl4 : zeroL Tryd.prog 4 = some [.bool false] := by kernel_rfl
theorem zl22 : zeroL Tryd.prog 22 = some [.slice none 0 0] := by kernel_rfl
theorem co22 : cells1 Tryd.prog 22 = true := by kernel_rfl
theorem zl3 : zeroL Tryd.prog 3 = some [.int .i64 0] := by kernel_rfl
theorem co3 : cells1 Tryd.prog 3 = true := by kernel_rfl
theorem cl9 : callable Tryd.prog 9 = true := by kernel_rfl
theorem fc34 : isFunc Tryd.prog 34 = true := by kernel_rfl
theorem co4 : cells1 Tryd.prog 4 = true := by kernel_rfl
theorem sg22 : single Tryd.prog 22 = true := by kernel_rfl
theorem cl10 : callable Tryd.prog 10 = true := by kernel_rfl
theorem cl11 : callable Tryd.prog 11 = true := by kernel_rfl
theorem cl12 : callable Tryd.prog 12 = true := by kernel_rfl
theorem cl13 : callable Tryd.prog 13 = true := by kernel_rfl
theorem pl25 : placesL Tryd.prog 25 = some [(0, 1), (1, 1)] := by kernel_rfl
theorem cl14 : callable Tryd.prog 14 = true := by kernel_rfl
theorem cl15 : callable Tryd.prog 15 = true := by kernel_rfl
theorem cl16 : callable Tryd.prog 16 = true := by kernel_rfl
theorem pl30 : placesL Tryd.prog 30 = some [(0, 1), (1, 1), (2, 1), (3, 1)] := by kernel_rfl
theorem sl22 : slInfo Tryd.prog 22 = some (30, 4, 40, [.int .i8 0, .string ByteArray.empty, .int .i64 0, .int .i64 0]) := by kernel_rfl
theorem cl17 : callable Tryd.prog 17 = true := by kernel_rfl
theorem us5 : (Tryd.prog.underlying 5).isSome = true := by kernel_rfl
theorem ik21 : isIntT Tryd.prog 21 .i32 = true := by kernel_rfl
theorem ik3 : isIntT Tryd.prog 3 .i64 = true := by kernel_rfl
theorem cl18 : callable Tryd.prog 18 = true := by kernel_rfl
theorem cl19 : callable Tryd.prog 19 = true := by kernel_rfl
theorem cl20 : callable Tryd.prog 20 = true := by kernel_rfl
theorem cl21 : callable Tryd.prog 21 = true := by kernel_rfl
theorem cl22 : callable Tryd.prog 22 = true := by kernel_rfl
theorem cl23 : callable Tryd.prog 23 = true := by kernel_rfl
theorem il45 : isSlice Tryd.prog 45 = true := by kernel_rfl
theorem ez45 : esz Tryd.prog 45 = some 1 := by kernel_rfl
theorem cl24 : callable Tryd.prog 24 = true := by kernel_rfl
theorem cl25 : callable Tryd.prog 25 = true := by kernel_rfl
theorem ms48 : mapStr Tryd.prog 48 = some 4 := by kernel_rfl
theorem mz48 : zero1 Tryd.prog 4 (.bool false) := zero1_of (i := _) rfl (by kernel_rfl)
theorem cl26 : callable Tryd.prog 26 = true := by kernel_rfl
theorem cl27 : callable Tryd.prog 27 = true := by kernel_rfl
theorem zl50 : zeroL Tryd.prog 50 = some [.string ByteArray.empty, .string ByteArray.empty, .string ByteArray.empty, .string ByteArray.empty, .string ByteArray.empty, .string ByteArray.empty, .string ByteArray.empty, .string ByteArray.empty, .string ByteArray.empty, .string ByteArray.empty, .string ByteArray.empty, .string ByteArray.empty, .string ByteArray.empty] := by kernel_rfl
theorem ar50 : arrInfo Tryd.prog 50 = some (13, 9, 1) := by kernel_rfl
theorem ars50 : single Tryd.prog 9 = true := by kernel_rfl
theorem cl28 : callable Tryd.prog 28 = true := by kernel_rfl
theorem sl45 : slInfo Tryd.prog 45 = some (9, 1, 16, [.string ByteArray.empty]) := by kernel_rfl
theorem cl29 : callable Tryd.prog 29 = true := by kernel_rfl
theorem ar54 : arrInfo Tryd.prog 54 = some (256, 5, 1) := by kernel_rfl
theorem ars54 : single Tryd.prog 5 = true := by kernel_rfl
theorem sg5 : single Tryd.prog 5 = true := by kernel_rfl
theorem ar57 : arrInfo Tryd.prog 57 = some (16, 56, 2) := by kernel_rfl
theorem ara57 : aggSize Tryd.prog 56 = some 2 := by kernel_rfl
theorem ag56 : aggSize Tryd.prog 56 = some 2 := by kernel_rfl
theorem zl56 : zeroL Tryd.prog 56 = some [.int .u8 0, .int .u8 0] := by kernel_rfl
theorem fo56_0 : foff Tryd.prog 56 0 = some 0 := by kernel_rfl
theorem fo56_1 : foff Tryd.prog 56 1 = some 1 := by kernel_rfl
theorem cl30 : callable Tryd.prog 30 = true := by kernel_rfl
theorem cl31 : callable Tryd.prog 31 = true := by kernel_rfl
theorem co9 : cells1 Tryd.prog 9 = true := by kernel_rfl
theorem sl59 : slInfo Tryd.prog 59 = some (61, 2, 16, [.int .i64 0, .int .i64 0]) := by kernel_rfl
theorem zl61 : zeroL Tryd.prog 61 = some [.int .i64 0, .int .i64 0] := by kernel_rfl
theorem pl61 : placesL Tryd.prog 61 = some [(0, 1), (1, 1)] := by kernel_rfl
theorem il59 : isSlice Tryd.prog 59 = true := by kernel_rfl
theorem ez59 : esz Tryd.prog 59 = some 2 := by kernel_rfl
theorem ag61 : aggSize Tryd.prog 61 = some 2 := by kernel_rfl
theorem fo61_0 : foff Tryd.prog 61 0 = some 0 := by kernel_rfl
theorem fo61_1 : foff Tryd.prog 61 1 = some 1 := by kernel_rfl
theorem us21 : (Tryd.prog.underlying 21).isSome = true := by kernel_rfl
theorem ik62 : isIntT Tryd.prog 62 .u32 = true := by kernel_rfl
theorem sg64 : single Tryd.prog 64 = true := by kernel_rfl
theorem cl33 : callable Tryd.prog 33 = true := by kernel_rfl
theorem fo68_0 : foff Tryd.prog 68 0 = some 0 := by kernel_rfl
theorem sg65 : single Tryd.prog 65 = true := by kernel_rfl
theorem fo68_2 : foff Tryd.prog 68 2 = some 2 := by kernel_rfl
theorem il65 : isSlice Tryd.prog 65 = true := by kernel_rfl
theorem ez65 : esz Tryd.prog 65 = some 3 := by kernel_rfl
theorem fo71_1 : foff Tryd.prog 71 1 = some 1 := by kernel_rfl
theorem sg69 : single Tryd.prog 69 = true := by kernel_rfl
theorem us69 : (Tryd.prog.underlying 69).isSome = true := by kernel_rfl
theorem ik69 : isIntT Tryd.prog 69 .u16 = true := by kernel_rfl
theorem cl34 : callable Tryd.prog 34 = true := by kernel_rfl
theorem fo68_1 : foff Tryd.prog 68 1 = some 1 := by kernel_rfl
theorem sg66 : single Tryd.prog 66 = true := by kernel_rfl
theorem il66 : isSlice Tryd.prog 66 = true := by kernel_rfl
theorem ez66 : esz Tryd.prog 66 = some 3 := by kernel_rfl
theorem fo74_0 : foff Tryd.prog 74 0 = some 0 := by kernel_rfl
theorem sg62 : single Tryd.prog 62 = true := by kernel_rfl
theorem us62 : (Tryd.prog.underlying 62).isSome = true := by kernel_rfl
theorem cl35 : callable Tryd.prog 35 = true := by kernel_rfl
theorem fo71_0 : foff Tryd.prog 71 0 = some 0 := by kernel_rfl
theorem fo71_2 : foff Tryd.prog 71 2 = some 2 := by kernel_rfl
theorem us3 : (Tryd.prog.underlying 3).isSome = true := by kernel_rfl
theorem ik52 : isIntT Tryd.prog 52 .u64 = true := by kernel_rfl
theorem us52 : (Tryd.prog.underlying 52).isSome = true := by kernel_rfl
theorem fo74_1 : foff Tryd.prog 74 1 = some 1 := by kernel_rfl
theorem fo74_2 : foff Tryd.prog 74 2 = some 2 := by kernel_rfl
theorem ag74 : aggSize Tryd.prog 74 = some 3 := by kernel_rfl
theorem zl74 : zeroL Tryd.prog 74 = some [.int .u32 0, .int .u32 0, .int .u32 0] := by kernel_rfl
theorem pl56 : placesL Tryd.prog 56 = some [(0, 1), (1, 1)] := by kernel_rfl
theorem zl57 : zeroL Tryd.prog 57 = some [.int .u8 0, .int .u8 0, .int .u8 0, .int .u8 0, .int .u8 0, .int .u8 0, .int .u8 0, .int .u8 0, .int .u8 0, .int .u8 0, .int .u8 0, .int .u8 0, .int .u8 0, .int .u8 0, .int .u8 0, .int .u8 0, .int .u8 0, .int .u8 0, .int .u8 0, .int .u8 0, .int .u8 0, .int .u8 0, .int .u8 0, .int .u8 0, .int .u8 0, .int .u8 0, .int .u8 0, .int .u8 0, .int .u8 0, .int .u8 0, .int .u8 0, .int .u8 0] := by kernel_rfl
theorem ag57 : aggSize Tryd.prog 57 = some 32 := by kernel_rfl
theorem zl71 : zeroL Tryd.prog 71 = some [.int .u16 0, .int .u16 0, .int .u16 0] := by kernel_rfl
theorem pl71 : placesL Tryd.prog 71 = some [(0, 1), (1, 1), (2, 1)] := by kernel_rfl
theorem sl65 : slInfo Tryd.prog 65 = some (71, 3, 6, [.int .u16 0, .int .u16 0, .int .u16 0]) := by kernel_rfl
theorem zl68 : zeroL Tryd.prog 68 = some [.slice none 0 0, .slice none 0 0, .int .i64 0] := by kernel_rfl
theorem pl68 : placesL Tryd.prog 68 = some [(0, 1), (1, 1), (2, 1)] := by kernel_rfl
theorem co64 : cells1 Tryd.prog 64 = true := by kernel_rfl
theorem ag54 : aggSize Tryd.prog 54 = some 256 := by kernel_rfl
end Go.Proofs.YtigfdclopkagmaaDoor
