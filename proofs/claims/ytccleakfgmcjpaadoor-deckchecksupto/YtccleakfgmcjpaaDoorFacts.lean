/- Closed facts about the types and functions of this seat's program. No condition. -/
import Derived.Test.YtccleakfgmcjpaaDoorProg
import Derived.Test.YtccleakfgmcjpaaDoorEng2
import Derived.KernelRfl
namespace Go.Proofs.YtccleakfgmcjpaaDoor
open Go.Eng
set_option maxRecDepth 100000
theorem mixed : Tryd.prog.follows .mixedOrders = true := by kernel_rfl
theorem ag25 : aggSize Tryd.prog 25 = some 2 := by kernel_rfl
theorem cl7 : callable Tryd.prog 7 = true := by kernel_rfl
theorem il27 : isSlice Tryd.prog 27 = true := by kernel_rfl
theorem cl8 : callable Tryd.prog 8 = true := by kernel_rfl
theorem cl9 : callable Tryd.prog 9 = true := by kernel_rfl
theorem cl10 : callable Tryd.prog 10 = true := by kernel_rfl
theorem cl11 : callable Tryd.prog 11 = true := by kernel_rfl
theorem cl12 : callable Tryd.prog 12 = true := by kernel_rfl
theorem cl13 : callable Tryd.prog 13 = true := by kernel_rfl
theorem st9 : isStr Tryd.prog 9 = true := by kernel_rfl
theorem il26 : isSlice Tryd.prog 26 = true := by kernel_rfl
theorem ez26 : esz Tryd.prog 26 = some 1 := by kernel_rfl
theorem sl26 : slInfo Tryd.prog 26 = some (9, 1, 16, [.string ByteArray.empty]) := by kernel_rfl
theorem ez27 : esz Tryd.prog 27 = some 3 := by kernel_rfl
theorem fo38_0 : foff Tryd.prog 38 0 = some 0 := by kernel_rfl
theorem sg36 : single Tryd.prog 36 = true := by kernel_rfl
theorem fo38_2 : foff Tryd.prog 38 2 = some 2 := by kernel_rfl
theorem sg3 : single Tryd.prog 3 = true := by kernel_rfl
theorem fo25_0 : foff Tryd.prog 25 0 = some 0 := by kernel_rfl
theorem sg22 : single Tryd.prog 22 = true := by kernel_rfl
theorem il22 : isSlice Tryd.prog 22 = true := by kernel_rfl
theorem fo25_1 : foff Tryd.prog 25 1 = some 1 := by kernel_rfl
theorem sg23 : single Tryd.prog 23 = true := by kernel_rfl
theorem il23 : isSlice Tryd.prog 23 = true := by kernel_rfl
theorem cl20 : callable Tryd.prog 20 = true := by kernel_rfl
theorem cl21 : callable Tryd.prog 21 = true := by kernel_rfl
theorem sg27 : single Tryd.prog 27 = true := by kernel_rfl
theorem zl27 : zeroL Tryd.prog 27 = some [.slice none 0 0] := by kernel_rfl
theorem cl22 : callable Tryd.prog 22 = true := by kernel_rfl
theorem zl51 : zeroL Tryd.prog 51 = some [.string ByteArray.empty, .int .i64 0, .int .i64 0, .int .i64 0, .slice none 0 0, .slice none 0 0, .int .i64 0] := by kernel_rfl
theorem ag51 : aggSize Tryd.prog 51 = some 7 := by kernel_rfl
theorem co27 : cells1 Tryd.prog 27 = true := by kernel_rfl
theorem cl23 : callable Tryd.prog 23 = true := by kernel_rfl
theorem fo51_1 : foff Tryd.prog 51 1 = some 1 := by kernel_rfl
theorem fo51_2 : foff Tryd.prog 51 2 = some 2 := by kernel_rfl
theorem cl24 : callable Tryd.prog 24 = true := by kernel_rfl
theorem il55 : isSlice Tryd.prog 55 = true := by kernel_rfl
theorem ez55 : esz Tryd.prog 55 = some 1 := by kernel_rfl
theorem sg57 : single Tryd.prog 57 = true := by kernel_rfl
theorem fo61_0 : foff Tryd.prog 61 0 = some 0 := by kernel_rfl
theorem sg9 : single Tryd.prog 9 = true := by kernel_rfl
theorem cl25 : callable Tryd.prog 25 = true := by kernel_rfl
theorem fo61_1 : foff Tryd.prog 61 1 = some 1 := by kernel_rfl
theorem fo51_4 : foff Tryd.prog 51 4 = some 4 := by kernel_rfl
theorem sg26 : single Tryd.prog 26 = true := by kernel_rfl
theorem cl26 : callable Tryd.prog 26 = true := by kernel_rfl
theorem fo51_5 : foff Tryd.prog 51 5 = some 5 := by kernel_rfl
theorem fo51_3 : foff Tryd.prog 51 3 = some 3 := by kernel_rfl
theorem cl27 : callable Tryd.prog 27 = true := by kernel_rfl
theorem zl38 : zeroL Tryd.prog 38 = some [.int .i8 0, .string ByteArray.empty, .int .i64 0] := by kernel_rfl
theorem pl38 : placesL Tryd.prog 38 = some [(0, 1), (1, 1), (2, 1)] := by kernel_rfl
theorem sl27 : slInfo Tryd.prog 27 = some (38, 3, 32, [.int .i8 0, .string ByteArray.empty, .int .i64 0]) := by kernel_rfl
theorem cl28 : callable Tryd.prog 28 = true := by kernel_rfl
theorem cl29 : callable Tryd.prog 29 = true := by kernel_rfl
theorem ag38 : aggSize Tryd.prog 38 = some 3 := by kernel_rfl
theorem fg38 : flatG Tryd.prog 38 = some [.i .i8, .s, .i .i64] := by kernel_rfl
theorem zl64 : zeroL Tryd.prog 64 = some [.string ByteArray.empty, .string ByteArray.empty, .string ByteArray.empty, .string ByteArray.empty, .string ByteArray.empty, .string ByteArray.empty, .string ByteArray.empty] := by kernel_rfl
theorem ar64 : arrInfo Tryd.prog 64 = some (7, 9, 1) := by kernel_rfl
theorem ag64 : aggSize Tryd.prog 64 = some 7 := by kernel_rfl
theorem us36 : (Tryd.prog.underlying 36).isSome = true := by kernel_rfl
theorem ik3 : isIntT Tryd.prog 3 .i64 = true := by kernel_rfl
theorem fo38_1 : foff Tryd.prog 38 1 = some 1 := by kernel_rfl
theorem cl30 : callable Tryd.prog 30 = true := by kernel_rfl
theorem cl31 : callable Tryd.prog 31 = true := by kernel_rfl
theorem cl32 : callable Tryd.prog 32 = true := by kernel_rfl
theorem ez22 : esz Tryd.prog 22 = some 12 := by kernel_rfl
theorem fo69_0 : foff Tryd.prog 69 0 = some 0 := by kernel_rfl
theorem ag69 : aggSize Tryd.prog 69 = some 12 := by kernel_rfl
theorem zl69 : zeroL Tryd.prog 69 = some [.string ByteArray.empty, .bool false, .int .i64 0, .int .i64 0, .int .i64 0, .int .i64 0, .int .i64 0, .int .i64 0, .slice none 0 0, .slice none 0 0, .slice none 0 0, .int .i64 0] := by kernel_rfl
theorem fo69_8 : foff Tryd.prog 69 8 = some 8 := by kernel_rfl
theorem sg67 : single Tryd.prog 67 = true := by kernel_rfl
theorem cl34 : callable Tryd.prog 34 = true := by kernel_rfl
theorem fo69_9 : foff Tryd.prog 69 9 = some 9 := by kernel_rfl
theorem fo69_10 : foff Tryd.prog 69 10 = some 10 := by kernel_rfl
theorem ez23 : esz Tryd.prog 23 = some 7 := by kernel_rfl
theorem zl25 : zeroL Tryd.prog 25 = some [.slice none 0 0, .slice none 0 0] := by kernel_rfl
theorem pl69 : placesL Tryd.prog 69 = some [(0, 1), (1, 1), (2, 1), (3, 1), (4, 1), (5, 1), (6, 1), (7, 1), (8, 1), (9, 1), (10, 1), (11, 1)] := by kernel_rfl
theorem sl22 : slInfo Tryd.prog 22 = some (69, 12, 152, [.string ByteArray.empty, .bool false, .int .i64 0, .int .i64 0, .int .i64 0, .int .i64 0, .int .i64 0, .int .i64 0, .slice none 0 0, .slice none 0 0, .slice none 0 0, .int .i64 0]) := by kernel_rfl
theorem pl51 : placesL Tryd.prog 51 = some [(0, 1), (1, 1), (2, 1), (3, 1), (4, 1), (5, 1), (6, 1)] := by kernel_rfl
theorem sl23 : slInfo Tryd.prog 23 = some (51, 7, 96, [.string ByteArray.empty, .int .i64 0, .int .i64 0, .int .i64 0, .slice none 0 0, .slice none 0 0, .int .i64 0]) := by kernel_rfl
theorem pl25 : placesL Tryd.prog 25 = some [(0, 1), (1, 1)] := by kernel_rfl
theorem cl36 : callable Tryd.prog 36 = true := by kernel_rfl
theorem cl35 : callable Tryd.prog 35 = true := by kernel_rfl
theorem cl37 : callable Tryd.prog 37 = true := by kernel_rfl
theorem co26 : cells1 Tryd.prog 26 = true := by kernel_rfl
theorem ms75 : mapStr Tryd.prog 75 = some 57 := by kernel_rfl
theorem mz75 : zero1 Tryd.prog 57 (.pointer none) := zero1_of (i := _) rfl (by kernel_rfl)
theorem zl61 : zeroL Tryd.prog 61 = some [.string ByteArray.empty, .int .i64 0] := by kernel_rfl
theorem pl61 : placesL Tryd.prog 61 = some [(0, 1), (1, 1)] := by kernel_rfl
theorem sl55 : slInfo Tryd.prog 55 = some (57, 1, 8, [.pointer none]) := by kernel_rfl
theorem co3 : cells1 Tryd.prog 3 = true := by kernel_rfl
theorem cl39 : callable Tryd.prog 39 = true := by kernel_rfl
theorem cl38 : callable Tryd.prog 38 = true := by kernel_rfl
theorem cl40 : callable Tryd.prog 40 = true := by kernel_rfl
theorem fo51_0 : foff Tryd.prog 51 0 = some 0 := by kernel_rfl
theorem us3 : (Tryd.prog.underlying 3).isSome = true := by kernel_rfl
theorem ik91 : isIntT Tryd.prog 91 .u64 = true := by kernel_rfl
theorem cl45 : callable Tryd.prog 45 = true := by kernel_rfl
theorem il67 : isSlice Tryd.prog 67 = true := by kernel_rfl
theorem ez67 : esz Tryd.prog 67 = some 14 := by kernel_rfl
theorem fo100_2 : foff Tryd.prog 100 2 = some 2 := by kernel_rfl
theorem ag95 : aggSize Tryd.prog 95 = some 4 := by kernel_rfl
theorem cl46 : callable Tryd.prog 46 = true := by kernel_rfl
theorem fo100_4 : foff Tryd.prog 100 4 = some 7 := by kernel_rfl
theorem ag98 : aggSize Tryd.prog 98 = some 5 := by kernel_rfl
theorem cl47 : callable Tryd.prog 47 = true := by kernel_rfl
theorem fo100_5 : foff Tryd.prog 100 5 = some 12 := by kernel_rfl
theorem fo100_6 : foff Tryd.prog 100 6 = some 13 := by kernel_rfl
theorem cl48 : callable Tryd.prog 48 = true := by kernel_rfl
theorem cl49 : callable Tryd.prog 49 = true := by kernel_rfl
theorem sl81 : slInfo Tryd.prog 81 = some (5, 1, 1, [.int .u8 0]) := by kernel_rfl
theorem us91 : (Tryd.prog.underlying 91).isSome = true := by kernel_rfl
theorem ik5 : isIntT Tryd.prog 5 .u8 = true := by kernel_rfl
theorem bt81 : isBytes Tryd.prog 81 = true := by kernel_rfl
theorem fo95_3 : foff Tryd.prog 95 3 = some 3 := by kernel_rfl
theorem sg93 : single Tryd.prog 93 = true := by kernel_rfl
theorem il93 : isSlice Tryd.prog 93 = true := by kernel_rfl
theorem ez93 : esz Tryd.prog 93 = some 4 := by kernel_rfl
theorem fo98_3 : foff Tryd.prog 98 3 = some 3 := by kernel_rfl
theorem fo98_4 : foff Tryd.prog 98 4 = some 4 := by kernel_rfl
theorem sg96 : single Tryd.prog 96 = true := by kernel_rfl
theorem il96 : isSlice Tryd.prog 96 = true := by kernel_rfl
theorem ez96 : esz Tryd.prog 96 = some 5 := by kernel_rfl
end Go.Proofs.YtccleakfgmcjpaaDoor
