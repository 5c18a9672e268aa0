/- Closed facts about the types and functions of this seat's program. No condition. -/
import Derived.Test.YtbghonkgflolaaaDoorProg
import Derived.Test.YtbghonkgflolaaaDoorEng2
import Derived.KernelRfl
namespace Go.Proofs.YtbghonkgflolaaaDoor
open Go.Eng
set_option maxRecDepth 100000
theorem mixed : Tryd.prog.follows .mixedOrders = true := by kernel_rfl
theorem cl4 : callable Tryd.prog 4 = true := by kernel_rfl
theorem cl5 : callable Tryd.prog 5 = true := by kernel_rfl
theorem fo26_0 : foff Tryd.prog 26 0 = some 0 := by kernel_rfl
theorem ft26_0 : fieldType Tryd.prog 26 0 = some 24 := by kernel_rfl
theorem fs26_0 : single Tryd.prog 24 = true := by kernel_rfl
theorem il22 : isSlice Tryd.prog 22 = true := by kernel_rfl
theorem cl6 : callable Tryd.prog 6 = true := by kernel_rfl
theorem sl22 : slInfo Tryd.prog 22 = some (31, 12, 152, [.string ByteArray.empty, .bool false, .int .i64 0, .int .i64 0, .int .i64 0, .int .i64 0, .int .i64 0, .int .i64 0, .slice none 0 0, .slice none 0 0, .slice none 0 0, .int .i64 0]) := by kernel_rfl
theorem ez22 : esz Tryd.prog 22 = some 12 := by kernel_rfl
theorem ag31 : aggSize Tryd.prog 31 = some 12 := by kernel_rfl
theorem fo31_0 : foff Tryd.prog 31 0 = some 0 := by kernel_rfl
theorem sg9 : single Tryd.prog 9 = true := by kernel_rfl
theorem cl7 : callable Tryd.prog 7 = true := by kernel_rfl
theorem zl26 : zeroL Tryd.prog 26 = some [.int .i64 0, .int .i64 0] := by kernel_rfl
theorem ag26 : aggSize Tryd.prog 26 = some 2 := by kernel_rfl
theorem sg24 : single Tryd.prog 24 = true := by kernel_rfl
theorem cl8 : callable Tryd.prog 8 = true := by kernel_rfl
theorem st9 : isStr Tryd.prog 9 = true := by kernel_rfl
theorem pl26 : placesL Tryd.prog 26 = some [(0, 1), (1, 1)] := by kernel_rfl
theorem zl31 : zeroL Tryd.prog 31 = some [.string ByteArray.empty, .bool false, .int .i64 0, .int .i64 0, .int .i64 0, .int .i64 0, .int .i64 0, .int .i64 0, .slice none 0 0, .slice none 0 0, .slice none 0 0, .int .i64 0] := by kernel_rfl
theorem ms35 : mapStr Tryd.prog 35 = some 4 := by kernel_rfl
theorem mz35 : zero1 Tryd.prog 4 (.bool false) := zero1_of (i := _) rfl (by kernel_rfl)
theorem fo31_1 : foff Tryd.prog 31 1 = some 1 := by kernel_rfl
theorem sg4 : single Tryd.prog 4 = true := by kernel_rfl
theorem fo31_11 : foff Tryd.prog 31 11 = some 11 := by kernel_rfl
theorem sg3 : single Tryd.prog 3 = true := by kernel_rfl
theorem cl9 : callable Tryd.prog 9 = true := by kernel_rfl
theorem pl31 : placesL Tryd.prog 31 = some [(0, 1), (1, 1), (2, 1), (3, 1), (4, 1), (5, 1), (6, 1), (7, 1), (8, 1), (9, 1), (10, 1), (11, 1)] := by kernel_rfl
theorem zl42 : zeroL Tryd.prog 42 = some [.int .i8 0, .int .i64 0, .int .i8 0, .slice none 0 0] := by kernel_rfl
theorem pl42 : placesL Tryd.prog 42 = some [(0, 1), (1, 1), (2, 1), (3, 1)] := by kernel_rfl
theorem zl47 : zeroL Tryd.prog 47 = some [.int .i8 0, .int .i8 0, .int .i8 0, .int .i64 0, .int .i8 0, .slice none 0 0, .string ByteArray.empty, .int .i8 0, .int .i8 0, .string ByteArray.empty, .slice none 0 0, .slice none 0 0, .slice none 0 0, .slice none 0 0] := by kernel_rfl
theorem pl47 : placesL Tryd.prog 47 = some [(0, 1), (1, 1), (2, 4), (6, 1), (7, 5), (12, 1), (13, 1)] := by kernel_rfl
theorem sl29 : slInfo Tryd.prog 29 = some (47, 14, 192, [.int .i8 0, .int .i8 0, .int .i8 0, .int .i64 0, .int .i8 0, .slice none 0 0, .string ByteArray.empty, .int .i8 0, .int .i8 0, .string ByteArray.empty, .slice none 0 0, .slice none 0 0, .slice none 0 0, .slice none 0 0]) := by kernel_rfl
theorem fk26 : flatK Tryd.prog 26 = some [.i64, .i64] := by kernel_rfl
theorem fg26 : flatG Tryd.prog 26 = some [.i .i64, .i .i64] := by kernel_rfl
theorem cl10 : callable Tryd.prog 10 = true := by kernel_rfl
theorem cl11 : callable Tryd.prog 11 = true := by kernel_rfl
theorem cl12 : callable Tryd.prog 12 = true := by kernel_rfl
theorem cl13 : callable Tryd.prog 13 = true := by kernel_rfl
theorem fo31_8 : foff Tryd.prog 31 8 = some 8 := by kernel_rfl
theorem sg29 : single Tryd.prog 29 = true := by kernel_rfl
theorem cl14 : callable Tryd.prog 14 = true := by kernel_rfl
theorem fo31_9 : foff Tryd.prog 31 9 = some 9 := by kernel_rfl
theorem fo31_10 : foff Tryd.prog 31 10 = some 10 := by kernel_rfl
theorem fo31_2 : foff Tryd.prog 31 2 = some 2 := by kernel_rfl
theorem fo31_3 : foff Tryd.prog 31 3 = some 3 := by kernel_rfl
theorem fo31_4 : foff Tryd.prog 31 4 = some 4 := by kernel_rfl
theorem fo31_5 : foff Tryd.prog 31 5 = some 5 := by kernel_rfl
theorem fo31_6 : foff Tryd.prog 31 6 = some 6 := by kernel_rfl
theorem fo31_7 : foff Tryd.prog 31 7 = some 7 := by kernel_rfl
theorem zl52 : zeroL Tryd.prog 52 = some [.int .i64 0, .int .i64 0, .int .i64 0, .int .i64 0, .int .i64 0, .int .i64 0] := by kernel_rfl
theorem ar52 : arrInfo Tryd.prog 52 = some (6, 3, 1) := by kernel_rfl
theorem ars52 : single Tryd.prog 3 = true := by kernel_rfl
theorem cl15 : callable Tryd.prog 15 = true := by kernel_rfl
theorem il29 : isSlice Tryd.prog 29 = true := by kernel_rfl
theorem zl55 : zeroL Tryd.prog 55 = some [.map none, .bool false] := by kernel_rfl
theorem pl55 : placesL Tryd.prog 55 = some [(0, 1), (1, 1)] := by kernel_rfl
theorem cl16 : callable Tryd.prog 16 = true := by kernel_rfl
theorem fo55_1 : foff Tryd.prog 55 1 = some 1 := by kernel_rfl
theorem co4 : cells1 Tryd.prog 4 = true := by kernel_rfl
theorem zl4 : zeroL Tryd.prog 4 = some [.bool false] := by kernel_rfl
theorem cl18 : callable Tryd.prog 18 = true := by kernel_rfl
theorem cl17 : callable Tryd.prog 17 = true := by kernel_rfl
theorem zl3 : zeroL Tryd.prog 3 = some [.int .i64 0] := by kernel_rfl
theorem co3 : cells1 Tryd.prog 3 = true := by kernel_rfl
theorem cl19 : callable Tryd.prog 19 = true := by kernel_rfl
theorem cl20 : callable Tryd.prog 20 = true := by kernel_rfl
theorem cl21 : callable Tryd.prog 21 = true := by kernel_rfl
theorem cl22 : callable Tryd.prog 22 = true := by kernel_rfl
theorem cl23 : callable Tryd.prog 23 = true := by kernel_rfl
theorem il70 : isSlice Tryd.prog 70 = true := by kernel_rfl
theorem ez70 : esz Tryd.prog 70 = some 1 := by kernel_rfl
theorem ez29 : esz Tryd.prog 29 = some 14 := by kernel_rfl
theorem fo47_0 : foff Tryd.prog 47 0 = some 0 := by kernel_rfl
theorem sg39 : single Tryd.prog 39 = true := by kernel_rfl
theorem cl24 : callable Tryd.prog 24 = true := by kernel_rfl
theorem fo47_2 : foff Tryd.prog 47 2 = some 2 := by kernel_rfl
theorem ag42 : aggSize Tryd.prog 42 = some 4 := by kernel_rfl
theorem cl25 : callable Tryd.prog 25 = true := by kernel_rfl
theorem fo47_4 : foff Tryd.prog 47 4 = some 7 := by kernel_rfl
theorem ag45 : aggSize Tryd.prog 45 = some 5 := by kernel_rfl
theorem cl26 : callable Tryd.prog 26 = true := by kernel_rfl
theorem fo47_5 : foff Tryd.prog 47 5 = some 12 := by kernel_rfl
theorem fo47_6 : foff Tryd.prog 47 6 = some 13 := by kernel_rfl
theorem cl27 : callable Tryd.prog 27 = true := by kernel_rfl
theorem cl28 : callable Tryd.prog 28 = true := by kernel_rfl
theorem cl29 : callable Tryd.prog 29 = true := by kernel_rfl
theorem cl30 : callable Tryd.prog 30 = true := by kernel_rfl
theorem cl31 : callable Tryd.prog 31 = true := by kernel_rfl
theorem fo47_1 : foff Tryd.prog 47 1 = some 1 := by kernel_rfl
theorem cl32 : callable Tryd.prog 32 = true := by kernel_rfl
theorem fo55_0 : foff Tryd.prog 55 0 = some 0 := by kernel_rfl
theorem sg35 : single Tryd.prog 35 = true := by kernel_rfl
theorem fo47_3 : foff Tryd.prog 47 3 = some 6 := by kernel_rfl
theorem cl33 : callable Tryd.prog 33 = true := by kernel_rfl
theorem zl80 : zeroL Tryd.prog 80 = some [.slice none 0 0, .slice none 0 0, .slice none 0 0] := by kernel_rfl
theorem ar80 : arrInfo Tryd.prog 80 = some (3, 29, 1) := by kernel_rfl
theorem ars80 : single Tryd.prog 29 = true := by kernel_rfl
theorem zl62 : zeroL Tryd.prog 62 = some [.pointer none] := by kernel_rfl
theorem pl62 : placesL Tryd.prog 62 = some [(0, 1)] := by kernel_rfl
theorem us62 : (Tryd.prog.underlying 62).isSome = true := by kernel_rfl
theorem ni62 : isIface Tryd.prog 62 = false := by kernel_rfl
theorem cl34 : callable Tryd.prog 34 = true := by kernel_rfl
theorem co62 : cells1 Tryd.prog 62 = true := by kernel_rfl
theorem ag62 : aggSize Tryd.prog 62 = some 1 := by kernel_rfl
theorem fo62_0 : foff Tryd.prog 62 0 = some 0 := by kernel_rfl
theorem sg60 : single Tryd.prog 60 = true := by kernel_rfl
theorem us66 : (Tryd.prog.underlying 66).isSome = true := by kernel_rfl
theorem ni66 : isIface Tryd.prog 66 = false := by kernel_rfl
theorem zl66 : zeroL Tryd.prog 66 = some [.pointer none] := by kernel_rfl
theorem co66 : cells1 Tryd.prog 66 = true := by kernel_rfl
theorem ag66 : aggSize Tryd.prog 66 = some 1 := by kernel_rfl
theorem fo66_0 : foff Tryd.prog 66 0 = some 0 := by kernel_rfl
theorem sg64 : single Tryd.prog 64 = true := by kernel_rfl
theorem fo42_0 : foff Tryd.prog 42 0 = some 0 := by kernel_rfl
theorem us5 : (Tryd.prog.underlying 5).isSome = true := by kernel_rfl
theorem ik3 : isIntT Tryd.prog 3 .i64 = true := by kernel_rfl
theorem sl70 : slInfo Tryd.prog 70 = some (9, 1, 16, [.string ByteArray.empty]) := by kernel_rfl
theorem fo42_3 : foff Tryd.prog 42 3 = some 3 := by kernel_rfl
theorem sg40 : single Tryd.prog 40 = true := by kernel_rfl
theorem il40 : isSlice Tryd.prog 40 = true := by kernel_rfl
theorem ez40 : esz Tryd.prog 40 = some 4 := by kernel_rfl
theorem fo45_3 : foff Tryd.prog 45 3 = some 3 := by kernel_rfl
theorem fo45_4 : foff Tryd.prog 45 4 = some 4 := by kernel_rfl
theorem sg43 : single Tryd.prog 43 = true := by kernel_rfl
theorem il43 : isSlice Tryd.prog 43 = true := by kernel_rfl
theorem ez43 : esz Tryd.prog 43 = some 5 := by kernel_rfl
theorem cl35 : callable Tryd.prog 35 = true := by kernel_rfl
theorem cl36 : callable Tryd.prog 36 = true := by kernel_rfl
theorem cl37 : callable Tryd.prog 37 = true := by kernel_rfl
theorem fo42_1 : foff Tryd.prog 42 1 = some 1 := by kernel_rfl
theorem fo42_2 : foff Tryd.prog 42 2 = some 2 := by kernel_rfl
theorem fo45_0 : foff Tryd.prog 45 0 = some 0 := by kernel_rfl
theorem fo45_1 : foff Tryd.prog 45 1 = some 1 := by kernel_rfl
theorem fo45_2 : foff Tryd.prog 45 2 = some 2 := by kernel_rfl
theorem pl66 : placesL Tryd.prog 66 = some [(0, 1)] := by kernel_rfl
theorem sl85 : slInfo Tryd.prog 85 = some (59, 1, 16, [.nilIface]) := by kernel_rfl
theorem zl87 : zeroL Tryd.prog 87 = some [.pointer none] := by kernel_rfl
theorem pl87 : placesL Tryd.prog 87 = some [(0, 1)] := by kernel_rfl
theorem us87 : (Tryd.prog.underlying 87).isSome = true := by kernel_rfl
theorem ni87 : isIface Tryd.prog 87 = false := by kernel_rfl
theorem zl88 : zeroL Tryd.prog 88 = some [.slice none 0 0, .slice none 0 0] := by kernel_rfl
theorem ar88 : arrInfo Tryd.prog 88 = some (2, 29, 1) := by kernel_rfl
theorem ars88 : single Tryd.prog 29 = true := by kernel_rfl
theorem co87 : cells1 Tryd.prog 87 = true := by kernel_rfl
theorem ag87 : aggSize Tryd.prog 87 = some 1 := by kernel_rfl
theorem fo87_0 : foff Tryd.prog 87 0 = some 0 := by kernel_rfl
theorem sg79 : single Tryd.prog 79 = true := by kernel_rfl
theorem il85 : isSlice Tryd.prog 85 = true := by kernel_rfl
theorem ez85 : esz Tryd.prog 85 = some 1 := by kernel_rfl
theorem sg59 : single Tryd.prog 59 = true := by kernel_rfl
theorem cl38 : callable Tryd.prog 38 = true := by kernel_rfl
theorem ar90 : arrInfo Tryd.prog 90 = some (256, 5, 1) := by kernel_rfl
theorem ars90 : single Tryd.prog 5 = true := by kernel_rfl
theorem sg5 : single Tryd.prog 5 = true := by kernel_rfl
theorem cl39 : callable Tryd.prog 39 = true := by kernel_rfl
theorem co9 : cells1 Tryd.prog 9 = true := by kernel_rfl
theorem sl92 : slInfo Tryd.prog 92 = some (94, 2, 16, [.int .i64 0, .int .i64 0]) := by kernel_rfl
theorem zl94 : zeroL Tryd.prog 94 = some [.int .i64 0, .int .i64 0] := by kernel_rfl
theorem pl94 : placesL Tryd.prog 94 = some [(0, 1), (1, 1)] := by kernel_rfl
theorem il92 : isSlice Tryd.prog 92 = true := by kernel_rfl
theorem ez92 : esz Tryd.prog 92 = some 2 := by kernel_rfl
theorem ag94 : aggSize Tryd.prog 94 = some 2 := by kernel_rfl
theorem fo94_0 : foff Tryd.prog 94 0 = some 0 := by kernel_rfl
theorem fo94_1 : foff Tryd.prog 94 1 = some 1 := by kernel_rfl
theorem us21 : (Tryd.prog.underlying 21).isSome = true := by kernel_rfl
theorem ik95 : isIntT Tryd.prog 95 .u32 = true := by kernel_rfl
theorem sg97 : single Tryd.prog 97 = true := by kernel_rfl
theorem cl41 : callable Tryd.prog 41 = true := by kernel_rfl
theorem fo101_0 : foff Tryd.prog 101 0 = some 0 := by kernel_rfl
theorem sg98 : single Tryd.prog 98 = true := by kernel_rfl
theorem fo101_2 : foff Tryd.prog 101 2 = some 2 := by kernel_rfl
theorem il98 : isSlice Tryd.prog 98 = true := by kernel_rfl
theorem ez98 : esz Tryd.prog 98 = some 3 := by kernel_rfl
theorem fo104_1 : foff Tryd.prog 104 1 = some 1 := by kernel_rfl
theorem sg102 : single Tryd.prog 102 = true := by kernel_rfl
theorem us102 : (Tryd.prog.underlying 102).isSome = true := by kernel_rfl
theorem ik102 : isIntT Tryd.prog 102 .u16 = true := by kernel_rfl
theorem cl42 : callable Tryd.prog 42 = true := by kernel_rfl
theorem fo101_1 : foff Tryd.prog 101 1 = some 1 := by kernel_rfl
theorem sg99 : single Tryd.prog 99 = true := by kernel_rfl
theorem il99 : isSlice Tryd.prog 99 = true := by kernel_rfl
theorem ez99 : esz Tryd.prog 99 = some 3 := by kernel_rfl
theorem fo107_0 : foff Tryd.prog 107 0 = some 0 := by kernel_rfl
theorem sg95 : single Tryd.prog 95 = true := by kernel_rfl
theorem us95 : (Tryd.prog.underlying 95).isSome = true := by kernel_rfl
theorem ik21 : isIntT Tryd.prog 21 .i32 = true := by kernel_rfl
theorem cl43 : callable Tryd.prog 43 = true := by kernel_rfl
theorem fo104_0 : foff Tryd.prog 104 0 = some 0 := by kernel_rfl
theorem fo104_2 : foff Tryd.prog 104 2 = some 2 := by kernel_rfl
theorem us3 : (Tryd.prog.underlying 3).isSome = true := by kernel_rfl
theorem ik82 : isIntT Tryd.prog 82 .u64 = true := by kernel_rfl
theorem us82 : (Tryd.prog.underlying 82).isSome = true := by kernel_rfl
theorem fo107_1 : foff Tryd.prog 107 1 = some 1 := by kernel_rfl
theorem fo107_2 : foff Tryd.prog 107 2 = some 2 := by kernel_rfl
theorem ag107 : aggSize Tryd.prog 107 = some 3 := by kernel_rfl
theorem zl107 : zeroL Tryd.prog 107 = some [.int .u32 0, .int .u32 0, .int .u32 0] := by kernel_rfl
theorem zl104 : zeroL Tryd.prog 104 = some [.int .u16 0, .int .u16 0, .int .u16 0] := by kernel_rfl
theorem pl104 : placesL Tryd.prog 104 = some [(0, 1), (1, 1), (2, 1)] := by kernel_rfl
theorem sl98 : slInfo Tryd.prog 98 = some (104, 3, 6, [.int .u16 0, .int .u16 0, .int .u16 0]) := by kernel_rfl
theorem zl101 : zeroL Tryd.prog 101 = some [.slice none 0 0, .slice none 0 0, .int .i64 0] := by kernel_rfl
theorem pl101 : placesL Tryd.prog 101 = some [(0, 1), (1, 1), (2, 1)] := by kernel_rfl
theorem co97 : cells1 Tryd.prog 97 = true := by kernel_rfl
theorem ag90 : aggSize Tryd.prog 90 = some 256 := by kernel_rfl
end Go.Proofs.YtbghonkgflolaaaDoor
