/- Closed facts about the types and functions of this seat's program. No condition. -/
import Derived.Test.YtigmehimficmlaaProg
import Derived.Test.YtigmehimficmlaaEng
import Derived.KernelRfl
namespace Go.Proofs.Ytigmehimficmlaa
open Go.Eng
theorem mixed : Try.prog.follows .mixedOrders = true := by kernel_rfl
theorem ag25 : aggSize Try.prog 25 = some 4 := by kernel_rfl
theorem ag28 : aggSize Try.prog 28 = some 5 := by kernel_rfl
theorem zl33 : zeroL Try.prog 33 = some [.int .i8 0, .int .i8 0, .int .i8 0, .int .i64 0, .int .i8 0, .slice none 0 0, .string ByteArray.empty, .int .i8 0, .int .i8 0, .string ByteArray.empty, .slice none 0 0, .slice none 0 0, .slice none 0 0, .slice none 0 0] := by kernel_rfl
theorem pl33 : placesL Try.prog 33 = some [(0, 1), (1, 1), (2, 4), (6, 1), (7, 5), (12, 1), (13, 1)] := by kernel_rfl
theorem sl31 : slInfo Try.prog 31 = some (33, 14, 192, [.int .i8 0, .int .i8 0, .int .i8 0, .int .i64 0, .int .i8 0, .slice none 0 0, .string ByteArray.empty, .int .i8 0, .int .i8 0, .string ByteArray.empty, .slice none 0 0, .slice none 0 0, .slice none 0 0, .slice none 0 0]) := by kernel_rfl
theorem cl7 : callable Try.prog 7 = true := by kernel_rfl
theorem cl8 : callable Try.prog 8 = true := by kernel_rfl
theorem cl9 : callable Try.prog 9 = true := by kernel_rfl
theorem cl10 : callable Try.prog 10 = true := by kernel_rfl
theorem cl11 : callable Try.prog 11 = true := by kernel_rfl
theorem cl12 : callable Try.prog 12 = true := by kernel_rfl
theorem cl13 : callable Try.prog 13 = true := by kernel_rfl
theorem cl14 : callable Try.prog 14 = true := by kernel_rfl
theorem cl15 : callable Try.prog 15 = true := by kernel_rfl
theorem cl16 : callable Try.prog 16 = true := by kernel_rfl
theorem bo4 : isBoolT Try.prog 4 = true := by kernel_rfl
theorem zl44 : zeroL Try.prog 44 = some [.slice none 0 0, .slice none 0 0] := by kernel_rfl
theorem pl44 : placesL Try.prog 44 = some [(0, 1), (1, 1)] := by kernel_rfl
theorem cl17 : callable Try.prog 17 = true := by kernel_rfl
theorem cl18 : callable Try.prog 18 = true := by kernel_rfl
theorem cl19 : callable Try.prog 19 = true := by kernel_rfl
theorem cl20 : callable Try.prog 20 = true := by kernel_rfl
theorem cl21 : callable Try.prog 21 = true := by kernel_rfl
theorem fk48 : flatK Try.prog 48 = some [.i64, .i64] := by kernel_rfl
theorem us3 : (Try.prog.underlying 3).isSome = true := by kernel_rfl
theorem ik29 : isIntT Try.prog 29 .i8 = true := by kernel_rfl
theorem il31 : isSlice Try.prog 31 = true := by kernel_rfl
theorem ez31 : esz Try.prog 31 = some 14 := by kernel_rfl
theorem cl22 : callable Try.prog 22 = true := by kernel_rfl
theorem zl25 : zeroL Try.prog 25 = some [.int .i8 0, .int .i64 0, .int .i8 0, .slice none 0 0] := by kernel_rfl
theorem pl25 : placesL Try.prog 25 = some [(0, 1), (1, 1), (2, 1), (3, 1)] := by kernel_rfl
theorem ag33 : aggSize Try.prog 33 = some 14 := by kernel_rfl
theorem cl23 : callable Try.prog 23 = true := by kernel_rfl
theorem zl56 : zeroL Try.prog 56 = some [.string ByteArray.empty, .bool false, .int .i64 0, .int .i64 0, .int .i64 0, .int .i64 0, .int .i64 0, .int .i64 0, .slice none 0 0, .slice none 0 0, .slice none 0 0, .int .i64 0] := by kernel_rfl
theorem pl56 : placesL Try.prog 56 = some [(0, 1), (1, 1), (2, 1), (3, 1), (4, 1), (5, 1), (6, 1), (7, 1), (8, 1), (9, 1), (10, 1), (11, 1)] := by kernel_rfl
theorem sl40 : slInfo Try.prog 40 = some (56, 12, 152, [.string ByteArray.empty, .bool false, .int .i64 0, .int .i64 0, .int .i64 0, .int .i64 0, .int .i64 0, .int .i64 0, .slice none 0 0, .slice none 0 0, .slice none 0 0, .int .i64 0]) := by kernel_rfl
theorem zl48 : zeroL Try.prog 48 = some [.int .i64 0, .int .i64 0] := by kernel_rfl
theorem pl48 : placesL Try.prog 48 = some [(0, 1), (1, 1)] := by kernel_rfl
theorem fo25_0 : foff Try.prog 25 0 = some 0 := by kernel_rfl
theorem sg22 : single Try.prog 22 = true := by kernel_rfl
theorem fo25_3 : foff Try.prog 25 3 = some 3 := by kernel_rfl
theorem sg23 : single Try.prog 23 = true := by kernel_rfl
theorem il23 : isSlice Try.prog 23 = true := by kernel_rfl
theorem ez23 : esz Try.prog 23 = some 4 := by kernel_rfl
theorem fo28_0 : foff Try.prog 28 0 = some 0 := by kernel_rfl
theorem fo28_1 : foff Try.prog 28 1 = some 1 := by kernel_rfl
theorem fo28_3 : foff Try.prog 28 3 = some 3 := by kernel_rfl
theorem fo28_4 : foff Try.prog 28 4 = some 4 := by kernel_rfl
theorem sg26 : single Try.prog 26 = true := by kernel_rfl
theorem il26 : isSlice Try.prog 26 = true := by kernel_rfl
theorem ez26 : esz Try.prog 26 = some 5 := by kernel_rfl
theorem zl28 : zeroL Try.prog 28 = some [.int .i8 0, .int .i8 0, .string ByteArray.empty, .slice none 0 0, .slice none 0 0] := by kernel_rfl
theorem cl24 : callable Try.prog 24 = true := by kernel_rfl
theorem cl25 : callable Try.prog 25 = true := by kernel_rfl
theorem ar58 : arrInfo Try.prog 58 = some (4, 57, 4) := by kernel_rfl
theorem ara58 : aggSize Try.prog 57 = some 4 := by kernel_rfl
theorem ar57 : arrInfo Try.prog 57 = some (4, 29, 1) := by kernel_rfl
theorem ars57 : single Try.prog 29 = true := by kernel_rfl
theorem fo44_0 : foff Try.prog 44 0 = some 0 := by kernel_rfl
theorem sg40 : single Try.prog 40 = true := by kernel_rfl
theorem il40 : isSlice Try.prog 40 = true := by kernel_rfl
theorem fo44_1 : foff Try.prog 44 1 = some 1 := by kernel_rfl
theorem sg42 : single Try.prog 42 = true := by kernel_rfl
theorem il42 : isSlice Try.prog 42 = true := by kernel_rfl
theorem ez40 : esz Try.prog 40 = some 12 := by kernel_rfl
theorem ag56 : aggSize Try.prog 56 = some 12 := by kernel_rfl
theorem fo56_8 : foff Try.prog 56 8 = some 8 := by kernel_rfl
theorem sg31 : single Try.prog 31 = true := by kernel_rfl
theorem fo56_9 : foff Try.prog 56 9 = some 9 := by kernel_rfl
theorem fo56_10 : foff Try.prog 56 10 = some 10 := by kernel_rfl
theorem ez42 : esz Try.prog 42 = some 7 := by kernel_rfl
theorem fo63_4 : foff Try.prog 63 4 = some 4 := by kernel_rfl
theorem sg61 : single Try.prog 61 = true := by kernel_rfl
theorem il61 : isSlice Try.prog 61 = true := by kernel_rfl
theorem fo63_5 : foff Try.prog 63 5 = some 5 := by kernel_rfl
theorem zl65 : zeroL Try.prog 65 = some [.int .i8 0] := by kernel_rfl
theorem pl65 : placesL Try.prog 65 = some [(0, 1)] := by kernel_rfl
theorem cl26 : callable Try.prog 26 = true := by kernel_rfl
theorem fo33_0 : foff Try.prog 33 0 = some 0 := by kernel_rfl
theorem fo33_2 : foff Try.prog 33 2 = some 2 := by kernel_rfl
theorem fo33_4 : foff Try.prog 33 4 = some 7 := by kernel_rfl
theorem fo33_5 : foff Try.prog 33 5 = some 12 := by kernel_rfl
theorem fo33_6 : foff Try.prog 33 6 = some 13 := by kernel_rfl
theorem ag48 : aggSize Try.prog 48 = some 2 := by kernel_rfl
theorem co65 : cells1 Try.prog 65 = true := by kernel_rfl
theorem ag65 : aggSize Try.prog 65 = some 1 := by kernel_rfl
theorem fo56_11 : foff Try.prog 56 11 = some 11 := by kernel_rfl
theorem sg3 : single Try.prog 3 = true := by kernel_rfl
theorem cl27 : callable Try.prog 27 = true := by kernel_rfl
theorem cl28 : callable Try.prog 28 = true := by kernel_rfl
theorem pl28 : placesL Try.prog 28 = some [(0, 1), (1, 1), (2, 1), (3, 1), (4, 1)] := by kernel_rfl
theorem ag58 : aggSize Try.prog 58 = some 16 := by kernel_rfl
theorem zl58 : zeroL Try.prog 58 = some [.int .i8 0, .int .i8 0, .int .i8 0, .int .i8 0, .int .i8 0, .int .i8 0, .int .i8 0, .int .i8 0, .int .i8 0, .int .i8 0, .int .i8 0, .int .i8 0, .int .i8 0, .int .i8 0, .int .i8 0, .int .i8 0] := by kernel_rfl
theorem zl57 : zeroL Try.prog 57 = some [.int .i8 0, .int .i8 0, .int .i8 0, .int .i8 0] := by kernel_rfl
theorem cl29 : callable Try.prog 29 = true := by kernel_rfl
theorem cl30 : callable Try.prog 30 = true := by kernel_rfl
theorem cl31 : callable Try.prog 31 = true := by kernel_rfl
theorem cl32 : callable Try.prog 32 = true := by kernel_rfl
theorem zl69 : zeroL Try.prog 69 = some [.nilFunc, .nilFunc, .nilFunc, .nilFunc, .nilFunc, .nilFunc, .nilFunc, .nilFunc, .nilFunc] := by kernel_rfl
theorem ar69 : arrInfo Try.prog 69 = some (9, 68, 1) := by kernel_rfl
theorem ars69 : single Try.prog 68 = true := by kernel_rfl
theorem ag69 : aggSize Try.prog 69 = some 9 := by kernel_rfl
theorem cl34 : callable Try.prog 34 = true := by kernel_rfl
theorem cl33 : callable Try.prog 33 = true := by kernel_rfl
theorem fo65_0 : foff Try.prog 65 0 = some 0 := by kernel_rfl
theorem sg29 : single Try.prog 29 = true := by kernel_rfl
theorem cl35 : callable Try.prog 35 = true := by kernel_rfl
theorem us22 : (Try.prog.underlying 22).isSome = true := by kernel_rfl
theorem ik3 : isIntT Try.prog 3 .i64 = true := by kernel_rfl
theorem sg68 : single Try.prog 68 = true := by kernel_rfl
end Go.Proofs.Ytigmehimficmlaa
