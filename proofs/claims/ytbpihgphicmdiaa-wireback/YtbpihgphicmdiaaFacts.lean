/- Closed facts about the types and functions of this seat's program. No condition. -/
import Derived.Test.YtbpihgphicmdiaaProg
import Derived.Test.YtbpihgphicmdiaaEng2
import Derived.KernelRfl
namespace Go.Proofs.Ytbpihgphicmdiaa
open Go.Eng
theorem mixed : Try.prog.follows .mixedOrders = true := by kernel_rfl
theorem ag32 : aggSize Try.prog 32 = some 14 := by kernel_rfl
theorem cl7 : callable Try.prog 7 = true := by kernel_rfl
theorem cl8 : callable Try.prog 8 = true := by kernel_rfl
theorem cl9 : callable Try.prog 9 = true := by kernel_rfl
theorem fo32_0 : foff Try.prog 32 0 = some 0 := by kernel_rfl
theorem sg5 : single Try.prog 5 = true := by kernel_rfl
theorem cl11 : callable Try.prog 11 = true := by kernel_rfl
theorem zl32 : zeroL Try.prog 32 = some [.int .u8 0, .int .i64 0, .string ByteArray.empty, .slice none 0 0, .slice none 0 0, .int .i8 0, .int .i64 0, .int .i64 0, .int .i64 0, .slice none 0 0, .slice none 0 0, .int .u8 0, .int .i64 0, .slice none 0 0] := by kernel_rfl
theorem cl12 : callable Try.prog 12 = true := by kernel_rfl
theorem st9 : isStr Try.prog 9 = true := by kernel_rfl
theorem bt22 : isBytes Try.prog 22 = true := by kernel_rfl
theorem cl15 : callable Try.prog 15 = true := by kernel_rfl
theorem cl16 : callable Try.prog 16 = true := by kernel_rfl
theorem il22 : isSlice Try.prog 22 = true := by kernel_rfl
theorem cl17 : callable Try.prog 17 = true := by kernel_rfl
theorem fo32_3 : foff Try.prog 32 3 = some 3 := by kernel_rfl
theorem sg22 : single Try.prog 22 = true := by kernel_rfl
theorem fo32_2 : foff Try.prog 32 2 = some 2 := by kernel_rfl
theorem sg9 : single Try.prog 9 = true := by kernel_rfl
theorem fo32_4 : foff Try.prog 32 4 = some 4 := by kernel_rfl
theorem sg23 : single Try.prog 23 = true := by kernel_rfl
theorem il23 : isSlice Try.prog 23 = true := by kernel_rfl
theorem fo32_5 : foff Try.prog 32 5 = some 5 := by kernel_rfl
theorem fo28_4 : foff Try.prog 28 4 = some 4 := by kernel_rfl
theorem sg25 : single Try.prog 25 = true := by kernel_rfl
theorem il25 : isSlice Try.prog 25 = true := by kernel_rfl
theorem fo28_5 : foff Try.prog 28 5 = some 5 := by kernel_rfl
theorem sg26 : single Try.prog 26 = true := by kernel_rfl
theorem il26 : isSlice Try.prog 26 = true := by kernel_rfl
theorem fo32_8 : foff Try.prog 32 8 = some 13 := by kernel_rfl
theorem sg30 : single Try.prog 30 = true := by kernel_rfl
theorem il30 : isSlice Try.prog 30 = true := by kernel_rfl
theorem ez23 : esz Try.prog 23 = some 1 := by kernel_rfl
theorem ez30 : esz Try.prog 30 = some 7 := by kernel_rfl
theorem fo55_6 : foff Try.prog 55 6 = some 6 := by kernel_rfl
theorem zl57 : zeroL Try.prog 57 = some [] := by kernel_rfl
theorem pl57 : placesL Try.prog 57 = some [] := by kernel_rfl
theorem us57 : (Try.prog.underlying 57).isSome = true := by kernel_rfl
theorem ni57 : isIface Try.prog 57 = false := by kernel_rfl
theorem zl59 : zeroL Try.prog 59 = some [.int .i64 0] := by kernel_rfl
theorem pl59 : placesL Try.prog 59 = some [(0, 1)] := by kernel_rfl
theorem us59 : (Try.prog.underlying 59).isSome = true := by kernel_rfl
theorem ni59 : isIface Try.prog 59 = false := by kernel_rfl
theorem sl22 : slInfo Try.prog 22 = some (5, 1, 1, [.int .u8 0]) := by kernel_rfl
theorem zl61 : zeroL Try.prog 61 = some [.slice none 0 0] := by kernel_rfl
theorem pl61 : placesL Try.prog 61 = some [(0, 1)] := by kernel_rfl
theorem us61 : (Try.prog.underlying 61).isSome = true := by kernel_rfl
theorem ni61 : isIface Try.prog 61 = false := by kernel_rfl
theorem us62 : (Try.prog.underlying 62).isSome = true := by kernel_rfl
theorem ni62 : isIface Try.prog 62 = false := by kernel_rfl
theorem zl64 : zeroL Try.prog 64 = some [.int .u8 0, .int .i64 0] := by kernel_rfl
theorem pl64 : placesL Try.prog 64 = some [(0, 1), (1, 1)] := by kernel_rfl
theorem us64 : (Try.prog.underlying 64).isSome = true := by kernel_rfl
theorem ni64 : isIface Try.prog 64 = false := by kernel_rfl
theorem fo32_1 : foff Try.prog 32 1 = some 1 := by kernel_rfl
theorem sg3 : single Try.prog 3 = true := by kernel_rfl
theorem zl66 : zeroL Try.prog 66 = some [.int .i64 0, .string ByteArray.empty] := by kernel_rfl
theorem pl66 : placesL Try.prog 66 = some [(0, 1), (1, 1)] := by kernel_rfl
theorem us66 : (Try.prog.underlying 66).isSome = true := by kernel_rfl
theorem ni66 : isIface Try.prog 66 = false := by kernel_rfl
theorem zl68 : zeroL Try.prog 68 = some [.int .i64 0, .slice none 0 0] := by kernel_rfl
theorem pl68 : placesL Try.prog 68 = some [(0, 1), (1, 1)] := by kernel_rfl
theorem us68 : (Try.prog.underlying 68).isSome = true := by kernel_rfl
theorem ni68 : isIface Try.prog 68 = false := by kernel_rfl
theorem ag28 : aggSize Try.prog 28 = some 6 := by kernel_rfl
theorem zl70 : zeroL Try.prog 70 = some [.int .i64 0, .int .i8 0, .int .i64 0, .int .i64 0, .int .i64 0, .slice none 0 0, .slice none 0 0] := by kernel_rfl
theorem pl70 : placesL Try.prog 70 = some [(0, 1), (1, 6)] := by kernel_rfl
theorem us70 : (Try.prog.underlying 70).isSome = true := by kernel_rfl
theorem ni70 : isIface Try.prog 70 = false := by kernel_rfl
theorem zl71 : zeroL Try.prog 71 = some [.int .i64 0] := by kernel_rfl
theorem pl71 : placesL Try.prog 71 = some [(0, 1)] := by kernel_rfl
theorem us71 : (Try.prog.underlying 71).isSome = true := by kernel_rfl
theorem ni71 : isIface Try.prog 71 = false := by kernel_rfl
theorem zl72 : zeroL Try.prog 72 = some [.int .i64 0] := by kernel_rfl
theorem pl72 : placesL Try.prog 72 = some [(0, 1)] := by kernel_rfl
theorem us72 : (Try.prog.underlying 72).isSome = true := by kernel_rfl
theorem ni72 : isIface Try.prog 72 = false := by kernel_rfl
theorem fo32_6 : foff Try.prog 32 6 = some 11 := by kernel_rfl
theorem fo32_7 : foff Try.prog 32 7 = some 12 := by kernel_rfl
theorem sg29 : single Try.prog 29 = true := by kernel_rfl
theorem zl74 : zeroL Try.prog 74 = some [.int .i64 0, .slice none 0 0] := by kernel_rfl
theorem pl74 : placesL Try.prog 74 = some [(0, 1), (1, 1)] := by kernel_rfl
theorem us74 : (Try.prog.underlying 74).isSome = true := by kernel_rfl
theorem ni74 : isIface Try.prog 74 = false := by kernel_rfl
theorem zl76 : zeroL Try.prog 76 = some [.int .i64 0, .slice none 0 0] := by kernel_rfl
theorem pl76 : placesL Try.prog 76 = some [(0, 1), (1, 1)] := by kernel_rfl
theorem us76 : (Try.prog.underlying 76).isSome = true := by kernel_rfl
theorem ni76 : isIface Try.prog 76 = false := by kernel_rfl
theorem zl78 : zeroL Try.prog 78 = some [.int .i64 0, .slice none 0 0] := by kernel_rfl
theorem pl78 : placesL Try.prog 78 = some [(0, 1), (1, 1)] := by kernel_rfl
theorem us78 : (Try.prog.underlying 78).isSome = true := by kernel_rfl
theorem ni78 : isIface Try.prog 78 = false := by kernel_rfl
theorem cl19 : callable Try.prog 19 = true := by kernel_rfl
theorem pl32 : placesL Try.prog 32 = some [(0, 1), (1, 1), (2, 1), (3, 1), (4, 1), (5, 6), (11, 1), (12, 1), (13, 1)] := by kernel_rfl
theorem ag61 : aggSize Try.prog 61 = some 1 := by kernel_rfl
theorem fo61_0 : foff Try.prog 61 0 = some 0 := by kernel_rfl
theorem co22 : cells1 Try.prog 22 = true := by kernel_rfl
theorem ag66 : aggSize Try.prog 66 = some 2 := by kernel_rfl
theorem fo66_0 : foff Try.prog 66 0 = some 0 := by kernel_rfl
theorem fo66_1 : foff Try.prog 66 1 = some 1 := by kernel_rfl
theorem co3 : cells1 Try.prog 3 = true := by kernel_rfl
theorem co9 : cells1 Try.prog 9 = true := by kernel_rfl
theorem ag68 : aggSize Try.prog 68 = some 2 := by kernel_rfl
theorem fo68_0 : foff Try.prog 68 0 = some 0 := by kernel_rfl
theorem fo68_1 : foff Try.prog 68 1 = some 1 := by kernel_rfl
theorem co23 : cells1 Try.prog 23 = true := by kernel_rfl
theorem ag70 : aggSize Try.prog 70 = some 7 := by kernel_rfl
theorem fo70_0 : foff Try.prog 70 0 = some 0 := by kernel_rfl
theorem fo70_1 : foff Try.prog 70 1 = some 1 := by kernel_rfl
theorem ag59 : aggSize Try.prog 59 = some 1 := by kernel_rfl
theorem fo59_0 : foff Try.prog 59 0 = some 0 := by kernel_rfl
theorem ag71 : aggSize Try.prog 71 = some 1 := by kernel_rfl
theorem fo71_0 : foff Try.prog 71 0 = some 0 := by kernel_rfl
theorem ag72 : aggSize Try.prog 72 = some 1 := by kernel_rfl
theorem fo72_0 : foff Try.prog 72 0 = some 0 := by kernel_rfl
theorem ag57 : aggSize Try.prog 57 = some 0 := by kernel_rfl
theorem ag64 : aggSize Try.prog 64 = some 2 := by kernel_rfl
theorem fo64_0 : foff Try.prog 64 0 = some 0 := by kernel_rfl
theorem fo64_1 : foff Try.prog 64 1 = some 1 := by kernel_rfl
theorem co5 : cells1 Try.prog 5 = true := by kernel_rfl
theorem co29 : cells1 Try.prog 29 = true := by kernel_rfl
theorem ag74 : aggSize Try.prog 74 = some 2 := by kernel_rfl
theorem fo74_0 : foff Try.prog 74 0 = some 0 := by kernel_rfl
theorem fo74_1 : foff Try.prog 74 1 = some 1 := by kernel_rfl
theorem ag76 : aggSize Try.prog 76 = some 2 := by kernel_rfl
theorem fo76_0 : foff Try.prog 76 0 = some 0 := by kernel_rfl
theorem fo76_1 : foff Try.prog 76 1 = some 1 := by kernel_rfl
theorem co30 : cells1 Try.prog 30 = true := by kernel_rfl
theorem ag78 : aggSize Try.prog 78 = some 2 := by kernel_rfl
theorem fo78_0 : foff Try.prog 78 0 = some 0 := by kernel_rfl
theorem fo78_1 : foff Try.prog 78 1 = some 1 := by kernel_rfl
theorem zl22 : zeroL Try.prog 22 = some [.slice none 0 0] := by kernel_rfl
theorem zl29 : zeroL Try.prog 29 = some [.int .i64 0] := by kernel_rfl
theorem zl86 : zeroL Try.prog 86 = some [.slice none 0 0, .int .i64 0, .bool false] := by kernel_rfl
theorem pl86 : placesL Try.prog 86 = some [(0, 1), (1, 1), (2, 1)] := by kernel_rfl
theorem cl23 : callable Try.prog 23 = true := by kernel_rfl
theorem cl24 : callable Try.prog 24 = true := by kernel_rfl
theorem cl25 : callable Try.prog 25 = true := by kernel_rfl
theorem fo86_0 : foff Try.prog 86 0 = some 0 := by kernel_rfl
theorem sg36 : single Try.prog 36 = true := by kernel_rfl
theorem zl36 : zeroL Try.prog 36 = some [.nilIface] := by kernel_rfl
theorem zl3 : zeroL Try.prog 3 = some [.int .i64 0] := by kernel_rfl
theorem co36 : cells1 Try.prog 36 = true := by kernel_rfl
theorem zl82 : zeroL Try.prog 82 = some [.int .i64 0] := by kernel_rfl
theorem pl82 : placesL Try.prog 82 = some [(0, 1)] := by kernel_rfl
theorem us82 : (Try.prog.underlying 82).isSome = true := by kernel_rfl
theorem ni82 : isIface Try.prog 82 = false := by kernel_rfl
theorem fo86_1 : foff Try.prog 86 1 = some 1 := by kernel_rfl
theorem sl23 : slInfo Try.prog 23 = some (9, 1, 16, [.string ByteArray.empty]) := by kernel_rfl
theorem zl55 : zeroL Try.prog 55 = some [.int .i8 0, .int .i64 0, .int .i64 0, .int .i64 0, .int .i64 0, .int .i64 0, .slice none 0 0] := by kernel_rfl
theorem ag55 : aggSize Try.prog 55 = some 7 := by kernel_rfl
theorem sl30 : slInfo Try.prog 30 = some (55, 7, 72, [.int .i8 0, .int .i64 0, .int .i64 0, .int .i64 0, .int .i64 0, .int .i64 0, .slice none 0 0]) := by kernel_rfl
theorem cl41 : callable Try.prog 41 = true := by kernel_rfl
theorem cl42 : callable Try.prog 42 = true := by kernel_rfl
theorem cl43 : callable Try.prog 43 = true := by kernel_rfl
theorem cl44 : callable Try.prog 44 = true := by kernel_rfl
theorem fo28_0 : foff Try.prog 28 0 = some 0 := by kernel_rfl
theorem sg24 : single Try.prog 24 = true := by kernel_rfl
theorem fo28_1 : foff Try.prog 28 1 = some 1 := by kernel_rfl
theorem fo28_2 : foff Try.prog 28 2 = some 2 := by kernel_rfl
theorem fo28_3 : foff Try.prog 28 3 = some 3 := by kernel_rfl
theorem ag82 : aggSize Try.prog 82 = some 1 := by kernel_rfl
theorem fo86_2 : foff Try.prog 86 2 = some 2 := by kernel_rfl
theorem sg4 : single Try.prog 4 = true := by kernel_rfl
theorem ez22 : esz Try.prog 22 = some 1 := by kernel_rfl
theorem cl46 : callable Try.prog 46 = true := by kernel_rfl
theorem cl47 : callable Try.prog 47 = true := by kernel_rfl
theorem cl48 : callable Try.prog 48 = true := by kernel_rfl
theorem cl49 : callable Try.prog 49 = true := by kernel_rfl
theorem cl50 : callable Try.prog 50 = true := by kernel_rfl
theorem cl52 : callable Try.prog 52 = true := by kernel_rfl
theorem cl51 : callable Try.prog 51 = true := by kernel_rfl
theorem us3 : (Try.prog.underlying 3).isSome = true := by kernel_rfl
theorem ik128 : isIntT Try.prog 128 .u64 = true := by kernel_rfl
theorem ik5 : isIntT Try.prog 5 .u8 = true := by kernel_rfl
theorem us24 : (Try.prog.underlying 24).isSome = true := by kernel_rfl
theorem ez26 : esz Try.prog 26 = some 2 := by kernel_rfl
theorem fo132_0 : foff Try.prog 132 0 = some 0 := by kernel_rfl
theorem fo132_1 : foff Try.prog 132 1 = some 1 := by kernel_rfl
theorem fo55_0 : foff Try.prog 55 0 = some 0 := by kernel_rfl
theorem fo55_1 : foff Try.prog 55 1 = some 1 := by kernel_rfl
theorem fo55_2 : foff Try.prog 55 2 = some 2 := by kernel_rfl
theorem fo55_3 : foff Try.prog 55 3 = some 3 := by kernel_rfl
theorem fo55_4 : foff Try.prog 55 4 = some 4 := by kernel_rfl
theorem fo55_5 : foff Try.prog 55 5 = some 5 := by kernel_rfl
theorem ag132 : aggSize Try.prog 132 = some 2 := by kernel_rfl
theorem fg132 : flatG Try.prog 132 = some [.i .i64, .i .i64] := by kernel_rfl
theorem fo82_0 : foff Try.prog 82 0 = some 0 := by kernel_rfl
theorem us5 : (Try.prog.underlying 5).isSome = true := by kernel_rfl
theorem us128 : (Try.prog.underlying 128).isSome = true := by kernel_rfl
theorem ik3 : isIntT Try.prog 3 .i64 = true := by kernel_rfl
theorem co25 : cells1 Try.prog 25 = true := by kernel_rfl
theorem zl132 : zeroL Try.prog 132 = some [.int .i64 0, .int .i64 0] := by kernel_rfl
theorem sl26 : slInfo Try.prog 26 = some (132, 2, 16, [.int .i64 0, .int .i64 0]) := by kernel_rfl
theorem co26 : cells1 Try.prog 26 = true := by kernel_rfl
theorem cl59 : callable Try.prog 59 = true := by kernel_rfl
theorem cl60 : callable Try.prog 60 = true := by kernel_rfl
theorem cl61 : callable Try.prog 61 = true := by kernel_rfl
theorem ik129 : isIntT Try.prog 129 .u64 = true := by kernel_rfl
theorem zl5 : zeroL Try.prog 5 = some [.int .u8 0] := by kernel_rfl
theorem cl62 : callable Try.prog 62 = true := by kernel_rfl
theorem cl63 : callable Try.prog 63 = true := by kernel_rfl
theorem sl141 : slInfo Try.prog 141 = some (117, 1, 8, [.pointer none]) := by kernel_rfl
theorem il141 : isSlice Try.prog 141 = true := by kernel_rfl
theorem ez141 : esz Try.prog 141 = some 1 := by kernel_rfl
theorem sg117 : single Try.prog 117 = true := by kernel_rfl
theorem cl64 : callable Try.prog 64 = true := by kernel_rfl
theorem cl66 : callable Try.prog 66 = true := by kernel_rfl
theorem cl65 : callable Try.prog 65 = true := by kernel_rfl
theorem ez25 : esz Try.prog 25 = some 1 := by kernel_rfl
theorem ik24 : isIntT Try.prog 24 .i8 = true := by kernel_rfl
theorem sl25 : slInfo Try.prog 25 = some (3, 1, 8, [.int .i64 0]) := by kernel_rfl
theorem co24 : cells1 Try.prog 24 = true := by kernel_rfl
end Go.Proofs.Ytbpihgphicmdiaa
