/- Parts of the proof: contracts of functions of the program, and plain lemmas. No condition. -/
import Derived.Test.YtgohljjedlpccaaGreatDoorProg
import Derived.Test.YtgohljjedlpccaaGreatDoorEng2
import Derived.KernelRfl
import Derived.Lib.Fields
import Derived.Shelf.LaysM
import Derived.Shelf.Strings.SplitShaped
import Derived.Shelf.Unicode.Decode
import Derived.Shelf.Unicode.DecodeAny
import Derived.Below
set_option maxHeartbeats 64000000
set_option maxRecDepth 100000
namespace Go.Proofs.YtgohljjedlpccaaGreatDoor
open Go.Eng
section
abbrev cc (t : Nat) : Prop := callable Tryz.prog t = true
abbrev sn (t : Nat) : Prop := single Tryz.prog t = true
abbrev c1 (t : Nat) : Prop := cells1 Tryz.prog t = true
abbrev az (t q : Nat) : Prop := aggSize Tryz.prog t = some q
theorem mixed : Tryz.prog.follows .mixedOrders = true := by kernel_rfl
theorem ag25 : az 25 2 := by decide +kernel
theorem cl5 : cc 5 := by decide +kernel
theorem cl6 : cc 6 := by decide +kernel
theorem cl7 : cc 7 := by decide +kernel
theorem cl8 : cc 8 := by decide +kernel
theorem bo4 : isBoolT Tryz.prog 4 = true := by kernel_rfl
theorem st9 : isStr Tryz.prog 9 = true := by kernel_rfl
theorem cl9 : cc 9 := by decide +kernel
theorem zl25 : zeroL Tryz.prog 25 = some [.slice none 0 0, .slice none 0 0] := by kernel_rfl
theorem zl31 : zeroL Tryz.prog 31 = some [.int .i64 0, .int .i64 0] := by kernel_rfl
theorem ag31 : az 31 2 := by decide +kernel
theorem sg29 : sn 29 := by decide +kernel
theorem sg22 : sn 22 := by decide +kernel
theorem il22 : isSlice Tryz.prog 22 = true := by kernel_rfl
theorem sg23 : sn 23 := by decide +kernel
theorem cl10 : cc 10 := by decide +kernel
theorem ez23 : esz Tryz.prog 23 = some 7 := by kernel_rfl
theorem fo40_4 : foff Tryz.prog 40 4 = some 4 := by kernel_rfl
theorem sg38 : sn 38 := by decide +kernel
theorem il38 : isSlice Tryz.prog 38 = true := by kernel_rfl
theorem fo40_5 : foff Tryz.prog 40 5 = some 5 := by kernel_rfl
theorem cl12 : cc 12 := by decide +kernel
theorem cl13 : cc 13 := by decide +kernel
theorem cl14 : cc 14 := by decide +kernel
theorem zl40 : zeroL Tryz.prog 40 = some [.string ByteArray.empty, .int .i64 0, .int .i64 0, .int .i64 0, .slice none 0 0, .slice none 0 0, .int .i64 0] := by kernel_rfl
theorem ag40 : az 40 7 := by decide +kernel
theorem ez22 : esz Tryz.prog 22 = some 12 := by kernel_rfl
theorem sg3 : sn 3 := by decide +kernel
theorem fo40_2 : foff Tryz.prog 40 2 = some 2 := by kernel_rfl
theorem pl31 : placesL Tryz.prog 31 = some [(0, 1), (1, 1)] := by kernel_rfl
theorem fg31 : flatG Tryz.prog 31 = some [.i .i64, .i .i64] := by kernel_rfl
theorem zl50 : zeroL Tryz.prog 50 = some [] := by kernel_rfl
theorem ag50 : az 50 0 := by decide +kernel
theorem cl16 : cc 16 := by decide +kernel
theorem cl15 : cc 15 := by decide +kernel
theorem cl18 : cc 18 := by decide +kernel
theorem cl17 : cc 17 := by decide +kernel
theorem cl19 : cc 19 := by decide +kernel
theorem cl20 : cc 20 := by decide +kernel
theorem pl25 : placesL Tryz.prog 25 = some [(0, 1), (1, 1)] := by kernel_rfl
theorem cl21 : cc 21 := by decide +kernel
theorem cl23 : cc 23 := by decide +kernel
theorem cl25 : cc 25 := by decide +kernel
theorem zl57 : zeroL Tryz.prog 57 = some [.nilFunc, .nilFunc, .nilFunc] := by kernel_rfl
theorem ar57 : arrInfo Tryz.prog 57 = some (3, 56, 1) := by kernel_rfl
theorem ars57 : sn 56 := by decide +kernel
theorem co4 : c1 4 := by decide +kernel
theorem sg4 : sn 4 := by decide +kernel
theorem ag48 : az 48 12 := by decide +kernel
theorem cl36 : cc 36 := by decide +kernel
theorem sg9 : sn 9 := by decide +kernel
theorem cl38 : cc 38 := by decide +kernel
theorem cl37 : cc 37 := by decide +kernel
theorem zl48 : zeroL Tryz.prog 48 = some [.string ByteArray.empty, .bool false, .int .i64 0, .int .i64 0, .int .i64 0, .int .i64 0, .int .i64 0, .int .i64 0, .slice none 0 0, .slice none 0 0, .slice none 0 0, .int .i64 0] := by kernel_rfl
theorem cl40 : cc 40 := by decide +kernel
theorem cl39 : cc 39 := by decide +kernel
theorem cl41 : cc 41 := by decide +kernel
theorem co38 : c1 38 := by decide +kernel
theorem cl42 : cc 42 := by decide +kernel
theorem fo48_8 : foff Tryz.prog 48 8 = some 8 := by kernel_rfl
theorem sg46 : sn 46 := by decide +kernel
theorem fo48_9 : foff Tryz.prog 48 9 = some 9 := by kernel_rfl
theorem fo48_10 : foff Tryz.prog 48 10 = some 10 := by kernel_rfl
theorem fo40_1 : foff Tryz.prog 40 1 = some 1 := by kernel_rfl
theorem fo40_3 : foff Tryz.prog 40 3 = some 3 := by kernel_rfl
theorem cl45 : cc 45 := by decide +kernel
theorem cl46 : cc 46 := by decide +kernel
theorem cl47 : cc 47 := by decide +kernel
theorem cl48 : cc 48 := by decide +kernel
theorem zl99 : zeroL Tryz.prog 99 = some [.slice none 0 0, .int .i64 0, .int .i64 0, .int .i64 0] := by kernel_rfl
theorem pl99 : placesL Tryz.prog 99 = some [(0, 1), (1, 1), (2, 1), (3, 1)] := by kernel_rfl
theorem sg94 : sn 94 := by decide +kernel
theorem ez94 : esz Tryz.prog 94 = some 4 := by kernel_rfl
theorem sg82 : sn 82 := by decide +kernel
theorem cl50 : cc 50 := by decide +kernel
theorem cl51 : cc 51 := by decide +kernel
theorem co3 : c1 3 := by decide +kernel
theorem cl52 : cc 52 := by decide +kernel
theorem sl22 : slInfo Tryz.prog 22 = some (48, 12, 152, [.string ByteArray.empty, .bool false, .int .i64 0, .int .i64 0, .int .i64 0, .int .i64 0, .int .i64 0, .int .i64 0, .slice none 0 0, .slice none 0 0, .slice none 0 0, .int .i64 0]) := by kernel_rfl
theorem co22 : c1 22 := by decide +kernel
theorem cl53 : cc 53 := by decide +kernel
theorem sl23 : slInfo Tryz.prog 23 = some (40, 7, 96, [.string ByteArray.empty, .int .i64 0, .int .i64 0, .int .i64 0, .slice none 0 0, .slice none 0 0, .int .i64 0]) := by kernel_rfl
theorem co23 : c1 23 := by decide +kernel
theorem cl22 : cc 22 := by decide +kernel
theorem ms105 : mapStr Tryz.prog 105 = some 4 := by kernel_rfl
theorem mz105 : zero1 Tryz.prog 4 (.bool false) := kx (i := _) rfl (by kernel_rfl)
theorem kR : foff Tryz.prog 48 11 = some 11 := by kernel_rfl
theorem cl54 : cc 54 := by decide +kernel
theorem cl24 : cc 24 := by decide +kernel
theorem zl111 : zeroL Tryz.prog 111 = some [.int .i8 0] := by kernel_rfl
theorem pl111 : placesL Tryz.prog 111 = some [(0, 1)] := by kernel_rfl
theorem ag111 : az 111 1 := by decide +kernel
theorem cl55 : cc 55 := by decide +kernel
theorem cl26 : cc 26 := by decide +kernel
theorem cl56 : cc 56 := by decide +kernel
theorem zl113 : zeroL Tryz.prog 113 = some [.slice none 0 0, .slice none 0 0] := by kernel_rfl
theorem ar113 : arrInfo Tryz.prog 113 = some (2, 38, 1) := by kernel_rfl
theorem ars113 : sn 38 := by decide +kernel
theorem ez38 : esz Tryz.prog 38 = some 1 := by kernel_rfl
theorem co9 : c1 9 := by decide +kernel
theorem sl38 : slInfo Tryz.prog 38 = some (9, 1, 16, [.string ByteArray.empty]) := by kernel_rfl
theorem cl64 : cc 64 := by decide +kernel
theorem cl65 : cc 65 := by decide +kernel
theorem cl66 : cc 66 := by decide +kernel
theorem cl44 : cc 44 := by decide +kernel
theorem cl43 : cc 43 := by decide +kernel
theorem il46 : isSlice Tryz.prog 46 = true := by kernel_rfl
theorem ez46 : esz Tryz.prog 46 = some 14 := by kernel_rfl
theorem ag90 : az 90 14 := by decide +kernel
theorem zl90 : zeroL Tryz.prog 90 = some [.int .i8 0, .int .i8 0, .int .i8 0, .int .i64 0, .int .i8 0, .slice none 0 0, .string ByteArray.empty, .int .i8 0, .int .i8 0, .string ByteArray.empty, .slice none 0 0, .slice none 0 0, .slice none 0 0, .slice none 0 0] := by kernel_rfl
theorem yF : foff Tryz.prog 90 0 = some 0 := by kernel_rfl
theorem WA : foff Tryz.prog 90 2 = some 2 := by kernel_rfl
theorem ag85 : az 85 4 := by decide +kernel
theorem cl67 : cc 67 := by decide +kernel
theorem fo90_4 : foff Tryz.prog 90 4 = some 7 := by kernel_rfl
theorem ag88 : az 88 5 := by decide +kernel
theorem cl68 : cc 68 := by decide +kernel
theorem fo90_5 : foff Tryz.prog 90 5 = some 12 := by kernel_rfl
theorem fo90_6 : foff Tryz.prog 90 6 = some 13 := by kernel_rfl
theorem cl69 : cc 69 := by decide +kernel
theorem cl70 : cc 70 := by decide +kernel
theorem cl71 : cc 71 := by decide +kernel
theorem cl72 : cc 72 := by decide +kernel
theorem zl101 : zeroL Tryz.prog 101 = some [.int .i8 0, .string ByteArray.empty, .int .i64 0, .int .i64 0] := by kernel_rfl
theorem pl101 : placesL Tryz.prog 101 = some [(0, 1), (1, 1), (2, 1), (3, 1)] := by kernel_rfl
theorem sl94 : slInfo Tryz.prog 94 = some (101, 4, 40, [.int .i8 0, .string ByteArray.empty, .int .i64 0, .int .i64 0]) := by kernel_rfl
theorem cl73 : cc 73 := by decide +kernel
theorem us5 : (Tryz.prog.underlying 5).isSome = true := by kernel_rfl
theorem ik21 : isIntT Tryz.prog 21 .i32 = true := by kernel_rfl
theorem ik3 : isIntT Tryz.prog 3 .i64 = true := by kernel_rfl
theorem cl74 : cc 74 := by decide +kernel
theorem us31 : (Tryz.prog.underlying 31).isSome = true := by kernel_rfl
theorem ni31 : isIface Tryz.prog 31 = false := by kernel_rfl
theorem ag101 : az 101 4 := by decide +kernel
theorem cl75 : cc 75 := by decide +kernel
theorem sg97 : sn 97 := by decide +kernel
theorem cl76 : cc 76 := by decide +kernel
theorem cl77 : cc 77 := by decide +kernel
theorem cl78 : cc 78 := by decide +kernel
theorem cl79 : cc 79 := by decide +kernel
theorem cl81 : cc 81 := by decide +kernel
theorem cl83 : cc 83 := by decide +kernel
theorem cl84 : cc 84 := by decide +kernel
theorem cl85 : cc 85 := by decide +kernel
theorem cl86 : cc 86 := by decide +kernel
theorem cl80 : cc 80 := by decide +kernel
theorem cl87 : cc 87 := by decide +kernel
theorem cl89 : cc 89 := by decide +kernel
theorem zl147 : zeroL Tryz.prog 147 = some [.int .i64 0, .int .i64 0, .int .i64 0, .int .i64 0, .int .i64 0, .int .i64 0] := by kernel_rfl
theorem ar147 : arrInfo Tryz.prog 147 = some (6, 3, 1) := by kernel_rfl
theorem ars147 : sn 3 := by decide +kernel
theorem cl92 : cc 92 := by decide +kernel
theorem zl150 : zeroL Tryz.prog 150 = some [.map none, .bool false] := by kernel_rfl
theorem pl150 : placesL Tryz.prog 150 = some [(0, 1), (1, 1)] := by kernel_rfl
theorem cl93 : cc 93 := by decide +kernel
theorem zl153 : zeroL Tryz.prog 153 = some [.nilFunc, .nilFunc, .nilFunc, .nilFunc, .nilFunc, .nilFunc, .nilFunc, .nilFunc, .nilFunc] := by kernel_rfl
theorem ar153 : arrInfo Tryz.prog 153 = some (9, 152, 1) := by kernel_rfl
theorem ag153 : az 153 9 := by decide +kernel
theorem cl98 : cc 98 := by decide +kernel
theorem cl100 : cc 100 := by decide +kernel
theorem cl105 : cc 105 := by decide +kernel
theorem cl106 : cc 106 := by decide +kernel
theorem cl107 : cc 107 := by decide +kernel
theorem uH : foff Tryz.prog 85 0 = some 0 := by kernel_rfl
theorem fo85_3 : foff Tryz.prog 85 3 = some 3 := by kernel_rfl
theorem sg83 : sn 83 := by decide +kernel
theorem cl108 : cc 108 := by decide +kernel
theorem WB : foff Tryz.prog 88 0 = some 0 := by kernel_rfl
theorem fo88_1 : foff Tryz.prog 88 1 = some 1 := by kernel_rfl
theorem fo88_3 : foff Tryz.prog 88 3 = some 3 := by kernel_rfl
theorem fo88_4 : foff Tryz.prog 88 4 = some 4 := by kernel_rfl
theorem sg86 : sn 86 := by decide +kernel
theorem cl109 : cc 109 := by decide +kernel
theorem cl110 : cc 110 := by decide +kernel
theorem cl111 : cc 111 := by decide +kernel
theorem zl164 : zeroL Tryz.prog 164 = some [.string ByteArray.empty, .string ByteArray.empty, .string ByteArray.empty, .string ByteArray.empty, .string ByteArray.empty, .string ByteArray.empty, .string ByteArray.empty, .string ByteArray.empty, .string ByteArray.empty, .string ByteArray.empty, .string ByteArray.empty, .string ByteArray.empty, .string ByteArray.empty] := by kernel_rfl
theorem ar164 : arrInfo Tryz.prog 164 = some (13, 9, 1) := by kernel_rfl
theorem ars164 : sn 9 := by decide +kernel
theorem cl113 : cc 113 := by decide +kernel
theorem ms141 : mapStr Tryz.prog 141 = some 1 := by kernel_rfl
theorem mz141 : zero1 Tryz.prog 1 (.nilFunc) := kx (i := _) rfl (by kernel_rfl)
theorem cl82 : cc 82 := by decide +kernel
theorem co46 : c1 46 := by decide +kernel
theorem cl114 : cc 114 := by decide +kernel
theorem sl46 : slInfo Tryz.prog 46 = some (90, 14, 192, [.int .i8 0, .int .i8 0, .int .i8 0, .int .i64 0, .int .i8 0, .slice none 0 0, .string ByteArray.empty, .int .i8 0, .int .i8 0, .string ByteArray.empty, .slice none 0 0, .slice none 0 0, .slice none 0 0, .slice none 0 0]) := by kernel_rfl
theorem cl88 : cc 88 := by decide +kernel
theorem sg142 : sn 142 := by decide +kernel
theorem cl90 : cc 90 := by decide +kernel
theorem sg144 : sn 144 := by decide +kernel
theorem cl91 : cc 91 := by decide +kernel
theorem zl3 : zeroL Tryz.prog 3 = some [.int .i64 0] := by kernel_rfl
theorem cl116 : cc 116 := by decide +kernel
theorem cl115 : cc 115 := by decide +kernel
theorem cl117 : cc 117 := by decide +kernel
theorem cl118 : cc 118 := by decide +kernel
theorem cl119 : cc 119 := by decide +kernel
theorem cl120 : cc 120 := by decide +kernel
theorem sg105 : sn 105 := by decide +kernel
theorem cl121 : cc 121 := by decide +kernel
theorem qh : foff Tryz.prog 111 0 = some 0 := by kernel_rfl
theorem sg109 : sn 109 := by decide +kernel
theorem cl123 : cc 123 := by decide +kernel
theorem cl122 : cc 122 := by decide +kernel
theorem cl124 : cc 124 := by decide +kernel
theorem cl125 : cc 125 := by decide +kernel
theorem cl126 : cc 126 := by decide +kernel
theorem cl127 : cc 127 := by decide +kernel
theorem us82 : (Tryz.prog.underlying 82).isSome = true := by kernel_rfl
theorem sg152 : sn 152 := by decide +kernel
theorem cl128 : cc 128 := by decide +kernel
theorem co82 : c1 82 := by decide +kernel
theorem zl88 : zeroL Tryz.prog 88 = some [.int .i8 0, .int .i8 0, .string ByteArray.empty, .slice none 0 0, .slice none 0 0] := by kernel_rfl
theorem pl88 : placesL Tryz.prog 88 = some [(0, 1), (1, 1), (2, 1), (3, 1), (4, 1)] := by kernel_rfl
theorem zl85 : zeroL Tryz.prog 85 = some [.int .i8 0, .int .i64 0, .int .i8 0, .slice none 0 0] := by kernel_rfl
theorem pl85 : placesL Tryz.prog 85 = some [(0, 1), (1, 1), (2, 1), (3, 1)] := by kernel_rfl
theorem il83 : isSlice Tryz.prog 83 = true := by kernel_rfl
theorem ez83 : esz Tryz.prog 83 = some 4 := by kernel_rfl
theorem il86 : isSlice Tryz.prog 86 = true := by kernel_rfl
theorem ez86 : esz Tryz.prog 86 = some 5 := by kernel_rfl
theorem cl138 : cc 138 := by decide +kernel
theorem cl139 : cc 139 := by decide +kernel
theorem cl140 : cc 140 := by decide +kernel
theorem cl141 : cc 141 := by decide +kernel
theorem cl142 : cc 142 := by decide +kernel
theorem cl143 : cc 143 := by decide +kernel
theorem zl198 : zeroL Tryz.prog 198 = some [.slice none 0 0, .slice none 0 0, .slice none 0 0] := by kernel_rfl
theorem ar198 : arrInfo Tryz.prog 198 = some (3, 46, 1) := by kernel_rfl
theorem ars198 : sn 46 := by decide +kernel
theorem zl201 : zeroL Tryz.prog 201 = some [.pointer none] := by kernel_rfl
theorem pl201 : placesL Tryz.prog 201 = some [(0, 1)] := by kernel_rfl
theorem us201 : (Tryz.prog.underlying 201).isSome = true := by kernel_rfl
theorem ni201 : isIface Tryz.prog 201 = false := by kernel_rfl
theorem cl144 : cc 144 := by decide +kernel
theorem cl145 : cc 145 := by decide +kernel
theorem ar203 : arrInfo Tryz.prog 203 = some (4, 202, 4) := by kernel_rfl
theorem ara203 : az 202 4 := by decide +kernel
theorem ar202 : arrInfo Tryz.prog 202 = some (4, 109, 1) := by kernel_rfl
theorem ars202 : sn 109 := by decide +kernel
theorem cl146 : cc 146 := by decide +kernel
theorem sl217 : slInfo Tryz.prog 217 = some (82, 1, 1, [.int .i8 0]) := by kernel_rfl
theorem cl157 : cc 157 := by decide +kernel
theorem cl156 : cc 156 := by decide +kernel
theorem cl160 : cc 160 := by decide +kernel
theorem cl159 : cc 159 := by decide +kernel
theorem ag201 : az 201 1 := by decide +kernel
theorem sg171 : sn 171 := by decide +kernel
theorem zl223 : zeroL Tryz.prog 223 = some [.pointer none] := by kernel_rfl
theorem pl223 : placesL Tryz.prog 223 = some [(0, 1)] := by kernel_rfl
theorem us223 : (Tryz.prog.underlying 223).isSome = true := by kernel_rfl
theorem ni223 : isIface Tryz.prog 223 = false := by kernel_rfl
theorem sl221 : slInfo Tryz.prog 221 = some (169, 1, 16, [.nilIface]) := by kernel_rfl
theorem zl225 : zeroL Tryz.prog 225 = some [.pointer none] := by kernel_rfl
theorem pl225 : placesL Tryz.prog 225 = some [(0, 1)] := by kernel_rfl
theorem us225 : (Tryz.prog.underlying 225).isSome = true := by kernel_rfl
theorem ni225 : isIface Tryz.prog 225 = false := by kernel_rfl
theorem zl226 : zeroL Tryz.prog 226 = some [.slice none 0 0, .slice none 0 0] := by kernel_rfl
theorem ar226 : arrInfo Tryz.prog 226 = some (2, 46, 1) := by kernel_rfl
theorem ars226 : sn 46 := by decide +kernel
theorem ag223 : az 223 1 := by decide +kernel
theorem sg174 : sn 174 := by decide +kernel
theorem ag225 : az 225 1 := by decide +kernel
theorem sg176 : sn 176 := by decide +kernel
theorem ez221 : esz Tryz.prog 221 = some 1 := by kernel_rfl
theorem sg169 : sn 169 := by decide +kernel
theorem ag203 : az 203 16 := by decide +kernel
theorem zl203 : zeroL Tryz.prog 203 = some [.int .i8 0, .int .i8 0, .int .i8 0, .int .i8 0, .int .i8 0, .int .i8 0, .int .i8 0, .int .i8 0, .int .i8 0, .int .i8 0, .int .i8 0, .int .i8 0, .int .i8 0, .int .i8 0, .int .i8 0, .int .i8 0] := by kernel_rfl
theorem zl202 : zeroL Tryz.prog 202 = some [.int .i8 0, .int .i8 0, .int .i8 0, .int .i8 0] := by kernel_rfl
theorem us3 : (Tryz.prog.underlying 3).isSome = true := by kernel_rfl
theorem ez217 : esz Tryz.prog 217 = some 1 := by kernel_rfl
theorem cl174 : cc 174 := by decide +kernel
theorem sl83 : slInfo Tryz.prog 83 = some (85, 4, 48, [.int .i8 0, .int .i64 0, .int .i8 0, .slice none 0 0]) := by kernel_rfl
theorem cl175 : cc 175 := by decide +kernel
theorem sl86 : slInfo Tryz.prog 86 = some (88, 5, 72, [.int .i8 0, .int .i8 0, .string ByteArray.empty, .slice none 0 0, .slice none 0 0]) := by kernel_rfl
theorem cl180 : cc 180 := by decide +kernel
theorem ik82 : isIntT Tryz.prog 82 .i8 = true := by kernel_rfl
theorem cl158 : cc 158 := by decide +kernel
theorem cl181 : cc 181 := by decide +kernel
end
section
def tz : Tab := ⟨[(25, 0, 0), (25, 1, 1), (31, 0, 0), (40, 0, 0), (40, 1, 1), (40, 2, 2), (40, 3, 3), (40, 4, 4), (40, 5, 5), (40, 6, 6), (48, 0, 0), (48, 1, 1), (48, 2, 2), (48, 3, 3), (48, 4, 4), (48, 5, 5), (48, 6, 6), (48, 7, 7), (48, 8, 8), (48, 9, 9), (48, 10, 10), (48, 11, 11), (63, 0, 0), (63, 1, 1), (85, 0, 0), (85, 1, 1), (85, 2, 2), (85, 3, 3), (88, 0, 0), (88, 1, 1), (88, 2, 2), (88, 3, 3), (88, 4, 4), (90, 0, 0), (90, 1, 1), (90, 2, 2), (90, 3, 6), (90, 4, 7), (90, 5, 12), (90, 6, 13), (99, 0, 0), (99, 1, 1), (99, 2, 2), (99, 3, 3), (101, 0, 0), (101, 1, 1), (101, 2, 2), (101, 3, 3), (111, 0, 0), (119, 0, 0), (119, 1, 1), (150, 0, 0), (150, 1, 1), (193, 0, 0), (193, 1, 1), (201, 0, 0), (223, 0, 0), (225, 0, 0), (239, 0, 0), (239, 1, 1), (248, 0, 0), (248, 1, 1), (248, 2, 2), (251, 0, 0), (251, 1, 1), (251, 2, 2), (254, 0, 0), (254, 1, 1), (254, 2, 2)], [22, 23, 38, 46, 61, 83, 86, 94, 120, 122, 123, 221, 237, 245, 246]⟩
theorem tzOk : TabOk Tryz.prog tz := ⟨by kernel_rfl, by kernel_rfl⟩
theorem tr (k : Nat) {n : Nat} {c : Code} {env : Env} {m : Mp} {L : List Ent} {Q Q0 : Post} {fs : List Fm} {g' : Go1} {fs' : List Fm} {env' : Env} [r : Reif Tryz.prog n Q fs Q0] (hk : Holds Tryz.prog n g' fs' env' m L Q0) (h : runG tz n k (.code c) fs env = (g', fs', env') := by exact rfl) : TS Tryz.prog n c env m L Q := runTS tzOk k h hk
theorem vr (k : Nat) {n : Nat} {l0 l : List Oper} {env : Env} {m : Mp} {L : List Ent} {Q Q0 : Post} {fs : List Fm} {g' : Go1} {fs' : List Fm} {env' : Env} [r : Reif Tryz.prog n Q fs Q0] (hk : Holds Tryz.prog n g' fs' env' m L Q0) (h : runG tz n k (.ops l0 l) fs env = (g', fs', env') := by exact rfl) : VS Tryz.prog n l0 l env m L Q := runVS tzOk k h hk
theorem lr (k : Nat) {v : Value} {n d : Nat} {o : Oper} {l0 l : List Oper} {env : Env} {m : Mp} {L : List Ent} {Q Q0 : Post} {fs : List Fm} {g' : Go1} {fs' : List Fm} {env' : Env} [r : Reif Tryz.prog n Q fs Q0] (hr : ∀ h, HS m L h → ReadV Tryz.prog n o env h v) (hk : Holds Tryz.prog n g' fs' env' m L Q0) (hd : o.dst = some d := by exact rfl) (hn : Nat.blt d n = true := by exact rfl) (hw : wanted l0 env o = some true := by exact rfl) (h : runG tz n k (.ops l0 l) fs ((d, v) :: env) = (g', fs', env') := by exact rfl) : VS Tryz.prog n l0 (o :: l) env m L Q := readVS tzOk k hr hk hd hn hw h
theorem pe (k : Nat) {v : Value} {n d : Nat} {o : Oper} {l0 l : List Oper} {env : Env} {m : Mp} {L : List Ent} {Q Q0 : Post} {fs : List Fm} {g' : Go1} {fs' : List Fm} {env' : Env} [r : Reif Tryz.prog n Q fs Q0] (hr : PureV Tryz.prog n o env v) (hk : Holds Tryz.prog n g' fs' env' m L Q0) (hd : o.dst = some d := by exact rfl) (hn : Nat.blt d n = true := by exact rfl) (hw : wanted l0 env o = some true := by exact rfl) (h : runG tz n k (.ops l0 l) fs ((d, v) :: env) = (g', fs', env') := by exact rfl) : VS Tryz.prog n l0 (o :: l) env m L Q := pureVS tzOk k hr hk hd hn hw h
theorem ct (k : Nat) {p : Prop} {n d : Nat} {o : Oper} {l0 l : List Oper} {env : Env} {m : Mp} {L : List Ent} {Q Q0 : Post} {fs : List Fm} {g' : Go1} {fs' : List Fm} {env' : Env} [r : Reif Tryz.prog n Q fs Q0] (hc : cmpO env o.op = some p) (hp : p) (hk : Holds Tryz.prog n g' fs' env' m L Q0) (hd : o.dst = some d := by exact rfl) (hn : Nat.blt d n = true := by exact rfl) (hw : wanted l0 env o = some true := by exact rfl) (h : runG tz n k (.ops l0 l) fs ((d, .bool true) :: env) = (g', fs', env') := by exact rfl) : VS Tryz.prog n l0 (o :: l) env m L Q := pureVS tzOk k ((xL hc).1 hp) hk hd hn hw h
theorem cf (k : Nat) {p : Prop} {n d : Nat} {o : Oper} {l0 l : List Oper} {env : Env} {m : Mp} {L : List Ent} {Q Q0 : Post} {fs : List Fm} {g' : Go1} {fs' : List Fm} {env' : Env} [r : Reif Tryz.prog n Q fs Q0] (hc : cmpO env o.op = some p) (hp : ¬ p) (hk : Holds Tryz.prog n g' fs' env' m L Q0) (hd : o.dst = some d := by exact rfl) (hn : Nat.blt d n = true := by exact rfl) (hw : wanted l0 env o = some true := by exact rfl) (h : runG tz n k (.ops l0 l) fs ((d, .bool false) :: env) = (g', fs', env') := by exact rfl) : VS Tryz.prog n l0 (o :: l) env m L Q := pureVS tzOk k ((xL hc).2 hp) hk hd hn hw h
section
variable {n d b i q : Nat} {v : Value} {l0 l : List Oper} {env : Env} {m : Mp} {L r L' : List Ent} {Q Q0 : Post} {fs : List Fm} {g' : Go1} {fs' : List Fm} {env' : Env} {ty t yt e : TypeId} {pos : String} {aft : Array Edge} {gd : Option (Nat × Bool)} {x y : Operand} {a : Addr} {vl vl' vs : List Value}
theorem Lo (k : Nat) [Reif Tryz.prog n Q fs Q0] (ht : single Tryz.prog t = true) (hx : ev env x = some (.pointer (some a))) (hc : mc m a = some v) (hk : Holds Tryz.prog n g' fs' env' m L Q0) (hn : Nat.blt d n = true := by exact rfl) (hw : wanted l0 env ⟨some d, .load t x, ty, pos, aft, gd⟩ = some true := by exact rfl) (h : runG tz n k (.ops l0 l) fs ((d, v) :: env) = (g', fs', env') := by exact rfl) : VS Tryz.prog n l0 (⟨some d, .load t x, ty, pos, aft, gd⟩ :: l) env m L Q := lr k (zR ht hx hc) hk rfl hn hw h
theorem Lb (k : Nat) [Reif Tryz.prog n Q fs Q0] (ht : single Tryz.prog t = true) (hT : Tk L (cel b vl e) r) (hk : Holds Tryz.prog n g' fs' env' m L Q0) (hx : ev env x = some (.pointer (some ⟨b, i, none⟩)) := by exact rfl) (hv : vnth vl i = some v := by exact rfl) (hn : Nat.blt d n = true := by exact rfl) (hw : wanted l0 env ⟨some d, .load t x, ty, pos, aft, gd⟩ = some true := by exact rfl) (h : runG tz n k (.ops l0 l) fs ((d, v) :: env) = (g', fs', env') := by exact rfl) : VS Tryz.prog n l0 (⟨some d, .load t x, ty, pos, aft, gd⟩ :: l) env m L Q := lr k (uv ht hx hT hv) hk rfl hn hw h
theorem Lc (k : Nat) [Reif Tryz.prog n Q fs Q0] (ht : aggSize Tryz.prog t = some q) (hT : Tk L (cel b vl e) r) (hk : Holds Tryz.prog n g' fs' env' m L Q0) (hx : ev env x = some (.pointer (some ⟨b, 0, none⟩)) := by exact rfl) (hl : vl.length = q := by exact rfl) (hn : Nat.blt d n = true := by exact rfl) (hw : wanted l0 env ⟨some d, .load t x, ty, pos, aft, gd⟩ = some true := by exact rfl) (h : runG tz n k (.ops l0 l) fs ((d, .agg vl.toArray) :: env) = (g', fs', env') := by exact rfl) : VS Tryz.prog n l0 (⟨some d, .load t x, ty, pos, aft, gd⟩ :: l) env m L Q := lr k (yI ht hx hT hl) hk rfl hn hw h
theorem La (k : Nat) [Reif Tryz.prog n Q fs Q0] (ht : aggSize Tryz.prog t = some q) (hc : At m a vl) (hk : Holds Tryz.prog n g' fs' env' m L Q0) (hx : ev env x = some (.pointer (some a)) := by exact rfl) (hl : vl.length = q := by exact rfl) (hn : Nat.blt d n = true := by exact rfl) (hw : wanted l0 env ⟨some d, .load t x, ty, pos, aft, gd⟩ = some true := by exact rfl) (h : runG tz n k (.ops l0 l) fs ((d, .agg vl.toArray) :: env) = (g', fs', env') := by exact rfl) : VS Tryz.prog n l0 (⟨some d, .load t x, ty, pos, aft, gd⟩ :: l) env m L Q := lr k (zg ht hx hl hc) hk rfl hn hw h
theorem Pa (k : Nat) {a1 b1 : Int} [Reif Tryz.prog n Q fs Q0] (hk : Holds Tryz.prog n g' fs' env' m L Q0) (hx : ev env x = some (.int .i64 a1) := by exact rfl) (hy : ev env y = some (.int .i64 b1) := by exact rfl) (h1 : -9223372036854775808 ≤ a1 + b1 := by omega) (h2 : a1 + b1 ≤ 9223372036854775807 := by omega) (hn : Nat.blt d n = true := by exact rfl) (hw : wanted l0 env ⟨some d, .binOp .add t x y yt, ty, pos, aft, gd⟩ = some true := by exact rfl) (h : runG tz n k (.ops l0 l) fs ((d, .int .i64 (a1 + b1)) :: env) = (g', fs', env') := by exact rfl) : VS Tryz.prog n l0 (⟨some d, .binOp .add t x y yt, ty, pos, aft, gd⟩ :: l) env m L Q := pe k (zy hx hy (w64 h1 h2)) hk rfl hn hw h
theorem Sg (k : Nat) [Reif Tryz.prog n Q fs Q0] (ht : aggSize Tryz.prog t = some q) (hT : Sel L (cel b vl e) (cel b vs e) L') (hk : Holds Tryz.prog n g' fs' env' m L' Q0) (hx : ev env x = some (.pointer (some ⟨b, 0, none⟩)) := by exact rfl) (hy : ev env y = some (.agg vs.toArray) := by exact rfl) (hq : Nat.beq vs.length q = true := by exact rfl) (hl : Nat.beq vl.length q = true := by exact rfl) (h1 : vs.all oneV = true := by exact rfl) (hw : wanted l0 env ⟨none, .store t x y, ty, pos, aft, gd⟩ = some true := by exact rfl) (h : runG tz n k (.ops l0 l) fs env = (g', fs', env') := by exact rfl) : VS Tryz.prog n l0 (⟨none, .store t x y, ty, pos, aft, gd⟩ :: l) env m L Q := zE (zQ ht hx hy hq hT hl h1 (runVS tzOk k h hk)) hw
theorem Sr (k : Nat) [Reif Tryz.prog n Q fs Q0] (ht : cells1 Tryz.prog t = true) (hT : Sel L (cel b vl e) (cel b vl' e) L') (hu : USet vl i v vl') (hk : Holds Tryz.prog n g' fs' env' m L' Q0) (hx : ev env x = some (.pointer (some ⟨b, i, none⟩)) := by exact rfl) (hy : ev env y = some v := by exact rfl) (hv : oneV v = true := by exact rfl) (hw : wanted l0 env ⟨none, .store t x y, ty, pos, aft, gd⟩ = some true := by exact rfl) (h : runG tz n k (.ops l0 l) fs env = (g', fs', env') := by exact rfl) : VS Tryz.prog n l0 (⟨none, .store t x y, ty, pos, aft, gd⟩ :: l) env m L Q := zE (yd ht hx hy hv hT hu (runVS tzOk k h hk)) hw
theorem Al (k : Nat) {z : List Value} {g' : Nat → Go1} {fs' : Nat → List Fm} {env' : Nat → Env} [Reif Tryz.prog n Q fs Q0] (hz : zeroL Tryz.prog t = some z) (hk : ∀ b, Holds Tryz.prog n (g' b) (fs' b) (env' b) m (cel b z t :: L) Q0) (hn : Nat.blt d n = true := by exact rfl) (hw : wanted l0 env ⟨some d, .alloc t, ty, pos, aft, gd⟩ = some true := by exact rfl) (h : ∀ b, runG tz n k (.ops l0 l) fs ((d, .pointer (some ⟨b, 0, none⟩)) :: env) = (g' b, fs' b, env' b) := by exact fun _ => rfl) : VS Tryz.prog n l0 (⟨some d, .alloc t, ty, pos, aft, gd⟩ :: l) env m L Q := zE (z8 hz hn fun b => runVS tzOk k (h b) (hk b)) hw
theorem Bx (k : Nat) {g' : Nat → Go1} {fs' : Nat → List Fm} {env' : Nat → Env} [Reif Tryz.prog n Q fs Q0] (hx : ev env x = some v) (hk : ∀ b, Holds Tryz.prog n (g' b) (fs' b) (env' b) m (cel b v.cells.toList t :: L) Q0) (hn : Nat.blt d n = true := by exact rfl) (hw : wanted l0 env ⟨some d, .box t x, ty, pos, aft, gd⟩ = some true := by exact rfl) (h : ∀ b, runG tz n k (.ops l0 l) fs ((d, .pointer (some ⟨b, 0, none⟩)) :: env) = (g' b, fs' b, env' b) := by exact fun _ => rfl) : VS Tryz.prog n l0 (⟨some d, .box t x, ty, pos, aft, gd⟩ :: l) env m L Q := zE (S_box hx hn fun b => runVS tzOk k (h b) (hk b)) hw
theorem Bs (k : Nat) {len sz by_ : Nat} {z cs : List Value} {parts : List (Nat × Operand)} {ps : List (Nat × Value)} {g' : Nat → Go1} {fs' : Nat → List Fm} {env' : Nat → Env} [Reif Tryz.prog n Q fs Q0] (hs : slInfo Tryz.prog t = some (e, sz, by_, z)) (hk : ∀ b, Holds Tryz.prog n (g' b) (fs' b) (env' b) m (cel b cs e :: L) Q0) (hx : evp env parts = some ps := by exact rfl) (hsmall : Nat.ble (len * sz) 16777216 = true := by exact rfl) (hf : fillS sz (rowZ (if len * sz = 0 then [] else z) (len * sz)) ps = some cs := by exact rfl) (hn : Nat.blt d n = true := by exact rfl) (hw : wanted l0 env ⟨some d, .buildSlice t len parts.toArray, ty, pos, aft, gd⟩ = some true := by exact rfl) (h : ∀ b, runG tz n k (.ops l0 l) fs ((d, .slice (some ⟨b, 0, none⟩) len len) :: env) = (g' b, fs' b, env' b) := by exact fun _ => rfl) : VS Tryz.prog n l0 (⟨some d, .buildSlice t len parts.toArray, ty, pos, aft, gd⟩ :: l) env m L Q := zE (yq hs hx hsmall hf hn fun b => runVS tzOk k (h b) (hk b)) hw
variable {f : FuncId} {args : List Operand} {ats : Array TypeId} {pre : List Ent} {post ppost : Value → List Ent → Prop} {ee : Ent} {R : Value → Prop}
theorem Cp (hcl : callable Tryz.prog f = true) (hx : evs env args = some vs) (hT : Tks L pre r) (hc : ∀ m', Le m m' → HE r m' → CSP Tryz.prog f vs m' pre post ppost) (hp : ∀ v L', ppost v L' → QS Q (.panic (pan v)) env m (L' ++ r)) (hk : ∀ v L', post v L' → VS Tryz.prog n l0 l ((d, v) :: env) m (L' ++ r) Q) (hn : Nat.blt d n = true := by exact rfl) (hw : wanted l0 env ⟨some d, .call ⟨.value (.func f), args.toArray, ats⟩, ty, pos, aft, gd⟩ = some true := by exact rfl) : VS Tryz.prog n l0 (⟨some d, .call ⟨.value (.func f), args.toArray, ats⟩, ty, pos, aft, gd⟩ :: l) env m L Q := zE (yZ hcl hx hT hc hn hp hk) hw
theorem C1 (hcl : callable Tryz.prog f = true) (hx : evs env args = some vs) (hT : Tk L ee r) (hc : ∀ m', Le m m' → HE r m' → CS Tryz.prog f vs m' [ee] post) (hk : ∀ v L', post v L' → VS Tryz.prog n l0 l ((d, v) :: env) m (L' ++ r) Q) (hn : Nat.blt d n = true := by exact rfl) (hw : wanted l0 env ⟨some d, .call ⟨.value (.func f), args.toArray, ats⟩, ty, pos, aft, gd⟩ = some true := by exact rfl) : VS Tryz.prog n l0 (⟨some d, .call ⟨.value (.func f), args.toArray, ats⟩, ty, pos, aft, gd⟩ :: l) env m L Q := zE (S_call1 hcl hx hT hc hn hk) hw
theorem Cr (hcl : callable Tryz.prog f = true) (hx : evs env args = some vs) (hc : ∀ m', Le m m' → HE L m' → CS Tryz.prog f vs m' [] fun v L' => R v ∧ L' = []) (hk : ∀ v, R v → VS Tryz.prog n l0 l ((d, v) :: env) m L Q) (hn : Nat.blt d n = true := by exact rfl) (hw : wanted l0 env ⟨some d, .call ⟨.value (.func f), args.toArray, ats⟩, ty, pos, aft, gd⟩ = some true := by exact rfl) : VS Tryz.prog n l0 (⟨some d, .call ⟨.value (.func f), args.toArray, ats⟩, ty, pos, aft, gd⟩ :: l) env m L Q := zE (xv hcl hx hc hn hk) hw
variable {o : Oper} {tB tB' : OB} {tT tT' : OT} {wild : Nat → Bool}
theorem vB (k : Nat) (hk : VBS Tryz.prog n l tB' env' m L Q) (h : runOB tz n l k tB env = (tB', env') := by exact rfl) : VBS Tryz.prog n l tB env m L Q := vG tzOk k h hk
theorem Vb (k : Nat) (ho : nth l i = some o) (hr : PureV Tryz.prog n o env v) (hk : VBS Tryz.prog n l tB' env' m L Q) (hd : o.dst = some d := by exact rfl) (hn : Nat.blt d n = true := by exact rfl) (hw : wanted l env o = some true := by exact rfl) (h : runOB tz n l k tB ((d, v) :: env) = (tB', env') := by exact rfl) : VBS Tryz.prog n l (.step i true tB) env m L Q := Zo ho hr hd hn hw (vG tzOk k h hk)
theorem Vr (k : Nat) (ho : nth l i = some o) (hr : ∀ h, HS m [] h → ReadV Tryz.prog n o env h v) (hk : VBS Tryz.prog n l tB' env' m L Q) (hd : o.dst = some d := by exact rfl) (hn : Nat.blt d n = true := by exact rfl) (hw : wanted l env o = some true := by exact rfl) (h : runOB tz n l k tB ((d, v) :: env) = (tB', env') := by exact rfl) : VBS Tryz.prog n l (.step i true tB) env m L Q := WW ho hr hd hn hw (vG tzOk k h hk)
theorem vt (k : Nat) (hk : VTS Tryz.prog n l wild tT' env' m L Q) (h : runOT tz n l k tT env = (tT', env') := by exact rfl) : VTS Tryz.prog n l wild tT env m L Q := vF tzOk k h hk
theorem Vt (k : Nat) (ho : nth l i = some o) (hr : PureV Tryz.prog n o env v) (hk : VTS Tryz.prog n l wild tT' env' m L Q) (hd : o.dst = some d := by exact rfl) (hn : Nat.blt d n = true := by exact rfl) (hw : wanted l env o = some true := by exact rfl) (h : runOT tz n l k tT ((d, v) :: env) = (tT', env') := by exact rfl) : VTS Tryz.prog n l wild (.step i .pure tT) env m L Q := Zn ho hr hd hn hw (vF tzOk k h hk)
theorem Vu (k : Nat) (ho : nth l i = some o) (hr : ∀ h, HS m L h → ReadV Tryz.prog n o env h v) (hk : VTS Tryz.prog n l wild tT' env' m L Q) (hd : o.dst = some d := by exact rfl) (hn : Nat.blt d n = true := by exact rfl) (hw : wanted l env o = some true := by exact rfl) (h : runOT tz n l k tT ((d, v) :: env) = (tT', env') := by exact rfl) : VTS Tryz.prog n l wild (.step i .read tT) env m L Q := WU ho hr hd hn hw (vF tzOk k h hk)
theorem Vn (k : Nat) [Reif Tryz.prog n Q fs Q0] (hk : Holds Tryz.prog n g' fs' env' m L Q0) (h : runG tz n k (.exit .normal) fs env = (g', fs', env') := by exact rfl) : VBS Tryz.prog n l .done env m L Q := VBS_nil (runQS tzOk k h hk)
theorem Vm (k : Nat) [Reif Tryz.prog n Q fs Q0] (hk : Holds Tryz.prog n g' fs' env' m L Q0) (h : runG tz n k (.exit .normal) fs env = (g', fs', env') := by exact rfl) : VTS Tryz.prog n l wild .done env m L Q := VTS_nil (runQS tzOk k h hk)
theorem qt (k : Nat) {c : Code} {ex : Exit} [Reif Tryz.prog n Q fs Q0] (hk : Holds Tryz.prog n g' fs' env' m L Q0) (h : runG tz n k (.exit ex) (.thn c :: fs) env = (g', fs', env') := by exact rfl) : QS (thenQ Tryz.prog n c Q) ex env m L := runQS (Q := thenQ Tryz.prog n c Q) tzOk k h hk
theorem Db {id : Nat} (t : OB) (hv : VBS Tryz.prog n l t env m L Q) (hQ : ∀ c env env' h, Q (.panic c) env h → Q (.panic c) env' h := by exact fun _ _ _ _ hq => hq) (hck : checkB l t = true := by kernel_rfl) : TS Tryz.prog n (.region id l.toArray true) env m L Q := Wb t mixed hck hQ hv
theorem cto (k : Nat) {p : Prop} {n d : Nat} {o : Oper} {l0 l : List Oper} {env : Env} {m : Mp} {L : List Ent} {Q Q0 : Post} {fs : List Fm} {g' : Go1} {fs' : List Fm} {env' : Env} [r : Reif Tryz.prog n Q fs Q0] (hk : Holds Tryz.prog n g' fs' env' m L Q0) (hc : cmpO env o.op = some p := by exact rfl) (hp : p := by omega) (hd : o.dst = some d := by exact rfl) (hn : Nat.blt d n = true := by exact rfl) (hw : wanted l0 env o = some true := by exact rfl) (h : runG tz n k (.ops l0 l) fs ((d, .bool true) :: env) = (g', fs', env') := by exact rfl) : VS Tryz.prog n l0 (o :: l) env m L Q := pureVS tzOk k ((xL hc).1 hp) hk hd hn hw h
theorem cta (k : Nat) {p : Prop} {n d : Nat} {o : Oper} {l0 l : List Oper} {env : Env} {m : Mp} {L : List Ent} {Q Q0 : Post} {fs : List Fm} {g' : Go1} {fs' : List Fm} {env' : Env} [r : Reif Tryz.prog n Q fs Q0] (hk : Holds Tryz.prog n g' fs' env' m L Q0) (hc : cmpO env o.op = some p := by exact rfl) (hp : p := by assumption) (hd : o.dst = some d := by exact rfl) (hn : Nat.blt d n = true := by exact rfl) (hw : wanted l0 env o = some true := by exact rfl) (h : runG tz n k (.ops l0 l) fs ((d, .bool true) :: env) = (g', fs', env') := by exact rfl) : VS Tryz.prog n l0 (o :: l) env m L Q := pureVS tzOk k ((xL hc).1 hp) hk hd hn hw h
theorem ctr (k : Nat) {p : Prop} {n d : Nat} {o : Oper} {l0 l : List Oper} {env : Env} {m : Mp} {L : List Ent} {Q Q0 : Post} {fs : List Fm} {g' : Go1} {fs' : List Fm} {env' : Env} [r : Reif Tryz.prog n Q fs Q0] (hk : Holds Tryz.prog n g' fs' env' m L Q0) (hc : cmpO env o.op = some p := by exact rfl) (hp : p := by exact rfl) (hd : o.dst = some d := by exact rfl) (hn : Nat.blt d n = true := by exact rfl) (hw : wanted l0 env o = some true := by exact rfl) (h : runG tz n k (.ops l0 l) fs ((d, .bool true) :: env) = (g', fs', env') := by exact rfl) : VS Tryz.prog n l0 (o :: l) env m L Q := pureVS tzOk k ((xL hc).1 hp) hk hd hn hw h
theorem cfo (k : Nat) {p : Prop} {n d : Nat} {o : Oper} {l0 l : List Oper} {env : Env} {m : Mp} {L : List Ent} {Q Q0 : Post} {fs : List Fm} {g' : Go1} {fs' : List Fm} {env' : Env} [r : Reif Tryz.prog n Q fs Q0] (hk : Holds Tryz.prog n g' fs' env' m L Q0) (hc : cmpO env o.op = some p := by exact rfl) (hp : ¬ p := by omega) (hd : o.dst = some d := by exact rfl) (hn : Nat.blt d n = true := by exact rfl) (hw : wanted l0 env o = some true := by exact rfl) (h : runG tz n k (.ops l0 l) fs ((d, .bool false) :: env) = (g', fs', env') := by exact rfl) : VS Tryz.prog n l0 (o :: l) env m L Q := pureVS tzOk k ((xL hc).2 hp) hk hd hn hw h
theorem cfa (k : Nat) {p : Prop} {n d : Nat} {o : Oper} {l0 l : List Oper} {env : Env} {m : Mp} {L : List Ent} {Q Q0 : Post} {fs : List Fm} {g' : Go1} {fs' : List Fm} {env' : Env} [r : Reif Tryz.prog n Q fs Q0] (hk : Holds Tryz.prog n g' fs' env' m L Q0) (hc : cmpO env o.op = some p := by exact rfl) (hp : ¬ p := by assumption) (hd : o.dst = some d := by exact rfl) (hn : Nat.blt d n = true := by exact rfl) (hw : wanted l0 env o = some true := by exact rfl) (h : runG tz n k (.ops l0 l) fs ((d, .bool false) :: env) = (g', fs', env') := by exact rfl) : VS Tryz.prog n l0 (o :: l) env m L Q := pureVS tzOk k ((xL hc).2 hp) hk hd hn hw h
theorem Vl (k : Nat) (ho : nth l i = some ⟨some d, .load t x, ty, pos, aft, gd⟩) (ht : single Tryz.prog t = true) (hT : Tk L (cel b vl e) r) (hk : VTS Tryz.prog n l wild tT' env' m L Q) (hx : ev env x = some (.pointer (some ⟨b, q, none⟩)) := by exact rfl) (hv : vnth vl q = some v := by exact rfl) (hn : Nat.blt d n = true := by exact rfl) (hw : wanted l env ⟨some d, .load t x, ty, pos, aft, gd⟩ = some true := by exact rfl) (h : runOT tz n l k tT ((d, v) :: env) = (tT', env') := by exact rfl) : VTS Tryz.prog n l wild (.step i .read tT) env m L Q := Vu k ho (uv ht hx hT hv) hk rfl hn hw h
end
end
section
abbrev n4 (op n who : Int) (K : Option Addr) (k kc : Nat) : List Value := [.int .i8 op, .int .i64 n, .int .i8 who, .slice K k kc]
abbrev c5 (op who : Int) (name : List UInt8) (A : Option Addr) (la ca : Nat) (B : Option Addr) (lb cb : Nat) : List Value := [.int .i8 op, .int .i8 who, .string (bs name), .slice A la ca, .slice B lb cb]
abbrev e14 (op who nop nn nwho : Int) (nA : Option Addr) (nl nc : Nat) (name : List UInt8) (cop cwho : Int) (cname : List UInt8) (cA : Option Addr) (cla cca : Nat) (cB : Option Addr) (clb ccb : Nat) (TA : Option Addr) (la ca : Nat) (EB : Option Addr) (lb cb : Nat) : List Value :=
 [.int .i8 op, .int .i8 who, .int .i8 nop, .int .i64 nn, .int .i8 nwho, .slice nA nl nc, .string (bs name), .int .i8 cop, .int .i8 cwho, .string (bs cname), .slice cA cla cca, .slice cB clb ccb, .slice TA la ca, .slice EB lb cb]
def SameV (q : Prop) : Value → List Ent → Prop := fun v L' => ((v = .bool true ∧ q) ∨ (v = .bool false ∧ ¬ q)) ∧ L' = []
end
namespace Wd
open Go Go.Eng
def cont (s : List UInt8) (i : Nat) : Bool := decide (i < s.length) && by_ s i / 64 == 2
def rn (s : List UInt8) (p : Nat) : Option (Nat × Nat) :=
 if by_ s p < 128 then some (by_ s p, 1)
 else if by_ s p / 32 == 6 && cont s (p + 1) then
  if by_ s p % 32 * 64 + by_ s (p + 1) % 64 ≥ 128 then some (by_ s p % 32 * 64 + by_ s (p + 1) % 64, 2) else none
 else if by_ s p / 16 == 14 && cont s (p + 1) && cont s (p + 2) then
  if by_ s p % 16 * 4096 + by_ s (p + 1) % 64 * 64 + by_ s (p + 2) % 64 ≥ 2048 && Utf8.valid (by_ s p % 16 * 4096 + by_ s (p + 1) % 64 * 64 + by_ s (p + 2) % 64 : Nat) then
   some (by_ s p % 16 * 4096 + by_ s (p + 1) % 64 * 64 + by_ s (p + 2) % 64, 3) else none
 else if by_ s p / 8 == 30 && cont s (p + 1) && cont s (p + 2) && cont s (p + 3) then
  if by_ s p % 8 * 262144 + by_ s (p + 1) % 64 * 4096 + by_ s (p + 2) % 64 * 64 + by_ s (p + 3) % 64 ≥ 65536 && Utf8.valid (by_ s p % 8 * 262144 + by_ s (p + 1) % 64 * 4096 + by_ s (p + 2) % 64 * 64 + by_ s (p + 3) % 64 : Nat) then
   some (by_ s p % 8 * 262144 + by_ s (p + 1) % 64 * 4096 + by_ s (p + 2) % 64 * 64 + by_ s (p + 3) % 64, 4) else none
 else none
def dec (s : List UInt8) (p : Nat) : Nat × Nat := (rn s p).getD (65533, 1)
theorem get_bs (s : List UInt8) (i : Nat) : ((bs s).get! i).toNat = by_ s i := by
 unfold by_
 have : (bs s).get! i = s.getD i 0 := by
  show (bs s).data[i]! = _;simp only [bs];rw [List.getD_eq_getElem?_getD, getElem!_def]
  simp
  cases s[i]? <;> rfl
 rw [this]
theorem XC (c0 c1 c2 c3 d1 d2 d3 : Prop) [Decidable c0] [Decidable c1] [Decidable c2] [Decidable c3] [Decidable d1] [Decidable d2] [Decidable d3] (v0 v1 v2 v3 e : Nat × Nat) :
  (if c0 then v0 else if c1 then (if d1 then v1 else e) else if c2 then (if d2 then v2 else e) else if c3 then (if d3 then v3 else e) else e) =
  (if c0 then some v0 else if c1 then (if d1 then some v1 else none) else if c2 then (if d2 then some v2 else none) else if c3 then (if d3 then some v3 else none) else none).getD e := by
 by_cases h0 : c0 <;> by_cases h1 : c1 <;> by_cases h2 : c2 <;> by_cases h3 : c3 <;> by_cases k1 : d1 <;> by_cases k2 : d2 <;> by_cases k3 : d3 <;> simp [*]
theorem we (s : List UInt8) (p : Nat) : Utf8.decode (bs s) p = dec s p := by
 have h0 : (bs s).size = s.length := xk s;have h1 : ∀ k, ((bs s).get! (p + k)).toNat = by_ s (p + k) := fun k => get_bs s _;unfold Utf8.decode dec rn cont;rw [h0, show (fun k => ((bs s).get! (p + k)).toNat) = fun k => by_ s (p + k) from funext h1];exact XC _ _ _ _ _ _ _ _ _ _ _ _
theorem Xn {c0 c1 c2 c3 d1 d2 d3 : Prop} [Decidable c0] [Decidable c1] [Decidable c2] [Decidable c3] [Decidable d1] [Decidable d2] [Decidable d3] {v0 v1 v2 v3 r : Nat × Nat}
  (h : (if c0 then some v0 else if c1 then (if d1 then some v1 else none) else if c2 then (if d2 then some v2 else none) else if c3 then (if d3 then some v3 else none) else none) = some r) :
  (c0 ∧ v0 = r) ∨ (¬ c0 ∧ c1 ∧ d1 ∧ v1 = r) ∨ (¬ c0 ∧ ¬ c1 ∧ c2 ∧ d2 ∧ v2 = r) ∨ (¬ c0 ∧ ¬ c1 ∧ ¬ c2 ∧ c3 ∧ d3 ∧ v3 = r) := by
 by_cases h0 : c0 <;> by_cases h1 : c1 <;> by_cases h2 : c2 <;> by_cases h3 : c3 <;> by_cases k1 : d1 <;> by_cases k2 : d2 <;> by_cases k3 : d3 <;> simp_all
theorem yv {s : List UInt8} {i : Nat} : cont s i = true ↔ i < s.length ∧ by_ s i / 64 = 2 := by simp [cont]
theorem vV (c : Nat) : Utf8.valid (c : Int) = true ↔ c < 55296 ∨ (57344 ≤ c ∧ c ≤ 1114111) := by simp [Utf8.valid]; omega
inductive RnK (s : List UInt8) (p : Nat) : Nat → Nat → Prop
 | one (h : by_ s p < 128) : RnK s p (by_ s p) 1
 | two (x : Nat) (h : by_ s p / 32 = 6) (l1 : p + 1 < s.length) (k1 : by_ s (p + 1) / 64 = 2) (hx : x = by_ s p % 32 * 64 + by_ s (p + 1) % 64) (h1 : 128 ≤ x) : RnK s p x 2
 | three (x : Nat) (h : by_ s p / 16 = 14) (l1 : p + 2 < s.length) (k1 : by_ s (p + 1) / 64 = 2) (k2 : by_ s (p + 2) / 64 = 2) (hx : x = by_ s p % 16 * 4096 + by_ s (p + 1) % 64 * 64 + by_ s (p + 2) % 64) (h1 : 2048 ≤ x) (hv : x < 55296 ∨ (57344 ≤ x ∧ x ≤ 1114111)) : RnK s p x 3
 | four (x : Nat) (h : by_ s p / 8 = 30) (l1 : p + 3 < s.length) (k1 : by_ s (p + 1) / 64 = 2) (k2 : by_ s (p + 2) / 64 = 2) (k3 : by_ s (p + 3) / 64 = 2)
   (hx : x = by_ s p % 8 * 262144 + by_ s (p + 1) % 64 * 4096 + by_ s (p + 2) % 64 * 64 + by_ s (p + 3) % 64) (h1 : 65536 ≤ x) (hv : x < 55296 ∨ (57344 ≤ x ∧ x ≤ 1114111)) : RnK s p x 4
theorem qb {s : List UInt8} {p x k : Nat} (h : rn s p = some (x, k)) : RnK s p x k := by
 unfold rn at h;rcases Xn h with ⟨h0, e⟩ | ⟨h0, h1, h2, e⟩ | ⟨h0, h1, h2, h3, e⟩ | ⟨h0, h1, h2, h3, h4, e⟩
 ·injection e with e1 e2; subst e1 e2; exact .one h0
 ·obtain ⟨a, b⟩ := Bool.and_eq_true_iff.1 h1;obtain ⟨b1, b2⟩ := yv.1 b
  injection e with e1 e2; subst e2; exact .two x (beq_iff_eq.1 a) b1 b2 e1.symm (e1 ▸ h2)
 ·obtain ⟨a, c⟩ := Bool.and_eq_true_iff.1 h2;obtain ⟨a, b⟩ := Bool.and_eq_true_iff.1 a;obtain ⟨b1, b2⟩ := yv.1 b;obtain ⟨c1, c2⟩ := yv.1 c;obtain ⟨d1, d2⟩ := Bool.and_eq_true_iff.1 h3
  injection e with e1 e2; subst e2; exact .three x (beq_iff_eq.1 a) c1 b2 c2 e1.symm (e1 ▸ of_decide_eq_true d1) (e1 ▸ (vV _).1 d2)
 ·obtain ⟨a, d⟩ := Bool.and_eq_true_iff.1 h3;obtain ⟨a, c⟩ := Bool.and_eq_true_iff.1 a;obtain ⟨a, b⟩ := Bool.and_eq_true_iff.1 a;obtain ⟨b1, b2⟩ := yv.1 b;obtain ⟨c1, c2⟩ := yv.1 c;obtain ⟨d1, d2⟩ := yv.1 d;obtain ⟨f1, f2⟩ := Bool.and_eq_true_iff.1 h4
  injection e with e1 e2; subst e2; exact .four x (beq_iff_eq.1 a) d1 b2 c2 d2 e1.symm (e1 ▸ of_decide_eq_true f1) (e1 ▸ (vV _).1 f2)
theorem yf {s : List UInt8} {p x k : Nat} (h : rn s p = some (x, k)) : 1 ≤ k ∧ k ≤ 4 ∧ x ≤ 1114111 ∧ (k = 1 → x = by_ s p ∧ x < 128) ∧ (2 ≤ k → 128 ≤ x ∧ 192 ≤ by_ s p ∧ p + k ≤ s.length) := by
 have b0 := WN s p;cases qb h <;> omega
theorem ve (s : List UInt8) (p : Nat) : 1 ≤ (dec s p).2 ∧ (dec s p).2 ≤ 4 ∧ (dec s p).1 ≤ 1114111 := by
 unfold dec;cases h : rn s p with
 | none => simp
 | some r =>
   obtain ⟨x, k⟩ := r;have := yf h
   simp
   omega
end Wd
namespace Wd
open Go Go.Eng
theorem wu {s : List UInt8} {p x k : Nat} (h : RnK s p x k) : rn s p = some (x, k) := by
 have hl := WN s p;unfold rn;cases h with
 | one h => rw [if_pos h]
 | two x h l1 k1 hx h1 =>
   rw [if_neg (by omega), if_pos (by rw [Bool.and_eq_true_iff]; exact ⟨beq_iff_eq.2 h, yv.2 ⟨l1, k1⟩⟩), if_pos (by omega), hx]
 | three x h l1 k1 k2 hx h1 hv =>
   rw [if_neg (by omega), if_neg (by rw [Bool.and_eq_true_iff]; rintro ⟨a, _⟩; have := beq_iff_eq.1 a; omega), if_pos (by rw [Bool.and_eq_true_iff, Bool.and_eq_true_iff]; exact ⟨⟨beq_iff_eq.2 h, yv.2 ⟨by omega, k1⟩⟩, yv.2 ⟨l1, k2⟩⟩), if_pos (by rw [Bool.and_eq_true_iff]; exact ⟨decide_eq_true (by omega), (vV _).2 (by omega)⟩), hx]
 | four x h l1 k1 k2 k3 hx h1 hv =>
   rw [if_neg (by omega), if_neg (by rw [Bool.and_eq_true_iff]; rintro ⟨a, _⟩; have := beq_iff_eq.1 a; omega), if_neg (by rw [Bool.and_eq_true_iff, Bool.and_eq_true_iff]; rintro ⟨⟨a, _⟩, _⟩; have := beq_iff_eq.1 a; omega),
    if_pos (by rw [Bool.and_eq_true_iff, Bool.and_eq_true_iff, Bool.and_eq_true_iff]; exact ⟨⟨⟨beq_iff_eq.2 h, yv.2 ⟨by omega, k1⟩⟩, yv.2 ⟨by omega, k2⟩⟩, yv.2 ⟨l1, k3⟩⟩), if_pos (by rw [Bool.and_eq_true_iff]; exact ⟨decide_eq_true (by omega), (vV _).2 (by omega)⟩), hx]
theorem rn_none {s : List UInt8} {p : Nat} (h : ∀ x k, ¬ RnK s p x k) : rn s p = none := by
 cases hr : rn s p with
 | none => rfl
 | some r => exact absurd (qb (x := r.1) (k := r.2) hr) (h _ _)
theorem yE (s : List UInt8) (a i : Nat) : by_ (s.drop a) i = by_ s (a + i) := by
 unfold by_
 simp [List.getD_eq_getElem?_getD, List.getElem?_drop]
theorem jn {s : List UInt8} {a p x k : Nat} : RnK (s.drop a) p x k ↔ RnK s (a + p) x k := by
 constructor
 ·intro h;cases h with
  | one h => rw [yE] at h ⊢; exact .one h
  | two x h l1 k1 hx h1 => simp only [yE, List.length_drop] at *; exact .two x h (by omega) k1 hx h1
  | three x h l1 k1 k2 hx h1 hv => simp only [yE, List.length_drop] at *; exact .three x h (by omega) k1 k2 hx h1 hv
  | four x h l1 k1 k2 k3 hx h1 hv => simp only [yE, List.length_drop] at *; exact .four x h (by omega) k1 k2 k3 hx h1 hv
 ·intro h;cases h with
  | one h => rw [← yE] at h ⊢; exact .one h
  | two x h l1 k1 hx h1 => exact .two x (by rw [yE]; exact h) (by rw [List.length_drop]; omega) (by rw [yE]; exact k1) (by rw [yE, yE]; exact hx) h1
  | three x h l1 k1 k2 hx h1 hv => exact .three x (by rw [yE]; exact h) (by rw [List.length_drop]; omega) (by rw [yE]; exact k1) (by rw [yE]; exact k2) (by rw [yE, yE, yE]; exact hx) h1 hv
  | four x h l1 k1 k2 k3 hx h1 hv => exact .four x (by rw [yE]; exact h) (by rw [List.length_drop]; omega) (by rw [yE]; exact k1) (by rw [yE]; exact k2) (by rw [yE]; exact k3) (by rw [yE, yE, yE, yE]; exact hx) h1 hv
theorem kC (s : List UInt8) (a p : Nat) : rn (s.drop a) p = rn s (a + p) := by
 cases h : rn s (a + p) with
 | some r => exact wu (jn.2 (qb (x := r.1) (k := r.2) h))
 | none => exact rn_none fun x k hk => by rw [wu (jn.1 hk)] at h; cases h
theorem yT {s : List UInt8} {e i : Nat} (h : i < e) : by_ (s.take e) i = by_ s i := by
 unfold by_
 simp [List.getD_eq_getElem?_getD, h]
theorem rn_take {s : List UInt8} {e p x k : Nat} (h : rn s p = some (x, k)) (he : p + k ≤ e) : rn (s.take e) p = some (x, k) := by
 refine wu ?_;cases qb h with
 | one hb => rw [← yT (e := e) (by omega)] at hb ⊢; exact .one hb
 | two x hb l1 k1 hx h1 => exact .two x (by rw [yT (by omega)]; exact hb) (by rw [List.length_take]; omega) (by rw [yT (by omega)]; exact k1) (by rw [yT (by omega), yT (by omega)]; exact hx) h1
 | three x hb l1 k1 k2 hx h1 hv => exact .three x (by rw [yT (by omega)]; exact hb) (by rw [List.length_take]; omega) (by rw [yT (by omega)]; exact k1) (by rw [yT (by omega)]; exact k2) (by rw [yT (by omega), yT (by omega), yT (by omega)]; exact hx) h1 hv
 | four x hb l1 k1 k2 k3 hx h1 hv => exact .four x (by rw [yT (by omega)]; exact hb) (by rw [List.length_take]; omega) (by rw [yT (by omega)]; exact k1) (by rw [yT (by omega)]; exact k2) (by rw [yT (by omega)]; exact k3) (by rw [yT (by omega), yT (by omega), yT (by omega), yT (by omega)]; exact hx) h1 hv
def letterP (x : Nat) : Bool := decide (97 ≤ x ∧ x ≤ 122 ∨ 65 ≤ x ∧ x ≤ 90 ∨ 192 ≤ x ∧ x ≤ 591 ∧ x ≠ 215 ∧ x ≠ 247)
def digitP (x : Nat) : Bool := decide (48 ≤ x ∧ x ≤ 57)
def stopP (x : Nat) (first : Bool) : Bool := !letterP x && (first || (!digitP x && decide (x ≠ 39)))
def nameGo (s : List UInt8) (p n : Nat) : Nat × Nat :=
 if p < s.length then
  match h : rn s p with
  | none => (p, n)
  | some (x, k) => if stopP x (n == 0) then (p, n) else nameGo s (p + k) (n + 1)
 else (p, n)
termination_by s.length - p
decreasing_by have := yf h; omega
def lengthGo (t : List UInt8) (i n : Nat) : Nat × Nat :=
 if i < t.length then
  if stopP (dec t i).1 (i == 0) then (i, n) else lengthGo t (i + (dec t i).2) (n + 1)
 else (t.length, n)
termination_by t.length - i
decreasing_by have := ve t i; omega
def digGo (s : List UInt8) (q n : Nat) : Nat × Nat :=
 if q < s.length ∧ digitP (by_ s q) then digGo s (q + 1) (min (n * 10 + (by_ s q - 48)) 1000) else (q, n)
termination_by s.length - q
def marks : List (List UInt8) := [[60, 61], [61, 61], [123], [125], [40], [41], [47], [44], [59], [43], [45], [42], [60]]
def markP (t : List UInt8) : Option (List UInt8) := marks.find? (·.isPrefixOf t)
def remGo (s : List UInt8) (p : Nat) : Nat ⊕ Nat :=
 if p < s.length ∧ by_ s p ≠ 10 then
  match h : rn s p with
  | none => .inl p
  | some (_, k) => remGo s (p + k)
 else .inr p
termination_by s.length - p
decreasing_by have := yf h; omega
structure Wrd where
 kind : Int
 text : List UInt8
 n : Int
 at_ : Int
deriving DecidableEq
def seg (s : List UInt8) (a b : Nat) : List UInt8 := (s.drop a).take (b - a)
inductive St where
 | err (e : Int) (a : Nat)
 | next (q : Nat) (ws : List Wrd)
def isSp (x : Nat) : Bool := decide (x = 32 ∨ x = 10 ∨ x = 13 ∨ x = 9)
def stepN (s : List UInt8) (p : Nat) (r : Nat × Nat) : St := if 24 < r.2 ∨ 40 < r.1 - p then .err 3 p else .next r.1 [⟨1, seg s p r.1, 0, p⟩]
def stepD (s : List UInt8) (p : Nat) (r : Nat × Nat) : St := if by_ s p = 48 ∧ p + 1 < r.1 then .err 110 p else if 999 < r.2 then .err 3 p else .next r.1 [⟨2, [], r.2, p⟩]
def stepM (s : List UInt8) (p : Nat) : St := match markP (s.drop p) with
 | none => .err 110 p
 | some m => .next (p + m.length) [⟨3, m, 0, p⟩]
def stepR (s : List UInt8) (p : Nat) : St :=
 match rn s p with
 | none => .err 110 p
 | some (x, _) =>
   if isSp x then .next (p + 1) []
   else if x = 35 then (match remGo s p with | .inl a => .err 110 a | .inr q => .next q [])
   else if letterP x then stepN s p (nameGo s p 0)
   else if digitP x then stepD s p (digGo s p 0)
   else stepM s p
abbrev Res := Except (Int × Nat) (List Wrd)
def goR (s : List UInt8) (p : Nat) (acc : List Wrd) : Res :=
 if p < s.length then
  match stepR s p with
  | .err e a => .error (e, a)
  | .next q ws => if p < q then goR s q (acc ++ ws) else .ok []
 else .ok (acc ++ [⟨0, [], 0, s.length⟩])
termination_by s.length - p
def stepI (s : List UInt8) (p : Nat) (x : Nat) : St ⊕ Bool :=
 if isSp x then .inr false
 else if x = 35 then .inr true
 else if letterP x then .inl (let r := lengthGo (s.drop p) 0 0; stepN s p (p + r.1, r.2))
 else if digitP x then .inl (stepD s p (digGo s p 0))
 else .inl (stepM s p)
def goI (s : List UInt8) (p skip : Nat) (rem : Bool) (acc : List Wrd) : Res :=
 if p < s.length then
  if p < skip then goI s (p + (dec s p).2) skip rem acc
  else match rn s p with
   | none => .error (110, p)
   | some (x, _) =>
     if rem then goI s (p + (dec s p).2) skip (decide (x ≠ 10)) acc
     else match stepI s p x with
      | .inr b => goI s (p + (dec s p).2) skip b acc
      | .inl (.err e a) => .error (e, a)
      | .inl (.next q ws) => goI s (p + (dec s p).2) q false (acc ++ ws)
 else .ok (acc ++ [⟨0, [], 0, s.length⟩])
termination_by s.length - p
decreasing_by all_goals (have := ve s p; omega)
theorem wg {s : List UInt8} {p x k : Nat} (h : rn s p = some (x, k)) : dec s p = (x, k) := by simp [dec, h]
inductive Tiles (s : List UInt8) : Nat → Nat → Prop
 | refl (p : Nat) : Tiles s p p
 | step {p q x k : Nat} (h : rn s p = some (x, k)) (hp : p < s.length) (t : Tiles s (p + k) q) : Tiles s p q
theorem Tiles.le {s : List UInt8} {p q : Nat} (h : Tiles s p q) : p ≤ q := by
 induction h with
 | refl => exact Nat.le_refl _
 | step h _ _ ih => have := yf h; omega
theorem Tiles.trans {s : List UInt8} {p q r : Nat} (h : Tiles s p q) (k : Tiles s q r) : Tiles s p r := by
 induction h with
 | refl => exact k
 | step h hp _ ih => exact .step h hp (ih k)
theorem Tiles.len {s : List UInt8} {p q : Nat} (h : Tiles s p q) (hp : p ≤ s.length) : q ≤ s.length := by
 induction h with
 | refl => exact hp
 | step h hlt _ ih =>
   exact ih (by have := yf h; omega)
theorem wj {s : List UInt8} {p : Nat} (h : by_ s p < 128) : rn s p = some (by_ s p, 1) := wu (.one h)
theorem ym (s : List UInt8) (p n : Nat) : Tiles s p (nameGo s p n).1 := by
 fun_induction nameGo s p n with
 | case1 => exact .refl _
 | case2 => exact .refl _
 | case3 p n hp x k h hs ih => exact .step h hp ih
 | case4 => exact .refl _
theorem up {x : Nat} (h : digitP x = true) : x < 128 := by simp [digitP] at h; omega
theorem qU (s : List UInt8) (q n : Nat) : Tiles s q (digGo s q n).1 := by
 fun_induction digGo s q n with
 | case1 q n h ih => exact .step (wj (up h.2)) h.1 ih
 | case2 => exact .refl _
theorem qP {s : List UInt8} {p q : Nat} (h : remGo s p = .inr q) : Tiles s p q := by
 revert h
 fun_induction remGo s p with
 | case1 => intro h; cases h
 | case2 p hp x k h ih => intro h'; exact .step h hp.1 (ih h')
 | case3 => intro h; cases h; exact .refl _
end Wd
namespace Wd
open Go Go.Eng
theorem X8 {s : List UInt8} {p q : Nat} (h : Tiles s p q) (acc : List Wrd) : goI s p q false acc = goI s q q false acc := by
 induction h with
 | refl => rfl
 | @step p q x k h hp t ih =>
   have h1 := t.le;have h2 := yf h;rw [goI, if_pos hp, if_pos (by omega), wg h];exact ih
theorem y3 {s : List UInt8} {p q : Nat} {ws : List Wrd} (hp : p < s.length) (h : stepR s p = .next q ws) : p < q ∧ Tiles s p q := by
 unfold stepR at h
 split at h
 ·cases h
 ·rename_i x k hr
  have hpos := yf hr
  split at h
  ·rename_i hsp
   injection h with h1 h2
   subst h1;have hx : x < 128 := by simp [isSp] at hsp; omega
   have hk : k = 1 := by omega
   subst hk;exact ⟨by omega, .step hr hp (.refl _)⟩
  ·split at h
   ·rename_i hx
    split at h
    ·cases h
    ·rename_i q' hq
     injection h with h1 h2
     subst h1;have hk : k = 1 := by omega
     subst hk;refine ⟨?_, qP hq⟩;rw [remGo, if_pos ⟨hp, by omega⟩] at hq
     split at hq
     ·cases hq
     ·rename_i x' k' hr'
      have := (qP hq).le;have := yf hr';omega
   ·split at h
    ·rename_i hl
     unfold stepN at h
     split at h
     ·cases h
     ·injection h with h1 h2
      subst h1;refine ⟨?_, ym _ _ _⟩;rw [nameGo, if_pos hp]
      split
      ·rename_i hn; rw [hn] at hr; cases hr
      ·rename_i x' k' hr'
       rw [hr] at hr'
       injection hr' with e
       injection e with e1 e2
       subst e1 e2;rw [if_neg (by simp [stopP, hl])];have := (ym s (p + k) (0 + 1)).le;omega
    ·split at h
     ·rename_i hl hd
      unfold stepD at h
      split at h
      ·cases h
      ·split at h
       ·cases h
       ·injection h with h1 h2
        subst h1;refine ⟨?_, qU _ _ _⟩;have hlt := up hd;have hx : x = by_ s p := by omega
        rw [digGo, if_pos ⟨hp, by rw [← hx]; exact hd⟩];have := (qU s (p + 1) (min (0 * 10 + (by_ s p - 48)) 1000)).le;omega
     ·unfold stepM at h
      split at h
      ·cases h
      ·rename_i m hm
       injection h with h1 h2
       subst h1;unfold markP at hm;have hmem := List.mem_of_find?_eq_some hm;have hpre : m.isPrefixOf (s.drop p) = true := List.find?_some (p := fun (m : List UInt8) => m.isPrefixOf (s.drop p)) hm;have hpre := List.isPrefixOf_iff_prefix.1 hpre;obtain ⟨t, ht⟩ := hpre
       have hb : ∀ i, i < m.length → by_ s (p + i) = (m.getD i 0).toNat := fun i hi => by
        rw [← yE, ← ht];unfold by_
        simp [List.getD_eq_getElem?_getD, List.getElem?_append_left hi]
       have hlen : p + m.length ≤ s.length := by
        have := congrArg List.length ht
        simp at this
        omega
       simp only [marks, List.mem_cons, List.not_mem_nil, or_false] at hmem
       have one : ∀ j, p ≤ j → j < p + m.length → by_ s j < 128 := fun j h1 h2 => by
        have := hb (j - p) (by omega);rw [show p + (j - p) = j by omega] at this;rw [this];have hj : j - p < m.length := by omega
        rcases hmem with rfl | rfl | rfl | rfl | rfl | rfl | rfl | rfl | rfl | rfl | rfl | rfl | rfl
        all_goals
         simp only [List.length_cons, List.length_nil] at hj
         first
          | (have e : j - p = 0 := by omega
             rw [e]; decide)
          | (rcases (show j - p = 0 ∨ j - p = 1 by omega) with e | e <;> rw [e] <;> decide)
       have hm1 : 1 ≤ m.length := by
        rcases hmem with rfl | rfl | rfl | rfl | rfl | rfl | rfl | rfl | rfl | rfl | rfl | rfl | rfl <;> decide
       have key : ∀ d j, j + d = p + m.length → p ≤ j → Tiles s j (p + m.length) := by
        intro d
        induction d with
        | zero => intro j hj _; rw [show j = p + m.length by omega]; exact .refl _
        | succ d ih => intro j hj hpj; exact .step (wj (one j hpj (by omega))) (by omega) (ih (j + 1) (by omega) (by omega))
       exact ⟨by omega, key m.length p (by omega) (Nat.le_refl _)⟩
end Wd
namespace Wd
open Go Go.Eng
theorem xR {s : List UInt8} {p n x k : Nat} (hp : p < s.length) (h : rn s p = some (x, k)) : nameGo s p n = if stopP x (n == 0) then (p, n) else nameGo s (p + k) (n + 1) := by
 rw [nameGo, if_pos hp]
 split
 ·rename_i hn; rw [hn] at h; cases h
 ·rename_i x' k' hr'
  rw [h] at hr'; injection hr' with e; injection e with e1 e2; subst e1 e2; rfl
theorem wJ {s : List UInt8} {p n : Nat} (hp : p < s.length) (h : rn s p = none) : nameGo s p n = (p, n) := by
 rw [nameGo, if_pos hp]
 split
 ·rfl
 ·rename_i x' k' hr'
  rw [h] at hr'; cases hr'
theorem ZN (s : List UInt8) (a : Nat) : ∀ (d i n : Nat), (s.drop a).length - i = d → i ≤ (s.drop a).length → (i = 0 ↔ n = 0) →
  (a + (lengthGo (s.drop a) i n).1, (lengthGo (s.drop a) i n).2) = (if a ≤ s.length then nameGo s (a + i) n else (a, n)) := by
 intro d
 induction d using Nat.strongRecOn with
 | _ d ih =>
   intro i n hd hi hin;rw [List.length_drop] at hd hi;by_cases ha : a ≤ s.length
   ·rw [if_pos ha];rw [lengthGo];rw [List.length_drop];by_cases hlt : i < s.length - a
    ·rw [if_pos hlt];have hdr := kC s a i;have hdec : dec (s.drop a) i = dec s (a + i) := by unfold dec; rw [hdr]
     rw [hdec];cases h : rn s (a + i) with
     | none =>
       rw [wJ (by omega) h]
       have : stopP (dec s (a + i)).1 (i == 0) = true := by
        simp only [dec, h, Option.getD_none];cases hi0 : (i == 0) <;> rfl
       rw [if_pos this]
     | some r =>
       obtain ⟨x, k⟩ := r;rw [xR (by omega) h]
       have hb : (i == 0) = (n == 0) := by
        rw [Bool.eq_iff_iff]; simp [hin]
       have h2 := yf h;rw [wg h, hb]
       split
       ·rfl
       ·have h3 : i + k ≤ s.length - a := by omega
        have := ih (s.length - a - (i + k)) (by omega) (i + k) (n + 1) (by rw [List.length_drop]) (by rw [List.length_drop]; omega) (by omega);rw [if_pos ha, ← Nat.add_assoc] at this;exact this
    ·rw [if_neg hlt, nameGo, if_neg (show ¬ a + i < s.length by omega)];have : i = s.length - a := by omega
     subst this
     rfl
   ·rw [if_neg ha];have h0 : s.drop a = [] := List.drop_eq_nil_of_le (by omega);rw [h0, lengthGo]
    simp
theorem kH {s : List UInt8} {p : Nat} (hp : p ≤ s.length) : (p + (lengthGo (s.drop p) 0 0).1, (lengthGo (s.drop p) 0 0).2) = nameGo s p 0 := by
 have := ZN s p _ 0 0 rfl (Nat.zero_le _) Iff.rfl;rwa [if_pos hp, Nat.add_zero] at this
theorem vO {s : List UInt8} {p q : Nat} {ws acc : List Wrd} (hp : p < s.length) (h : stepR s p = .next q ws) : goR s p acc = goR s q (acc ++ ws) := by
 rw [goR, if_pos hp, h];simp only;rw [if_pos (y3 hp h).1]
theorem kO {s : List UInt8} {p a : Nat} {e : Int} {acc : List Wrd} (hp : p < s.length) (h : stepR s p = .err e a) : goR s p acc = .error (e, a) := by
 rw [goR, if_pos hp, h]
theorem YY {s : List UInt8} {p : Nat} {acc : List Wrd} (hp : ¬ p < s.length) : goR s p acc = .ok (acc ++ [⟨0, [], 0, s.length⟩]) := by
 rw [goR, if_neg hp]
theorem kQ {s : List UInt8} {p k : Nat} {b : Bool} {acc : List Wrd} (hp : ¬ p < s.length) : goI s p k b acc = .ok (acc ++ [⟨0, [], 0, s.length⟩]) := by
 rw [goI, if_neg hp]
theorem goI_goR (s : List UInt8) : ∀ (d p skip : Nat) (acc : List Wrd), s.length - p = d → skip ≤ p →
  (goI s p skip false acc = goR s p acc) ∧ (goI s p skip true acc = match remGo s p with | .inl a => .error (110, a) | .inr q => goR s q acc) := by
 intro d
 induction d using Nat.strongRecOn with
 | _ d ih =>
   intro p skip acc hd hsk;by_cases hp : p < s.length
   ·have hpos := ve s p;have hns : ¬ p < skip := by omega
    constructor
    ·rw [goI, if_pos hp, if_neg hns]
     split
     ·rename_i hr
      have : stepR s p = .err 110 p := by unfold stepR; rw [hr]
      rw [kO hp this]
     ·rename_i x k hr
      rw [wg hr] at hpos ⊢;simp only at hpos ⊢;have hpos2 := yf hr;rw [if_neg (by simp)]
      have hstep : stepR s p = if isSp x then .next (p + 1) [] else if x = 35 then (match remGo s p with | .inl a => .err 110 a | .inr q => .next q []) else if letterP x then stepN s p (nameGo s p 0) else if digitP x then stepD s p (digGo s p 0) else stepM s p := by
       unfold stepR; rw [hr]
      unfold stepI;by_cases h1 : isSp x = true
      ·rw [if_pos h1] at hstep;rw [if_pos h1];have hk : k = 1 := by simp [isSp] at h1; omega
       subst hk;simp only;rw [vO hp hstep, List.append_nil];exact (ih _ (by omega) (p + 1) skip acc rfl (by omega)).1
      ·rw [if_neg h1] at hstep;rw [if_neg h1];by_cases h2 : x = 35
       ·rw [if_pos h2] at hstep;rw [if_pos h2];have hk : k = 1 := by omega
        subst hk;simp only;rw [(ih _ (by omega) (p + 1) skip acc rfl (by omega)).2]
        have hrem : remGo s p = remGo s (p + 1) := by
         rw [remGo, if_pos ⟨hp, by omega⟩]
         split
         ·rename_i hn; rw [hn] at hr; cases hr
         ·rename_i x' k' hr'
          rw [hr] at hr'; injection hr' with e; injection e with e1 e2; subst e2; rfl
        rw [← hrem]
        split
        ·rename_i a ha
         rw [ha] at hstep;rw [kO hp hstep]
        ·rename_i q hq
         rw [hq] at hstep;rw [vO hp hstep, List.append_nil]
       ·rw [if_neg h2] at hstep;rw [if_neg h2]
        have fin : ∀ st : St, stepR s p = st → (match (Sum.inl st : St ⊕ Bool) with
          | .inr b => goI s (p + k) skip b acc
          | .inl (.err e a) => Except.error (e, a)
          | .inl (.next q ws) => goI s (p + k) q false (acc ++ ws)) = goR s p acc := by
         intro st hst;cases st with
         | err e a => simp only; rw [kO hp hst]
         | next q ws =>
           simp only;rw [vO hp hst];obtain ⟨g1, g2⟩ := y3 hp hst;cases g2 with
           | refl => omega
           | step h' hp' t =>
             rw [hr] at h'; injection h' with e; injection e with e1 e2; subst e2
             rw [X8 t];exact (ih _ (by omega) q q _ rfl (Nat.le_refl _)).1
        by_cases h3 : letterP x = true
        ·rw [if_pos h3] at hstep;rw [if_pos h3];refine fin _ ?_;simp only;rw [hstep, ← kH (by omega)]
        ·rw [if_neg h3] at hstep;rw [if_neg h3];by_cases h4 : digitP x = true
         ·rw [if_pos h4] at hstep;rw [if_pos h4];exact fin _ hstep
         ·rw [if_neg h4] at hstep;rw [if_neg h4];exact fin _ hstep
    ·rw [goI, if_pos hp, if_neg hns]
     split
     ·rename_i hr
      have h10 : by_ s p ≠ 10 := by
       intro e;have := wj (s := s) (p := p) (by omega);rw [hr] at this;cases this
      have hrem : remGo s p = .inl p := by
       rw [remGo, if_pos ⟨hp, h10⟩]
       split
       ·rfl
       ·rename_i hr'; rw [hr] at hr'; cases hr'
      rw [hrem]
     ·rename_i x k hr
      rw [wg hr] at hpos ⊢;simp only at hpos ⊢;have hpos2 := yf hr;rw [if_pos trivial];by_cases h10 : x = 10
      ·have hk : k = 1 := by omega
       subst hk;rw [decide_eq_false (by omega), (ih _ (by omega) (p + 1) skip acc rfl (by omega)).1, remGo, if_neg (by omega)];simp only
       have hst : stepR s p = .next (p + 1) [] := by
        unfold stepR;rw [hr];simp only;rw [if_pos (by simp [isSp, h10])]
       rw [vO hp hst, List.append_nil]
      ·rw [decide_eq_true h10, (ih _ (by omega) (p + k) skip acc rfl (by omega)).2]
       have hb : by_ s p ≠ 10 := by
        intro e;have := wj (s := s) (p := p) (by omega);rw [hr] at this
        injection this with e'
        injection e' with e1 e2
        omega
       have : remGo s p = remGo s (p + k) := by
        rw [remGo, if_pos ⟨hp, hb⟩]
        split
        ·rename_i hn; rw [hn] at hr; cases hr
        ·rename_i x' k' hr'
         rw [hr] at hr'; injection hr' with e; injection e with e1 e2; subst e2; rfl
       rw [this]
   ·constructor
    ·rw [kQ hp, YY hp]
    ·rw [kQ hp, remGo, if_neg (by omega)];simp only;rw [YY hp]
def cutP (s : List UInt8) : Res := if 65536 < s.length then .error (3, 0) else goR s 0 []
theorem cut_eq (s : List UInt8) : goI s 0 0 false [] = goR s 0 [] := (goI_goR s _ 0 0 [] rfl (Nat.le_refl _)).1
end Wd
namespace Wd
open Go Go.Eng
def ownText : List UInt8 := [99, 97, 114, 100, 32, 117, 110, 105, 116, 32, 99, 104, 97, 114, 109, 32, 102, 111, 114, 109, 97, 116, 32, 112, 108, 97, 121, 101, 100, 32, 100, 101, 97, 100, 32, 100, 97, 119, 110, 32, 97, 117, 114, 97, 32, 115, 104, 105, 101, 108, 100, 32, 104, 97, 114, 109, 32, 109, 101, 110, 100, 32, 100, 114, 97, 119, 32, 103, 97, 105, 110, 32, 100, 114, 111, 112, 32, 108, 111, 111, 107, 32, 115, 104, 111, 119, 32, 115, 117, 109, 109, 111, 110, 32, 105, 102, 32, 101, 108, 115, 101, 32, 109, 101, 32, 102, 111, 101, 32, 116, 97, 114, 103, 101, 116, 32, 108, 105, 102, 101, 32, 104, 97, 110, 100, 32, 100, 101, 99, 107, 32, 117, 110, 105, 116, 115, 32, 109, 97, 110, 97, 32, 99, 111, 115, 116, 32, 116, 111, 112, 32, 112, 111, 119, 101, 114, 32, 109, 105, 110, 32, 109, 97, 120, 32, 110, 111, 116, 32, 97, 110, 100, 32, 111, 114, 32, 104, 111, 108, 100, 115, 32, 108, 101, 97, 115, 116, 32, 109, 111, 115, 116, 32, 99, 111, 112, 105, 101, 115, 32, 98, 97, 110, 110, 101, 100, 32, 115, 105, 110, 103, 108, 101]
def keysP : List (List UInt8) := [[99, 97, 114, 100], [117, 110, 105, 116], [99, 104, 97, 114, 109], [102, 111, 114, 109, 97, 116], [112, 108, 97, 121, 101, 100], [100, 101, 97, 100], [100, 97, 119, 110], [97, 117, 114, 97], [115, 104, 105, 101, 108, 100], [104, 97, 114, 109], [109, 101, 110, 100], [100, 114, 97, 119], [103, 97, 105, 110], [100, 114, 111, 112], [108, 111, 111, 107], [115, 104, 111, 119], [115, 117, 109, 109, 111, 110], [105, 102], [101, 108, 115, 101], [109, 101], [102, 111, 101], [116, 97, 114, 103, 101, 116], [108, 105, 102, 101], [104, 97, 110, 100], [100, 101, 99, 107], [117, 110, 105, 116, 115], [109, 97, 110, 97], [99, 111, 115, 116], [116, 111, 112], [112, 111, 119, 101, 114], [109, 105, 110], [109, 97, 120], [110, 111, 116], [97, 110, 100], [111, 114], [104, 111, 108, 100, 115], [108, 101, 97, 115, 116], [109, 111, 115, 116], [99, 111, 112, 105, 101, 115], [98, 97, 110, 110, 101, 100], [115, 105, 110, 103, 108, 101]]
theorem ZP : Lib.fields ownText = keysP := by decide +kernel
theorem Yt : ∀ b ∈ ownText, b.toNat < 128 := by decide +kernel
theorem X2 : ∀ i : Fin 41, keysP.getD i.val [] ∉ keysP.take i.val := by decide +kernel
def ownP (s : List UInt8) : Bool := decide (s ∈ keysP)
def entK (l : List (List UInt8)) : List (List UInt8 × Value) := l.map fun k => (k, .bool true)
theorem wG {k : List UInt8} : ∀ (l : List (List UInt8)) (i : Nat), k ∉ l → findM k i (entK l) = none
 | [], _, _ => rfl
 | a :: r, i, h => by
   have h1 : k ≠ a := fun e => h (by simp [e]);have h2 := wG r (i + 1) (fun e => h (List.mem_cons_of_mem _ e));simp only [entK, List.map_cons] at h2 ⊢;rw [findM, if_neg h1];exact h2
theorem Xp {i : Nat} (hi : i < 41) : putM (entK (keysP.take i)) (keysP.getD i []) (.bool true) = entK (keysP.take (i + 1)) := by
 have h := X2 ⟨i, hi⟩;unfold putM;rw [wG _ _ h];have hl : i < keysP.length := hi;simp only;rw [List.take_succ_eq_append_getElem hl];simp only [entK, List.map_append, List.map_cons, List.map_nil]
 congr 3
 simp [List.getD_eq_getElem?_getD, hl]
theorem wx {k : List UInt8} : ∀ (l : List (List UInt8)) (i : Nat), k ∈ l → ∃ j, findM k i (entK l) = some (j, .bool true)
 | [], _, h => by cases h
 | a :: r, i, h => by
   simp only [entK, List.map_cons];rw [findM];by_cases h1 : k = a
   ·exact ⟨i, by rw [if_pos h1]⟩
   ·rw [if_neg h1];exact wx r (i + 1) (by rcases List.mem_cons.1 h with h | h; exact absurd h h1; exact h)
theorem X9 (s : List UInt8) : (getM (entK keysP) s).getD (.bool false) = .bool (ownP s) := by
 unfold getM ownP;by_cases h : s ∈ keysP
 ·obtain ⟨j, hj⟩ := wx keysP 0 h;rw [hj, decide_eq_true h]
  rfl
 ·rw [wG _ _ h, decide_eq_false h]
  rfl
end Wd
namespace Tp
open Go Go.Eng Wd
abbrev sPlus : List UInt8 := [43]
abbrev sMinus : List UInt8 := [45]
abbrev sStar : List UInt8 := [42]
abbrev sOpen : List UInt8 := [40]
abbrev sClose : List UInt8 := [41]
abbrev sComma : List UInt8 := [44]
abbrev sSlash : List UInt8 := [47]
abbrev sSemi : List UInt8 := [59]
abbrev sLb : List UInt8 := [123]
abbrev sRb : List UInt8 := [125]
abbrev sLt : List UInt8 := [60]
abbrev sLe : List UInt8 := [60, 61]
abbrev sEq : List UInt8 := [61, 61]
abbrev sLife : List UInt8 := [108, 105, 102, 101]
abbrev sHand : List UInt8 := [104, 97, 110, 100]
abbrev sDeck : List UInt8 := [100, 101, 99, 107]
abbrev sUnits : List UInt8 := [117, 110, 105, 116, 115]
abbrev sMana : List UInt8 := [109, 97, 110, 97]
abbrev sCost : List UInt8 := [99, 111, 115, 116]
abbrev sPower : List UInt8 := [112, 111, 119, 101, 114]
abbrev sMin : List UInt8 := [109, 105, 110]
abbrev sMax : List UInt8 := [109, 97, 120]
abbrev sMe : List UInt8 := [109, 101]
abbrev sFoe : List UInt8 := [102, 111, 101]
abbrev sTop : List UInt8 := [116, 111, 112]
abbrev sTarget : List UInt8 := [116, 97, 114, 103, 101, 116]
abbrev sNot : List UInt8 := [110, 111, 116]
abbrev sAnd : List UInt8 := [97, 110, 100]
abbrev sOr : List UInt8 := [111, 114]
abbrev sHolds : List UInt8 := [104, 111, 108, 100, 115]
abbrev sHarm : List UInt8 := [104, 97, 114, 109]
abbrev sMend : List UInt8 := [109, 101, 110, 100]
abbrev sDraw : List UInt8 := [100, 114, 97, 119]
abbrev sGain : List UInt8 := [103, 97, 105, 110]
abbrev sLook : List UInt8 := [108, 111, 111, 107]
abbrev sDrop : List UInt8 := [100, 114, 111, 112]
abbrev sShow : List UInt8 := [115, 104, 111, 119]
abbrev sSummon : List UInt8 := [115, 117, 109, 109, 111, 110]
abbrev sIf : List UInt8 := [105, 102]
abbrev sElse : List UInt8 := [101, 108, 115, 101]
abbrev sUnit : List UInt8 := [117, 110, 105, 116]
abbrev sCharm : List UInt8 := [99, 104, 97, 114, 109]
abbrev sPlayed : List UInt8 := [112, 108, 97, 121, 101, 100]
abbrev sDead : List UInt8 := [100, 101, 97, 100]
abbrev sDawn : List UInt8 := [100, 97, 119, 110]
abbrev sAura : List UInt8 := [97, 117, 114, 97]
abbrev sShield : List UInt8 := [115, 104, 105, 101, 108, 100]
abbrev sLeast : List UInt8 := [108, 101, 97, 115, 116]
abbrev sMost : List UInt8 := [109, 111, 115, 116]
abbrev sCopies : List UInt8 := [99, 111, 112, 105, 101, 115]
abbrev sBanned : List UInt8 := [98, 97, 110, 110, 101, 100]
abbrev sSingle : List UInt8 := [115, 105, 110, 103, 108, 101]
abbrev sCard : List UInt8 := [99, 97, 114, 100]
abbrev sFormat : List UInt8 := [102, 111, 114, 109, 97, 116]
structure FmtT where
 name : List UInt8
 least : Int
 most : Int
 copies : Int
 banned : List (List UInt8)
 single : List (List UInt8)
 at_ : Int
structure BkT where
 cards : List CardT
 fmts : List FmtT
inductive R (α : Type) where
 | ok (x : α) (ts : List Wrd)
 | bad (e : Int) (a : Int)
 | out
def R.bind {α β : Type} : R α → (α → List Wrd → R β) → R β
 | .ok x ts, f => f x ts
 | .bad e a, _ => .bad e a
 | .out, _ => .out
def hd (ts : List Wrd) : Wrd := ts.headD ⟨0, [], 0, 0⟩
def isW (s : List UInt8) (ts : List Wrd) : Bool := (decide ((hd ts).kind = 1) || decide ((hd ts).kind = 3)) && decide ((hd ts).text = s)
def fail {α : Type} (e : Int) (ts : List Wrd) : R α := .bad e (hd ts).at_
def must (s : List UInt8) (ts : List Wrd) : R Unit := if isW s ts then .ok () ts.tail else fail 120 ts
def musts : List (List UInt8) → List Wrd → R Unit
 | [], ts => .ok () ts
 | s :: r, ts => (must s ts).bind fun _ ts => musts r ts
def pNumber (ts : List Wrd) : R Int := if (hd ts).kind = 2 then .ok (hd ts).n ts.tail else fail 120 ts
def pName (ts : List Wrd) : R (List UInt8) := if (hd ts).kind = 1 ∧ ownP (hd ts).text = false then .ok (hd ts).text ts.tail else fail 120 ts
def pSide (ts : List Wrd) : R Int := if isW sMe ts then .ok 0 ts.tail else if isW sFoe ts then .ok 1 ts.tail else fail 120 ts
def pWho (ts : List Wrd) : R Int := if isW sTarget ts then .ok 2 ts.tail else pSide ts
def pIn (d : Nat) (ts : List Wrd) : R Unit := if 8 < d + 1 then fail 121 ts else .ok () ts
def putN (op : Int) (a b : NumT) : NumT := .mk op 0 0 [a, b]
def putC (op : Int) (a b : CondT) : CondT := .mk op 0 [] [] [a, b]
def plainN (op n who : Int) : NumT := .mk op n who []
def pRest {α : Type} (one : List Wrd → R α) (signs : List (List UInt8 × Int)) (put : Int → α → α → α) : Nat → α → List Wrd → R α
 | 0, _, _ => .out
 | n + 1, x, ts => match signs.find? fun s => isW s.1 ts with
   | none => .ok x ts
   | some s => (one ts.tail).bind fun y ts => pRest one signs put n (put s.2 x y) ts
def pRow {α : Type} (one : List Wrd → R α) (signs : List (List UInt8 × Int)) (put : Int → α → α → α) (n : Nat) (ts : List Wrd) : R α :=
 (one ts).bind fun x ts => pRest one signs put n x ts
def pBr (sum : Nat → List Wrd → R NumT) (two : Bool) (d : Nat) (ts : List Wrd) : R (NumT × NumT) :=
 if isW sOpen ts then
  (pIn d ts).bind fun _ ts => (must sOpen ts).bind fun _ ts => (sum (d + 1) ts).bind fun a ts =>
   if two then (must sComma ts).bind fun _ ts => (sum (d + 1) ts).bind fun b ts => (must sClose ts).bind fun _ ts => .ok (a, b) ts
   else (must sClose ts).bind fun _ ts => .ok (a, plainN 0 0 0) ts
 else fail 120 ts
def whos : List (List UInt8 × Int) := [(sLife, 1), (sHand, 2), (sDeck, 3), (sUnits, 4)]
def pOne (sum : Nat → List Wrd → R NumT) (d : Nat) (ts : List Wrd) : R NumT :=
 if isW sOpen ts then (pBr sum false d ts).bind fun x ts => .ok x.1 ts
 else if (hd ts).kind = 2 then .ok (plainN 0 (hd ts).n 0) ts.tail
 else match whos.find? fun s => isW s.1 ts with
 | some s => (must sOpen ts.tail).bind fun _ ts => (pSide ts).bind fun w ts => (must sClose ts).bind fun _ ts => .ok (plainN s.2 0 w) ts
 | none =>
   if isW sMana ts then (musts [sOpen, sMe, sClose] ts.tail).bind fun _ ts => .ok (plainN 5 0 0) ts
   else if isW sCost ts then (musts [sOpen, sTop, sOpen, sMe, sClose, sClose] ts.tail).bind fun _ ts => .ok (plainN 6 0 0) ts
   else if isW sPower ts then (musts [sOpen, sTarget, sClose] ts.tail).bind fun _ ts => .ok (plainN 7 0 0) ts
   else if isW sMin ts then (pBr sum true d ts.tail).bind fun x ts => .ok (putN 11 x.1 x.2) ts
   else if isW sMax ts then (pBr sum true d ts.tail).bind fun x ts => .ok (putN 12 x.1 x.2) ts
   else fail 120 ts
def sumSigns : List (List UInt8 × Int) := [(sPlus, 8), (sMinus, 9)]
def mulSigns : List (List UInt8 × Int) := [(sStar, 10)]
def pTerm (sum : Nat → List Wrd → R NumT) (n d : Nat) (ts : List Wrd) : R NumT := pRow (pOne sum d) mulSigns putN n ts
def pSum : Nat → Nat → List Wrd → R NumT
 | 0, _, _ => .out
 | n + 1, d, ts => pRow (pTerm (pSum n) (n + 1) d) sumSigns putN (n + 1) ts
def outer : Int → List Wrd → Bool
 | _, [] => true
 | d, w :: r =>
   if w.kind ≠ 3 then outer d r
   else
    let d' : Int := if w.text = sOpen then d + 1 else if w.text = sClose then d - 1 else d
    if 0 < d' then outer d' r
    else if (hd r).kind ≠ 3 then true
    else !decide ((hd r).text ∈ [sLt, sLe, sEq, sPlus, sMinus, sStar])
def lessSigns : List (List UInt8 × Int) := [(sLt, 0), (sLe, 1), (sEq, 2)]
def pTest (sum : Nat → List Wrd → R NumT) (cond : Nat → List Wrd → R CondT) : Nat → Nat → List Wrd → R CondT
 | 0, _, _ => .out
 | n + 1, d, ts =>
   if isW sNot ts then (pIn d ts).bind fun _ ts => (pTest sum cond n (d + 1) ts.tail).bind fun k ts => .ok (.mk 3 0 [] [] [k]) ts
   else if isW sOpen ts && outer 0 ts then (pIn d ts).bind fun _ ts => (cond (d + 1) ts.tail).bind fun x ts => (must sClose ts).bind fun _ ts => .ok x ts
   else if isW sHolds ts then (must sOpen ts.tail).bind fun _ ts => (pSide ts).bind fun w ts => (must sComma ts).bind fun _ ts => (pName ts).bind fun s ts => (must sClose ts).bind fun _ ts => .ok (.mk 6 w s [] []) ts
   else (sum d ts).bind fun a ts => match lessSigns.find? fun s => isW s.1 ts with
    | some s => (sum d ts.tail).bind fun b ts => .ok (.mk s.2 0 [] [a, b] []) ts
    | none => fail 120 ts
def andSigns : List (List UInt8 × Int) := [(sAnd, 4)]
def orSigns : List (List UInt8 × Int) := [(sOr, 5)]
def pBoth (cond : Nat → List Wrd → R CondT) (n d : Nat) (ts : List Wrd) : R CondT := pRow (pTest (pSum n) cond n d) andSigns putC n ts
def pCond : Nat → Nat → List Wrd → R CondT
 | 0, _, _ => .out
 | n + 1, d, ts => pRow (pBoth (pCond n) (n + 1) d) orSigns putC (n + 1) ts
def num0 : NumT := .mk 0 0 0 []
def cond0 : CondT := .mk 0 0 [] [] []
def eff0 (op who : Int) (n : NumT) (name : List UInt8) : EffT := .mk op who n name cond0 [] []
def pSemi (x : EffT) (ts : List Wrd) : R EffT := (must sSemi ts).bind fun _ ts => .ok x ts
def pEff (blk : Nat → List Wrd → R (List EffT)) (n d : Nat) (ts : List Wrd) : R EffT :=
 if isW sHarm ts then (pWho ts.tail).bind fun w ts => (pSum n d ts).bind fun x ts => pSemi (eff0 0 w x []) ts
 else if isW sMend ts then (pWho ts.tail).bind fun w ts => (pSum n d ts).bind fun x ts => pSemi (eff0 1 w x []) ts
 else if isW sDraw ts then (pSide ts.tail).bind fun w ts => (pSum n d ts).bind fun x ts => pSemi (eff0 2 w x []) ts
 else if isW sGain ts then (pSum n d ts.tail).bind fun x ts => pSemi (eff0 3 0 x []) ts
 else if isW sLook ts then (pSum n d ts.tail).bind fun x ts => pSemi (eff0 5 0 x []) ts
 else if isW sDrop ts then (pSide ts.tail).bind fun w ts => pSemi (eff0 4 w num0 []) ts
 else if isW sShow ts then (pSide ts.tail).bind fun w ts => pSemi (eff0 6 w num0 []) ts
 else if isW sSummon ts then (pName ts.tail).bind fun s ts => pSemi (eff0 7 0 num0 s) ts
 else if isW sIf ts then
  (pIn d ts).bind fun _ ts => (pCond n (d + 1) ts.tail).bind fun c ts => (blk (d + 1) ts).bind fun t ts => (must sElse ts).bind fun _ ts => (blk (d + 1) ts).bind fun e ts => .ok (.mk 8 0 num0 [] c t e) ts
 else fail 120 ts
def pMany {α : Type} (one : List Wrd → R α) : Nat → List α → List Wrd → R (List α)
 | 0, _, _ => .out
 | n + 1, acc, ts => if isW sRb ts then .ok acc ts.tail else (one ts).bind fun x ts => pMany one n (acc ++ [x]) ts
def pBlock : Nat → Nat → List Wrd → R (List EffT)
 | 0, _, _ => .out
 | n + 1, d, ts => (must sLb ts).bind fun _ ts => pMany (pEff (pBlock n) (n + 1) d) (n + 1) [] ts
def pRules {σ : Type} (keys : List (List UInt8)) (read : List UInt8 → σ → List Wrd → R σ) (parts : σ → Nat) : Nat → List (List UInt8) → σ → List Wrd → R σ
 | 0, _, _, _ => .out
 | n + 1, seen, c, ts =>
   if isW sRb ts then (if 200 < parts c then fail 3 ts else .ok c ts.tail)
   else if (hd ts).kind = 1 ∧ (hd ts).text ∈ keys then
    (if (hd ts).text ∈ seen then fail 101 ts else (read (hd ts).text c ts.tail).bind fun c ts' => pRules keys read parts n (seen ++ [(hd ts).text]) c ts')
   else fail 120 ts
def cardKeys : List (List UInt8) := [sPlayed, sDead, sDawn, sAura, sShield]
def cardRead (n : Nat) (s : List UInt8) (c : CardT) (ts : List Wrd) : R CardT :=
 if s = sPlayed then (pBlock n 0 ts).bind fun l ts => .ok { c with played := l } ts
 else if s = sDead then (pBlock n 0 ts).bind fun l ts => .ok { c with dead := l } ts
 else if s = sDawn then (pBlock n 0 ts).bind fun l ts => .ok { c with dawn := l } ts
 else if s = sAura then (pNumber ts).bind fun a ts => (must sSlash ts).bind fun _ ts => (pNumber ts).bind fun b ts => (must sSemi ts).bind fun _ ts => .ok { c with apow := a, aheal := b } ts
 else (pNumber ts).bind fun a ts => (must sSemi ts).bind fun _ ts => .ok { c with shield := a } ts
def pCard (parts : CardT → Nat) (n : Nat) (at_ : Int) (ts : List Wrd) : R CardT :=
 (pName ts).bind fun s ts =>
  (if isW sUnit ts then (pNumber ts.tail).bind fun c ts => (pNumber ts).bind fun p ts => (must sSlash ts).bind fun _ ts => (pNumber ts).bind fun h ts => .ok (⟨s, true, c, p, h, 0, 0, 0, [], [], [], at_⟩ : CardT) ts
   else (must sCharm ts).bind fun _ ts => (pNumber ts).bind fun c ts => .ok ⟨s, false, c, 0, 0, 0, 0, 0, [], [], [], at_⟩ ts).bind fun c ts =>
  (must sLb ts).bind fun _ ts => pRules cardKeys (cardRead n) parts n [] c ts
def pNames : Nat → List (List UInt8) → List Wrd → R (List (List UInt8))
 | 0, _, _ => .out
 | n + 1, acc, ts => (pName ts).bind fun s ts => if isW sComma ts then pNames n (acc ++ [s]) ts.tail else .ok (acc ++ [s]) ts
def fmtKeys : List (List UInt8) := [sLeast, sMost, sCopies, sBanned, sSingle]
def fmtRead (n : Nat) (s : List UInt8) (f : FmtT) (ts : List Wrd) : R FmtT :=
 if s = sLeast then (pNumber ts).bind fun a ts => (must sSemi ts).bind fun _ ts => .ok { f with least := a } ts
 else if s = sMost then (pNumber ts).bind fun a ts => (must sSemi ts).bind fun _ ts => .ok { f with most := a } ts
 else if s = sCopies then (pNumber ts).bind fun a ts => (must sSemi ts).bind fun _ ts => .ok { f with copies := a } ts
 else if s = sBanned then (pNames n [] ts).bind fun l ts => (must sSemi ts).bind fun _ ts => .ok { f with banned := l } ts
 else (pNames n [] ts).bind fun l ts => (must sSemi ts).bind fun _ ts => .ok { f with single := l } ts
def pFmt (n : Nat) (at_ : Int) (ts : List Wrd) : R FmtT :=
 (pName ts).bind fun s ts => (must sLb ts).bind fun _ ts => pRules fmtKeys (fmtRead n) (fun _ => 0) n [] ⟨s, 0, 0, 0, [], [], at_⟩ ts
def pBook (parts : CardT → Nat) (n0 : Nat) : Nat → List CardT → List FmtT → List Wrd → R BkT
 | 0, _, _, _ => .out
 | n + 1, cs, fs, ts =>
   if (hd ts).kind = 0 then .ok ⟨cs, fs⟩ ts
   else if isW sCard ts ∧ fs.length = 0 then (if cs.length = 240 then fail 3 ts else (pCard parts n0 (hd ts).at_ ts.tail).bind fun c ts => pBook parts n0 n (cs ++ [c]) fs ts)
   else if isW sFormat ts then (if fs.length = 240 then fail 3 ts else (pFmt n0 (hd ts).at_ ts.tail).bind fun f ts => pBook parts n0 n cs (fs ++ [f]) ts)
   else fail 120 ts
end Tp
section
open Wd Tp Kd
variable {m : Mp}
abbrev cmpV : Value := .agg ([] : List Value).toArray
abbrev cmpF (f : FuncId) : Value := .func (.func f) [cmpV].toArray [].toArray
def FormN (cs : List Value) : Prop := ∃ (a1 a2 a3 : Int) (A1 : Option Addr) (n1 k1 : Nat), cs = [.int .i8 a1, .int .i64 a2, .int .i8 a3, .slice A1 n1 k1]
theorem eqf108 {R : NumT → NumT → Prop} {A A' : Option Addr} {c c' : Nat} {l l' : List NumT} {vs us : List Value} (hr : Rd m A vs) (hv : vs.length = l.length * 4) (hr' : Rd m A' us) (hv' : us.length = l'.length * 4) (hl : l.length ≤ 9223372036854775807) (hl' : l'.length ≤ 9223372036854775807)
  (hf : ∀ i, i < l.length → FormN ((vs.drop (i * 4)).take 4)) (hf' : ∀ i, i < l'.length → FormN ((us.drop (i * 4)).take 4))
  (hone : ∀ (i : Nat) (h : i < l.length) (h' : i < l'.length) (m' : Mp), Le m m' → CS Tryz.prog 67 [cmpV, .agg ((vs.drop (i * 4)).take 4).toArray, .agg ((us.drop (i * 4)).take 4).toArray] m' [] (SameV (R l[i] l'[i]))) :
  CS Tryz.prog 108 [.slice A l.length c, .slice A' l'.length c', cmpF 67] m [] (SameV (l.length = l'.length ∧ ∀ (i : Nat) (h : i < l.length) (h' : i < l'.length), R l[i] l'[i])) := by
 refine zl [.tmp 6] Tryz.func108 rfl rfl rfl ?_;by_cases g : l.length = l'.length
 rotate_left
 ·refine tr 12 ?_;refine cto 10 ?_;exact rt1 ⟨rfl, trivial⟩ ⟨.inr ⟨rfl, fun h => g h.1⟩, rfl⟩
 refine tr 12 ?_;refine cfo 14 ?_
 refine zZ (α := Nat) (fun i => [(0, .slice A l.length c), (1, .slice A' l'.length c'), (2, cmpF 67), (15, .slice A l.length c), (16, .int .i64 (l.length : Nat)), (17, .int .i64 (i : Nat))]) (fun _ => []) (fun i => i ≤ l.length ∧ ∀ (j : Nat) (h : j < l.length) (h' : j < l'.length), j < i → R l[j] l'[j]) (fun i => l.length - i) 0 ⟨rfl, rfl, rfl, rfl, rfl, rfl, trivial⟩ (Pick.nil _) ⟨Nat.zero_le _, fun _ _ _ h => by cases h⟩ ?_
 rintro i ⟨hi, hall⟩;by_cases hlt : i < l.length
 ·have hlt2 : i < l'.length := by omega
  have hA : A.isSome = true := hr.isSome (by omega);have hA2 : A'.isSome = true := hr'.isSome (by omega);have hat := hr.elem (i * 4) 4;have hat2 := hr'.elem (i * 4) 4;have h1 := hone i hlt hlt2;obtain ⟨a1, a2, a3, A1, n1, k1, e⟩ := hf i hlt;obtain ⟨a1', a2', a3', A1', n1', k1', e2⟩ := hf' i hlt2;rw [e] at hat h1;rw [e2] at hat2 h1;have hal := hall;clear hall hone hf hf';refine tr 2 ?_
  refine cto 11 ?_;refine pe 0 (zC ez83 rfl rfl hA (by omega)) ?_;refine La 0 ag85 hat ?_;refine Al 1 zl85 fun b1 => ?_;refine Sg 6 ag85 .here ?_;refine pe 0 (zC ez83 rfl rfl hA2 (by omega)) ?_;refine La 0 ag85 hat2 ?_;refine Al 0 zl85 fun b2 => ?_;refine Sg 5 ag85 .here ?_;refine Lc 0 ag85 .h1 ?_;refine Lc 0 ag85 .here ?_
  refine zE ((yp (p := [cmpV]) (q := []) cl67 rfl rfl (fun m' hm he => h1 m' hm) rfl ?_)) rfl;rintro _ _ ⟨⟨rfl, hq⟩ | ⟨rfl, hq⟩, rfl⟩
  ·refine vr 8 ?_;refine Pa 2 ?_;refine QR (i + 1) (Pick.nil _) ⟨hlt, fun j h h' hj => ?_⟩ (by omega);rcases Nat.lt_or_ge j i with h2 | h2
   ·exact hal j h h' h2
   ·obtain rfl : j = i := by omega
    exact hq
  ·refine vr 12 ?_;refine zI ?_;refine zH ?_;refine zL ?_;exact rt1 ⟨rfl, trivial⟩ ⟨.inr ⟨rfl, fun h => hq (h.2 i hlt hlt2)⟩, rfl⟩
 ·refine tr 2 ?_;refine cfo 6 ?_;refine zG ?_;refine zF ?_;refine qt 7 ?_;exact rt1 ⟨rfl, trivial⟩ ⟨.inl ⟨rfl, g, fun j h h' => hall j h h' (by omega)⟩, rfl⟩
def FormC (cs : List Value) : Prop := ∃ (a1 a2 : Int) (s1 : List UInt8) (A1 : Option Addr) (n1 k1 : Nat) (A2 : Option Addr) (n2 k2 : Nat), cs = [.int .i8 a1, .int .i8 a2, .string (bs s1), .slice A1 n1 k1, .slice A2 n2 k2]
theorem eqf109 {R : CondT → CondT → Prop} {A A' : Option Addr} {c c' : Nat} {l l' : List CondT} {vs us : List Value} (hr : Rd m A vs) (hv : vs.length = l.length * 5) (hr' : Rd m A' us) (hv' : us.length = l'.length * 5) (hl : l.length ≤ 9223372036854775807) (hl' : l'.length ≤ 9223372036854775807)
  (hf : ∀ i, i < l.length → FormC ((vs.drop (i * 5)).take 5)) (hf' : ∀ i, i < l'.length → FormC ((us.drop (i * 5)).take 5))
  (hone : ∀ (i : Nat) (h : i < l.length) (h' : i < l'.length) (m' : Mp), Le m m' → CS Tryz.prog 68 [cmpV, .agg ((vs.drop (i * 5)).take 5).toArray, .agg ((us.drop (i * 5)).take 5).toArray] m' [] (SameV (R l[i] l'[i]))) :
  CS Tryz.prog 109 [.slice A l.length c, .slice A' l'.length c', cmpF 68] m [] (SameV (l.length = l'.length ∧ ∀ (i : Nat) (h : i < l.length) (h' : i < l'.length), R l[i] l'[i])) := by
 refine zl [.tmp 6] Tryz.func109 rfl rfl rfl ?_;by_cases g : l.length = l'.length
 rotate_left
 ·refine tr 12 ?_;refine cto 10 ?_;exact rt1 ⟨rfl, trivial⟩ ⟨.inr ⟨rfl, fun h => g h.1⟩, rfl⟩
 refine tr 12 ?_;refine cfo 14 ?_
 refine zZ (α := Nat) (fun i => [(0, .slice A l.length c), (1, .slice A' l'.length c'), (2, cmpF 68), (15, .slice A l.length c), (16, .int .i64 (l.length : Nat)), (17, .int .i64 (i : Nat))]) (fun _ => []) (fun i => i ≤ l.length ∧ ∀ (j : Nat) (h : j < l.length) (h' : j < l'.length), j < i → R l[j] l'[j]) (fun i => l.length - i) 0 ⟨rfl, rfl, rfl, rfl, rfl, rfl, trivial⟩ (Pick.nil _) ⟨Nat.zero_le _, fun _ _ _ h => by cases h⟩ ?_
 rintro i ⟨hi, hall⟩;by_cases hlt : i < l.length
 ·have hlt2 : i < l'.length := by omega
  have hA : A.isSome = true := hr.isSome (by omega);have hA2 : A'.isSome = true := hr'.isSome (by omega);have hat := hr.elem (i * 5) 5;have hat2 := hr'.elem (i * 5) 5;have h1 := hone i hlt hlt2;obtain ⟨a1, a2, s1, A1, n1, k1, A2, n2, k2, e⟩ := hf i hlt;obtain ⟨a1', a2', s1', A1', n1', k1', A2', n2', k2', e2⟩ := hf' i hlt2;rw [e] at hat h1;rw [e2] at hat2 h1;have hal := hall;clear hall hone hf hf'
  refine tr 2 ?_;refine cto 11 ?_;refine pe 0 (zC ez86 rfl rfl hA (by omega)) ?_;refine La 0 ag88 hat ?_;refine Al 1 zl88 fun b1 => ?_;refine Sg 6 ag88 .here ?_;refine pe 0 (zC ez86 rfl rfl hA2 (by omega)) ?_;refine La 0 ag88 hat2 ?_;refine Al 0 zl88 fun b2 => ?_;refine Sg 5 ag88 .here ?_;refine Lc 0 ag88 .h1 ?_;refine Lc 0 ag88 .here ?_
  refine zE ((yp (p := [cmpV]) (q := []) cl68 rfl rfl (fun m' hm he => h1 m' hm) rfl ?_)) rfl;rintro _ _ ⟨⟨rfl, hq⟩ | ⟨rfl, hq⟩, rfl⟩
  ·refine vr 8 ?_;refine Pa 2 ?_;refine QR (i + 1) (Pick.nil _) ⟨hlt, fun j h h' hj => ?_⟩ (by omega);rcases Nat.lt_or_ge j i with h2 | h2
   ·exact hal j h h' h2
   ·obtain rfl : j = i := by omega
    exact hq
  ·refine vr 12 ?_;refine zI ?_;refine zH ?_;refine zL ?_;exact rt1 ⟨rfl, trivial⟩ ⟨.inr ⟨rfl, fun h => hq (h.2 i hlt hlt2)⟩, rfl⟩
 ·refine tr 2 ?_;refine cfo 6 ?_;refine zG ?_;refine zF ?_;refine qt 7 ?_;exact rt1 ⟨rfl, trivial⟩ ⟨.inl ⟨rfl, g, fun j h h' => hall j h h' (by omega)⟩, rfl⟩
def FormE (cs : List Value) : Prop := ∃ (a1 a2 a3 a4 a5 a6 a7 : Int) (s1 s2 : List UInt8) (A1 : Option Addr) (n1 k1 : Nat) (A2 : Option Addr) (n2 k2 : Nat) (A3 : Option Addr) (n3 k3 : Nat) (A4 : Option Addr) (n4 k4 : Nat) (A5 : Option Addr) (n5 k5 : Nat), cs = [.int .i8 a1, .int .i8 a2, .int .i8 a3, .int .i64 a4, .int .i8 a5, .slice A1 n1 k1, .string (bs s1), .int .i8 a6, .int .i8 a7, .string (bs s2), .slice A2 n2 k2, .slice A3 n3 k3, .slice A4 n4 k4, .slice A5 n5 k5]
theorem eqf43 {R : EffT → EffT → Prop} {A A' : Option Addr} {c c' : Nat} {l l' : List EffT} {vs us : List Value} (hr : Rd m A vs) (hv : vs.length = l.length * 14) (hr' : Rd m A' us) (hv' : us.length = l'.length * 14) (hl : l.length ≤ 9223372036854775807) (hl' : l'.length ≤ 9223372036854775807)
  (hf : ∀ i, i < l.length → FormE ((vs.drop (i * 14)).take 14)) (hf' : ∀ i, i < l'.length → FormE ((us.drop (i * 14)).take 14))
  (hone : ∀ (i : Nat) (h : i < l.length) (h' : i < l'.length) (m' : Mp), Le m m' → CS Tryz.prog 44 [cmpV, .agg ((vs.drop (i * 14)).take 14).toArray, .agg ((us.drop (i * 14)).take 14).toArray] m' [] (SameV (R l[i] l'[i]))) :
  CS Tryz.prog 43 [.slice A l.length c, .slice A' l'.length c', cmpF 44] m [] (SameV (l.length = l'.length ∧ ∀ (i : Nat) (h : i < l.length) (h' : i < l'.length), R l[i] l'[i])) := by
 refine zl [.tmp 6] Tryz.func43 rfl rfl rfl ?_;by_cases g : l.length = l'.length
 rotate_left
 ·refine tr 12 ?_;refine cto 10 ?_;exact rt1 ⟨rfl, trivial⟩ ⟨.inr ⟨rfl, fun h => g h.1⟩, rfl⟩
 refine tr 12 ?_;refine cfo 14 ?_
 refine zZ (α := Nat) (fun i => [(0, .slice A l.length c), (1, .slice A' l'.length c'), (2, cmpF 44), (15, .slice A l.length c), (16, .int .i64 (l.length : Nat)), (17, .int .i64 (i : Nat))]) (fun _ => []) (fun i => i ≤ l.length ∧ ∀ (j : Nat) (h : j < l.length) (h' : j < l'.length), j < i → R l[j] l'[j]) (fun i => l.length - i) 0 ⟨rfl, rfl, rfl, rfl, rfl, rfl, trivial⟩ (Pick.nil _) ⟨Nat.zero_le _, fun _ _ _ h => by cases h⟩ ?_
 rintro i ⟨hi, hall⟩;by_cases hlt : i < l.length
 ·have hlt2 : i < l'.length := by omega
  have hA : A.isSome = true := hr.isSome (by omega);have hA2 : A'.isSome = true := hr'.isSome (by omega);have hat := hr.elem (i * 14) 14;have hat2 := hr'.elem (i * 14) 14;have h1 := hone i hlt hlt2;obtain ⟨a1, a2, a3, a4, a5, a6, a7, s1, s2, A1, n1, k1, A2, n2, k2, A3, n3, k3, A4, n4, k4, A5, n5, k5, e⟩ := hf i hlt
  obtain ⟨a1', a2', a3', a4', a5', a6', a7', s1', s2', A1', n1', k1', A2', n2', k2', A3', n3', k3', A4', n4', k4', A5', n5', k5', e2⟩ := hf' i hlt2;rw [e] at hat h1;rw [e2] at hat2 h1;have hal := hall;clear hall hone hf hf';refine tr 2 ?_;refine cto 11 ?_;refine pe 0 (zC ez46 rfl rfl hA (by omega)) ?_;refine La 0 ag90 hat ?_;refine Al 1 zl90 fun b1 => ?_;refine Sg 6 ag90 .here ?_
  refine pe 0 (zC ez46 rfl rfl hA2 (by omega)) ?_;refine La 0 ag90 hat2 ?_;refine Al 0 zl90 fun b2 => ?_;refine Sg 5 ag90 .here ?_;refine Lc 0 ag90 .h1 ?_;refine Lc 0 ag90 .here ?_;refine zE ((yp (p := [cmpV]) (q := []) cl44 rfl rfl (fun m' hm he => h1 m' hm) rfl ?_)) rfl;rintro _ _ ⟨⟨rfl, hq⟩ | ⟨rfl, hq⟩, rfl⟩
  ·refine vr 8 ?_;refine Pa 2 ?_;refine QR (i + 1) (Pick.nil _) ⟨hlt, fun j h h' hj => ?_⟩ (by omega);rcases Nat.lt_or_ge j i with h2 | h2
   ·exact hal j h h' h2
   ·obtain rfl : j = i := by omega
    exact hq
  ·refine vr 12 ?_;refine zI ?_;refine zH ?_;refine zL ?_;exact rt1 ⟨rfl, trivial⟩ ⟨.inr ⟨rfl, fun h => hq (h.2 i hlt hlt2)⟩, rfl⟩
 ·refine tr 2 ?_;refine cfo 6 ?_;refine zG ?_;refine zF ?_;refine qt 7 ?_;exact rt1 ⟨rfl, trivial⟩ ⟨.inl ⟨rfl, g, fun j h h' => hall j h h' (by omega)⟩, rfl⟩
def FormK (cs : List Value) : Prop := ∃ (s1 : List UInt8) (u : Bool) (a1 a2 a3 a4 a5 a6 a7 : Int) (A1 : Option Addr) (n1 k1 : Nat) (A2 : Option Addr) (n2 k2 : Nat) (A3 : Option Addr) (n3 k3 : Nat), cs = [.string (bs s1), .bool u, .int .i64 a1, .int .i64 a2, .int .i64 a3, .int .i64 a4, .int .i64 a5, .int .i64 a6, .slice A1 n1 k1, .slice A2 n2 k2, .slice A3 n3 k3, .int .i64 a7]
theorem eqf15 {R : CardT → CardT → Prop} {A A' : Option Addr} {c c' : Nat} {l l' : List CardT} {vs us : List Value} (hr : Rd m A vs) (hv : vs.length = l.length * 12) (hr' : Rd m A' us) (hv' : us.length = l'.length * 12) (hl : l.length ≤ 9223372036854775807) (hl' : l'.length ≤ 9223372036854775807)
  (hf : ∀ i, i < l.length → FormK ((vs.drop (i * 12)).take 12)) (hf' : ∀ i, i < l'.length → FormK ((us.drop (i * 12)).take 12))
  (hone : ∀ (i : Nat) (h : i < l.length) (h' : i < l'.length) (m' : Mp), Le m m' → CS Tryz.prog 16 [cmpV, .agg ((vs.drop (i * 12)).take 12).toArray, .agg ((us.drop (i * 12)).take 12).toArray] m' [] (SameV (R l[i] l'[i]))) :
  CS Tryz.prog 15 [.slice A l.length c, .slice A' l'.length c', cmpF 16] m [] (SameV (l.length = l'.length ∧ ∀ (i : Nat) (h : i < l.length) (h' : i < l'.length), R l[i] l'[i])) := by
 refine zl [.tmp 6] Tryz.func15 rfl rfl rfl ?_;by_cases g : l.length = l'.length
 rotate_left
 ·refine tr 12 ?_;refine cto 10 ?_;exact rt1 ⟨rfl, trivial⟩ ⟨.inr ⟨rfl, fun h => g h.1⟩, rfl⟩
 refine tr 12 ?_;refine cfo 14 ?_
 refine zZ (α := Nat) (fun i => [(0, .slice A l.length c), (1, .slice A' l'.length c'), (2, cmpF 16), (15, .slice A l.length c), (16, .int .i64 (l.length : Nat)), (17, .int .i64 (i : Nat))]) (fun _ => []) (fun i => i ≤ l.length ∧ ∀ (j : Nat) (h : j < l.length) (h' : j < l'.length), j < i → R l[j] l'[j]) (fun i => l.length - i) 0 ⟨rfl, rfl, rfl, rfl, rfl, rfl, trivial⟩ (Pick.nil _) ⟨Nat.zero_le _, fun _ _ _ h => by cases h⟩ ?_
 rintro i ⟨hi, hall⟩;by_cases hlt : i < l.length
 ·have hlt2 : i < l'.length := by omega
  have hA : A.isSome = true := hr.isSome (by omega);have hA2 : A'.isSome = true := hr'.isSome (by omega);have hat := hr.elem (i * 12) 12;have hat2 := hr'.elem (i * 12) 12;have h1 := hone i hlt hlt2;obtain ⟨s1, u, a1, a2, a3, a4, a5, a6, a7, A1, n1, k1, A2, n2, k2, A3, n3, k3, e⟩ := hf i hlt
  obtain ⟨s1', u', a1', a2', a3', a4', a5', a6', a7', A1', n1', k1', A2', n2', k2', A3', n3', k3', e2⟩ := hf' i hlt2;rw [e] at hat h1;rw [e2] at hat2 h1;have hal := hall;clear hall hone hf hf';refine tr 2 ?_;refine cto 11 ?_;refine pe 0 (zC ez22 rfl rfl hA (by omega)) ?_;refine La 0 ag48 hat ?_;refine Al 1 zl48 fun b1 => ?_;refine Sg 6 ag48 .here ?_
  refine pe 0 (zC ez22 rfl rfl hA2 (by omega)) ?_;refine La 0 ag48 hat2 ?_;refine Al 0 zl48 fun b2 => ?_;refine Sg 5 ag48 .here ?_;refine Lc 0 ag48 .h1 ?_;refine Lc 0 ag48 .here ?_;refine zE ((yp (p := [cmpV]) (q := []) cl16 rfl rfl (fun m' hm he => h1 m' hm) rfl ?_)) rfl;rintro _ _ ⟨⟨rfl, hq⟩ | ⟨rfl, hq⟩, rfl⟩
  ·refine vr 8 ?_;refine Pa 2 ?_;refine QR (i + 1) (Pick.nil _) ⟨hlt, fun j h h' hj => ?_⟩ (by omega);rcases Nat.lt_or_ge j i with h2 | h2
   ·exact hal j h h' h2
   ·obtain rfl : j = i := by omega
    exact hq
  ·refine vr 12 ?_;refine zI ?_;refine zH ?_;refine zL ?_;exact rt1 ⟨rfl, trivial⟩ ⟨.inr ⟨rfl, fun h => hq (h.2 i hlt hlt2)⟩, rfl⟩
 ·refine tr 2 ?_;refine cfo 6 ?_;refine zG ?_;refine zF ?_;refine qt 7 ?_;exact rt1 ⟨rfl, trivial⟩ ⟨.inl ⟨rfl, g, fun j h h' => hall j h h' (by omega)⟩, rfl⟩
def FormF (cs : List Value) : Prop := ∃ (s1 : List UInt8) (a1 a2 a3 a7 : Int) (A1 : Option Addr) (n1 k1 : Nat) (A2 : Option Addr) (n2 k2 : Nat), cs = [.string (bs s1), .int .i64 a1, .int .i64 a2, .int .i64 a3, .slice A1 n1 k1, .slice A2 n2 k2, .int .i64 a7]
theorem eqf17 {R : FmtT → FmtT → Prop} {A A' : Option Addr} {c c' : Nat} {l l' : List FmtT} {vs us : List Value} (hr : Rd m A vs) (hv : vs.length = l.length * 7) (hr' : Rd m A' us) (hv' : us.length = l'.length * 7) (hl : l.length ≤ 9223372036854775807) (hl' : l'.length ≤ 9223372036854775807)
  (hf : ∀ i, i < l.length → FormF ((vs.drop (i * 7)).take 7)) (hf' : ∀ i, i < l'.length → FormF ((us.drop (i * 7)).take 7))
  (hone : ∀ (i : Nat) (h : i < l.length) (h' : i < l'.length) (m' : Mp), Le m m' → CS Tryz.prog 18 [cmpV, .agg ((vs.drop (i * 7)).take 7).toArray, .agg ((us.drop (i * 7)).take 7).toArray] m' [] (SameV (R l[i] l'[i]))) :
  CS Tryz.prog 17 [.slice A l.length c, .slice A' l'.length c', cmpF 18] m [] (SameV (l.length = l'.length ∧ ∀ (i : Nat) (h : i < l.length) (h' : i < l'.length), R l[i] l'[i])) := by
 refine zl [.tmp 6] Tryz.func17 rfl rfl rfl ?_;by_cases g : l.length = l'.length
 rotate_left
 ·refine tr 12 ?_;refine cto 10 ?_;exact rt1 ⟨rfl, trivial⟩ ⟨.inr ⟨rfl, fun h => g h.1⟩, rfl⟩
 refine tr 12 ?_;refine cfo 14 ?_
 refine zZ (α := Nat) (fun i => [(0, .slice A l.length c), (1, .slice A' l'.length c'), (2, cmpF 18), (15, .slice A l.length c), (16, .int .i64 (l.length : Nat)), (17, .int .i64 (i : Nat))]) (fun _ => []) (fun i => i ≤ l.length ∧ ∀ (j : Nat) (h : j < l.length) (h' : j < l'.length), j < i → R l[j] l'[j]) (fun i => l.length - i) 0 ⟨rfl, rfl, rfl, rfl, rfl, rfl, trivial⟩ (Pick.nil _) ⟨Nat.zero_le _, fun _ _ _ h => by cases h⟩ ?_
 rintro i ⟨hi, hall⟩;by_cases hlt : i < l.length
 ·have hlt2 : i < l'.length := by omega
  have hA : A.isSome = true := hr.isSome (by omega);have hA2 : A'.isSome = true := hr'.isSome (by omega);have hat := hr.elem (i * 7) 7;have hat2 := hr'.elem (i * 7) 7;have h1 := hone i hlt hlt2;obtain ⟨s1, a1, a2, a3, a7, A1, n1, k1, A2, n2, k2, e⟩ := hf i hlt;obtain ⟨s1', a1', a2', a3', a7', A1', n1', k1', A2', n2', k2', e2⟩ := hf' i hlt2;rw [e] at hat h1;rw [e2] at hat2 h1;have hal := hall
  clear hall hone hf hf';refine tr 2 ?_;refine cto 11 ?_;refine pe 0 (zC ez23 rfl rfl hA (by omega)) ?_;refine La 0 ag40 hat ?_;refine Al 1 zl40 fun b1 => ?_;refine Sg 6 ag40 .here ?_;refine pe 0 (zC ez23 rfl rfl hA2 (by omega)) ?_;refine La 0 ag40 hat2 ?_;refine Al 0 zl40 fun b2 => ?_;refine Sg 5 ag40 .here ?_;refine Lc 0 ag40 .h1 ?_;refine Lc 0 ag40 .here ?_
  refine zE ((yp (p := [cmpV]) (q := []) cl18 rfl rfl (fun m' hm he => h1 m' hm) rfl ?_)) rfl;rintro _ _ ⟨⟨rfl, hq⟩ | ⟨rfl, hq⟩, rfl⟩
  ·refine vr 8 ?_;refine Pa 2 ?_;refine QR (i + 1) (Pick.nil _) ⟨hlt, fun j h h' hj => ?_⟩ (by omega);rcases Nat.lt_or_ge j i with h2 | h2
   ·exact hal j h h' h2
   ·obtain rfl : j = i := by omega
    exact hq
  ·refine vr 12 ?_;refine zI ?_;refine zH ?_;refine zL ?_;exact rt1 ⟨rfl, trivial⟩ ⟨.inr ⟨rfl, fun h => hq (h.2 i hlt hlt2)⟩, rfl⟩
 ·refine tr 2 ?_;refine cfo 6 ?_;refine zG ?_;refine zF ?_;refine qt 7 ?_;exact rt1 ⟨rfl, trivial⟩ ⟨.inl ⟨rfl, g, fun j h h' => hall j h h' (by omega)⟩, rfl⟩
end
section
open Wd Tp Kd
variable {m : Mp}
theorem formN {cs : List Value} {x : NumT} (h : NumR m cs x) : FormN cs := by
 cases h;exact ⟨_, _, _, _, _, _, rfl⟩
theorem formC {cs : List Value} {x : CondT} (h : CondR m cs x) : FormC cs := by
 cases h;exact ⟨_, _, _, _, _, _, _, _, _, rfl⟩
theorem formE {cs : List Value} {x : EffT} (h : EffR m cs x) : FormE cs := by
 obtain ⟨_, _, _, _, _, _, _, _, _, _, _, _, _, _, _, _, _, _, _, _, _, _, _, _, e⟩ := h.form;exact ⟨_, _, _, _, _, _, _, _, _, _, _, _, _, _, _, _, _, _, _, _, _, _, _, _, e⟩
theorem kU {α : Type} {l l' : List α} (h : l.length = l'.length ∧ ∀ (i : Nat) (h : i < l.length) (h' : i < l'.length), l[i] = l'[i]) : l = l' := List.ext_getElem h.1 h.2
theorem kF {α : Type} {l l' : List α} (h : l = l') : l.length = l'.length ∧ ∀ (i : Nat) (h : i < l.length) (h' : i < l'.length), l[i] = l'[i] := by
 subst h;exact ⟨rfl, fun _ _ _ => rfl⟩
theorem num67 {xs : List Value} {x : NumT} (hx : NumR m xs x) : ∀ {ys : List Value} {y : NumT}, NumR m ys y → ∀ m0, Le m m0 → CS Tryz.prog 67 [cmpV, .agg xs.toArray, .agg ys.toArray] m0 [] (SameV (x = y)) := by
 induction hx with
 | @mk op n who kids A len c vs ho hln hmx hr hv hkk ih =>
 subst hln;intro ys y hy;cases hy with
 | @mk op' n' who' kids' A' len' c' us ho' hln' hmx' hr' hv' hkk' =>
 subst hln';intro m0 hm0;have hmx : kids.length ≤ 9223372036854775807 := hmx;have hmx' : kids'.length ≤ 9223372036854775807 := hmx';refine zl [.tmp 6] Tryz.func67 rfl rfl rfl ?_;by_cases g0 : op = op'
 rotate_left
 ·refine tr 2 ?_;refine Bx 0 rfl fun b1 => ?_;refine Bx 0 rfl fun b2 => ?_;refine Bx 6 rfl fun b3 => ?_;refine Lb 1 sg82 .h1 ?_;refine Lb 0 sg82 .here ?_;refine cfa 27 ?_;exact rt1 ⟨rfl, trivial⟩ ⟨.inr ⟨rfl, fun h => g0 (by cases h; rfl)⟩, rfl⟩
 by_cases g1 : n = n'
 rotate_left
 ·refine tr 2 ?_;refine Bx 0 rfl fun b1 => ?_;refine Bx 0 rfl fun b2 => ?_;refine Bx 6 rfl fun b3 => ?_;refine Lb 1 sg82 .h1 ?_;refine Lb 0 sg82 .here ?_;refine cta 2 ?_;refine Lb 1 sg3 .h1 ?_;refine Lb 0 sg3 .here ?_;refine cfa 21 ?_;exact rt1 ⟨rfl, trivial⟩ ⟨.inr ⟨rfl, fun h => g1 (by cases h; rfl)⟩, rfl⟩
 by_cases g2 : who = who'
 rotate_left
 ·refine tr 2 ?_;refine Bx 0 rfl fun b1 => ?_;refine Bx 0 rfl fun b2 => ?_;refine Bx 6 rfl fun b3 => ?_;refine Lb 1 sg82 .h1 ?_;refine Lb 0 sg82 .here ?_;refine cta 2 ?_;refine Lb 1 sg3 .h1 ?_;refine Lb 0 sg3 .here ?_;refine cta 3 ?_;refine Lb 1 sg82 .h1 ?_;refine Lb 0 sg82 .here ?_;refine cfa 14 ?_;exact rt1 ⟨rfl, trivial⟩ ⟨.inr ⟨rfl, fun h => g2 (by cases h; rfl)⟩, rfl⟩
 refine tr 2 ?_;refine Bx 0 rfl fun b1 => ?_;refine Bx 0 rfl fun b2 => ?_;refine Bx 6 rfl fun b3 => ?_;refine Lb 1 sg82 .h1 ?_;refine Lb 0 sg82 .here ?_;refine cta 2 ?_;refine Lb 1 sg3 .h1 ?_;refine Lb 0 sg3 .here ?_;refine cta 3 ?_;refine Lb 1 sg82 .h1 ?_;refine Lb 0 sg82 .here ?_;refine cta 3 ?_;refine Lb 1 sg83 .h1 ?_;refine Lb 0 sg83 .here ?_;refine Lc 1 ag50 .h2 ?_
 refine zE ((zW cl108 rfl (fun m' hm he => eqf108 (R := fun a b => a = b) (hr.mono (hm0.trans hm)) hv (hr'.mono (hm0.trans hm)) hv' hmx hmx' (fun i h => formN (hkk i h)) (fun i h => formN (hkk' i h)) fun i h h' m2 hm2 => ih i h (hkk' i h') m2 ((hm0.trans hm).trans hm2)) rfl ?_)) rfl;rintro _ _ ⟨⟨rfl, q1⟩ | ⟨rfl, hq⟩, rfl⟩
 rotate_left
 ·refine vr 5 ?_;exact rt1 ⟨rfl, trivial⟩ ⟨.inr ⟨rfl, fun h => hq (by cases h; exact kF rfl)⟩, rfl⟩
 refine vr 5 ?_;exact rt1 ⟨rfl, trivial⟩ ⟨.inl ⟨rfl, by rw [g0, g1, g2, kU q1]⟩, rfl⟩
theorem nums108 {A A' : Option Addr} {c c' : Nat} {l l' : List NumT} {vs us : List Value} (hr : Rd m A vs) (hv : vs.length = l.length * 4) (hr' : Rd m A' us) (hv' : us.length = l'.length * 4) (hl : l.length ≤ 9223372036854775807) (hl' : l'.length ≤ 9223372036854775807)
  (hx : ∀ (i : Nat) (h : i < l.length), NumR m ((vs.drop (i * 4)).take 4) l[i]) (hy : ∀ (i : Nat) (h : i < l'.length), NumR m ((us.drop (i * 4)).take 4) l'[i]) : CS Tryz.prog 108 [.slice A l.length c, .slice A' l'.length c', cmpF 67] m [] (SameV (l = l')) := by
 refine (eqf108 (R := fun a b => a = b) hr hv hr' hv' hl hl' (fun i h => formN (hx i h)) (fun i h => formN (hy i h)) fun i h h' m2 hm2 => num67 (hx i h) (hy i h') m2 hm2).mono ?_;rintro v L' ⟨⟨rfl, h⟩ | ⟨rfl, h⟩, rfl⟩
 ·exact ⟨.inl ⟨rfl, kU h⟩, rfl⟩
 ·exact ⟨.inr ⟨rfl, fun e => h (kF e)⟩, rfl⟩
theorem cond68 {xs : List Value} {x : CondT} (hx : CondR m xs x) : ∀ {ys : List Value} {y : CondT}, CondR m ys y → ∀ m0, Le m m0 → CS Tryz.prog 68 [cmpV, .agg xs.toArray, .agg ys.toArray] m0 [] (SameV (x = y)) := by
 induction hx with
 | @mk op who name nums kids A B la ca lb cb vs ws ho hw hn hla hma hra hva hka hlb hmb hrb hvb hkb ih =>
 subst hla hlb;intro ys y hy;cases hy with
 | @mk op' who' name' nums' kids' A' B' la' ca' lb' cb' vs' ws' ho' hw' hn' hla' hma' hra' hva' hka' hlb' hmb' hrb' hvb' hkb' =>
 subst hla' hlb';intro m0 hm0;have hma : nums.length ≤ 9223372036854775807 := hma;have hma' : nums'.length ≤ 9223372036854775807 := hma';have hmb : kids.length ≤ 9223372036854775807 := hmb;have hmb' : kids'.length ≤ 9223372036854775807 := hmb';refine zl [.tmp 6] Tryz.func68 rfl rfl rfl ?_;by_cases g0 : op = op'
 rotate_left
 ·refine tr 2 ?_;refine Bx 0 rfl fun b1 => ?_;refine Bx 0 rfl fun b2 => ?_;refine Bx 6 rfl fun b3 => ?_;refine Lb 1 sg82 .h1 ?_;refine Lb 0 sg82 .here ?_;refine cfa 36 ?_;exact rt1 ⟨rfl, trivial⟩ ⟨.inr ⟨rfl, fun h => g0 (by cases h; rfl)⟩, rfl⟩
 by_cases g1 : who = who'
 rotate_left
 ·refine tr 2 ?_;refine Bx 0 rfl fun b1 => ?_;refine Bx 0 rfl fun b2 => ?_;refine Bx 6 rfl fun b3 => ?_;refine Lb 1 sg82 .h1 ?_;refine Lb 0 sg82 .here ?_;refine cta 2 ?_;refine Lb 1 sg82 .h1 ?_;refine Lb 0 sg82 .here ?_;refine cfa 30 ?_;exact rt1 ⟨rfl, trivial⟩ ⟨.inr ⟨rfl, fun h => g1 (by cases h; rfl)⟩, rfl⟩
 by_cases g2 : name = name'
 rotate_left
 ·refine tr 2 ?_;refine Bx 0 rfl fun b1 => ?_;refine Bx 0 rfl fun b2 => ?_;refine Bx 6 rfl fun b3 => ?_;refine Lb 1 sg82 .h1 ?_;refine Lb 0 sg82 .here ?_;refine cta 2 ?_;refine Lb 1 sg82 .h1 ?_;refine Lb 0 sg82 .here ?_;refine cta 3 ?_;refine Lb 1 sg9 .h1 ?_;refine Lb 0 sg9 .here ?_;refine cfa 23 ?_;exact rt1 ⟨rfl, trivial⟩ ⟨.inr ⟨rfl, fun h => g2 (by cases h; rfl)⟩, rfl⟩
 refine tr 2 ?_;refine Bx 0 rfl fun b1 => ?_;refine Bx 0 rfl fun b2 => ?_;refine Bx 6 rfl fun b3 => ?_;refine Lb 1 sg82 .h1 ?_;refine Lb 0 sg82 .here ?_;refine cta 2 ?_;refine Lb 1 sg82 .h1 ?_;refine Lb 0 sg82 .here ?_;refine cta 3 ?_;refine Lb 1 sg9 .h1 ?_;refine Lb 0 sg9 .here ?_;refine cta 3 ?_;refine Lb 1 sg83 .h1 ?_;refine Lb 0 sg83 .here ?_;refine Lc 1 ag50 .h2 ?_
 refine zE ((zW cl108 rfl (fun m' hm he => nums108 (hra.mono (hm0.trans hm)) hva (hra'.mono (hm0.trans hm)) hva' hma hma' (fun i h => (hka i h).mono (hm0.trans hm)) fun i h => (hka' i h).mono (hm0.trans hm)) rfl ?_)) rfl;rintro _ _ ⟨⟨rfl, q1⟩ | ⟨rfl, hq⟩, rfl⟩
 rotate_left
 ·refine vr 14 ?_;exact rt1 ⟨rfl, trivial⟩ ⟨.inr ⟨rfl, fun h => hq (by cases h; rfl)⟩, rfl⟩
 refine vr 3 ?_;refine Lb 1 sg86 .h1 ?_;refine Lb 0 sg86 .here ?_;refine Lc 1 ag50 .h2 ?_;refine zE ((zW cl109 rfl (fun m' hm he => eqf109 (R := fun a b => a = b) (hrb.mono (hm0.trans hm)) hvb (hrb'.mono (hm0.trans hm)) hvb' hmb hmb' (fun i h => formC (hkb i h)) (fun i h => formC (hkb' i h)) fun i h h' m2 hm2 => ih i h (hkb' i h') m2 ((hm0.trans hm).trans hm2)) rfl ?_)) rfl
 rintro _ _ ⟨⟨rfl, q2⟩ | ⟨rfl, hq⟩, rfl⟩
 rotate_left
 ·refine vr 5 ?_;exact rt1 ⟨rfl, trivial⟩ ⟨.inr ⟨rfl, fun h => hq (by cases h; exact kF rfl)⟩, rfl⟩
 refine vr 5 ?_;exact rt1 ⟨rfl, trivial⟩ ⟨.inl ⟨rfl, by rw [g0, g1, g2, q1, kU q2]⟩, rfl⟩
def BE (l : List EffT) : Prop := ∀ (m : Mp) (A : Option Addr) (c : Nat) (l2 : List EffT) (A2 : Option Addr) (c2 : Nat), EffsR m A l.length l → EffsR m A2 l2.length l2 → CS Tryz.prog 43 [.slice A l.length c, .slice A2 l2.length c2, cmpF 44] m [] (SameV (l = l2))
theorem eff44 {xs ys : List Value} {op who : Int} {n : NumT} {name : List UInt8} {c : CondT} {a e : List EffT} {y : EffT} (hx : EffR m xs (.mk op who n name c a e)) (hy : EffR m ys y) (kA : BE a) (kE : BE e) : CS Tryz.prog 44 [cmpV, .agg xs.toArray, .agg ys.toArray] m [] (SameV (EffT.mk op who n name c a e = y)) := by
 obtain ⟨op, who, nop, nn, nwho, nA, nlen, nc, name, cop, cwho, cname, cA, cla, cca, cB, clb, ccb, TA, la, ca, EB, lb, cb, n, cond, thn, els, rfl, hmk, -, hn, hc, hthn, hels⟩ := EffR.parts hx
 obtain ⟨op', who', nop', nn', nwho', nA', nlen', nc', name', cop', cwho', cname', cA', cla', cca', cB', clb', ccb', TA', la', ca', EB', lb', cb', n', cond', thn', els', rfl, rfl, -, hn', hc', hthn', hels'⟩ := EffR.parts hy;cases hmk;have e1 := hthn.1;have e2 := hels.1;have e3 := hthn'.1;have e4 := hels'.1;subst e1 e2 e3 e4;clear hx hy;refine zl [.tmp 6] Tryz.func44 rfl rfl rfl ?_
 by_cases g0 : op = op'
 rotate_left
 ·refine tr 2 ?_;refine Bx 0 rfl fun b1 => ?_;refine Bx 0 rfl fun b2 => ?_;refine Bx 6 rfl fun b3 => ?_;refine Lb 1 sg82 .h1 ?_;refine Lb 0 sg82 .here ?_;refine cfa 52 ?_;exact rt1 ⟨rfl, trivial⟩ ⟨.inr ⟨rfl, fun h => g0 (by cases h; rfl)⟩, rfl⟩
 by_cases g1 : who = who'
 rotate_left
 ·refine tr 2 ?_;refine Bx 0 rfl fun b1 => ?_;refine Bx 0 rfl fun b2 => ?_;refine Bx 6 rfl fun b3 => ?_;refine Lb 1 sg82 .h1 ?_;refine Lb 0 sg82 .here ?_;refine cta 2 ?_;refine Lb 1 sg82 .h1 ?_;refine Lb 0 sg82 .here ?_;refine cfa 46 ?_;exact rt1 ⟨rfl, trivial⟩ ⟨.inr ⟨rfl, fun h => g1 (by cases h; rfl)⟩, rfl⟩
 by_cases g2 : name = name'
 rotate_left
 ·refine tr 2 ?_;refine Bx 0 rfl fun b1 => ?_;refine Bx 0 rfl fun b2 => ?_;refine Bx 6 rfl fun b3 => ?_;refine Lb 1 sg82 .h1 ?_;refine Lb 0 sg82 .here ?_;refine cta 2 ?_;refine Lb 1 sg82 .h1 ?_;refine Lb 0 sg82 .here ?_;refine cta 3 ?_;refine Lb 1 sg9 .h1 ?_;refine Lb 0 sg9 .here ?_;refine cfa 39 ?_;exact rt1 ⟨rfl, trivial⟩ ⟨.inr ⟨rfl, fun h => g2 (by cases h; rfl)⟩, rfl⟩
 refine tr 2 ?_;refine Bx 0 rfl fun b1 => ?_;refine Bx 0 rfl fun b2 => ?_;refine Bx 6 rfl fun b3 => ?_;refine Lb 1 sg82 .h1 ?_;refine Lb 0 sg82 .here ?_;refine cta 2 ?_;refine Lb 1 sg82 .h1 ?_;refine Lb 0 sg82 .here ?_;refine cta 3 ?_;refine Lb 1 sg9 .h1 ?_;refine Lb 0 sg9 .here ?_;refine cta 2 ?_;refine Lc 1 ag50 .h2 ?_;refine lr 1 (uu ag85 rfl .h1 rfl) ?_
 refine lr 0 (uu ag85 rfl .here rfl) ?_;refine zE ((zW cl67 rfl (fun m' hm he => num67 hn hn' m' hm) rfl ?_)) rfl;rintro _ _ ⟨⟨rfl, q1⟩ | ⟨rfl, hq⟩, rfl⟩
 rotate_left
 ·refine vr 31 ?_;exact rt1 ⟨rfl, trivial⟩ ⟨.inr ⟨rfl, fun h => hq (by cases h; rfl)⟩, rfl⟩
 refine vr 2 ?_;refine Lc 1 ag50 .h2 ?_;refine lr 1 (uu ag88 rfl .h1 rfl) ?_;refine lr 0 (uu ag88 rfl .here rfl) ?_;refine zE ((zW cl68 rfl (fun m' hm he => cond68 hc hc' m' hm) rfl ?_)) rfl;rintro _ _ ⟨⟨rfl, q2⟩ | ⟨rfl, hq⟩, rfl⟩
 rotate_left
 ·refine vr 23 ?_;exact rt1 ⟨rfl, trivial⟩ ⟨.inr ⟨rfl, fun h => hq (by cases h; rfl)⟩, rfl⟩
 refine vr 3 ?_;refine Lb 1 sg46 .h1 ?_;refine Lb 0 sg46 .here ?_;refine Lc 1 ag50 .h2 ?_;refine zE ((zW cl43 rfl (fun m' hm he => kA m' TA ca thn' TA' ca' (hthn.mono hm) (hthn'.mono hm)) rfl ?_)) rfl;rintro _ _ ⟨⟨rfl, q3⟩ | ⟨rfl, hq⟩, rfl⟩
 rotate_left
 ·refine vr 14 ?_;exact rt1 ⟨rfl, trivial⟩ ⟨.inr ⟨rfl, fun h => hq (by cases h; rfl)⟩, rfl⟩
 refine vr 3 ?_;refine Lb 1 sg46 .h1 ?_;refine Lb 0 sg46 .here ?_;refine Lc 1 ag50 .h2 ?_;refine zE ((zW cl43 rfl (fun m' hm he => kE m' EB cb els' EB' cb' (hels.mono hm) (hels'.mono hm)) rfl ?_)) rfl;rintro _ _ ⟨⟨rfl, q4⟩ | ⟨rfl, hq⟩, rfl⟩
 rotate_left
 ·refine vr 5 ?_;exact rt1 ⟨rfl, trivial⟩ ⟨.inr ⟨rfl, fun h => hq (by cases h; rfl)⟩, rfl⟩
 refine vr 5 ?_;exact rt1 ⟨rfl, trivial⟩ ⟨.inl ⟨rfl, by rw [g0, g1, g2, q1, q2, q3, q4]⟩, rfl⟩
theorem bE_step {l : List EffT} (ih : ∀ (i : Nat) (h : i < l.length) (op who : Int) (n : NumT) (name : List UInt8) (c : CondT) (a e : List EffT), l[i] = .mk op who n name c a e → BE a ∧ BE e) : BE l := by
 rintro m A c l2 A2 c2 ⟨-, hml, vs, hrd, hvl, hel⟩ ⟨-, hml2, us, hrd2, hul, hel2⟩;refine (eqf43 (R := fun a b => a = b) hrd hvl hrd2 hul hml hml2 (fun i h => formE (hel i h)) (fun i h => formE (hel2 i h)) fun i h h' m2 hm2 => ?_).mono ?_
 ·have hx := (hel i h).mono hm2;have hih := ih i h;generalize l[i] = x at hx hih;cases x with
  | mk op who n name c a e =>
  obtain ⟨ha, he⟩ := hih _ _ _ _ _ _ _ rfl;exact eff44 hx ((hel2 i h').mono hm2) ha he
 ·rintro v L' ⟨⟨rfl, h⟩ | ⟨rfl, h⟩, rfl⟩
  ·exact ⟨.inl ⟨rfl, kU h⟩, rfl⟩
  ·exact ⟨.inr ⟨rfl, fun e => h (kF e)⟩, rfl⟩
theorem bE (l : List EffT) : BE l := bE_step fun i h op who n name c a e he => ⟨bE a, bE e⟩
termination_by SizeOf.sizeOf l
decreasing_by
 all_goals
  have h1 := List.sizeOf_lt_of_mem (List.getElem_mem h);rw [he] at h1;simp only [EffT.mk.sizeOf_spec] at h1;omega
end
section
open Wd
abbrev Gives (w : Value) : Value → List Ent → Prop := fun v L' => v = w ∧ L' = []
theorem va {m : Mp} (x : Nat) : CS Tryz.prog 71 [.int .i32 x] m [] (Gives (.bool (letterP x))) := by
 refine zl [.tmp 2] Tryz.func71 rfl rfl rfl ?_;refine tr 11 ?_;refine xF (xd rfl rfl) rfl rfl rfl (fun hc1 => ?_) (fun hc1 => ?_);refine vr 2 ?_;refine xF (qY rfl rfl) rfl rfl rfl (fun hc2 => ?_) (fun hc2 => ?_);refine vr 16 ?_
 (exact rt1 ⟨rfl, trivial⟩ ⟨congrArg Value.bool (by simp [letterP] <;> omega), rfl⟩)
 refine vr 7 ?_;refine cto 2 ?_;refine cfo 9 ?_;refine xF (zz rfl rfl) rfl rfl rfl (fun hc3 => ?_) (fun hc3 => ?_);refine vr 15 ?_
 (exact rt1 ⟨rfl, trivial⟩ ⟨congrArg Value.bool (by simp [letterP] <;> omega), rfl⟩)
 refine vr 6 ?_;refine xF (zz rfl rfl) rfl rfl rfl (fun hc4 => ?_) (fun hc4 => ?_);refine vr 12 ?_
 (exact rt1 ⟨rfl, trivial⟩ ⟨congrArg Value.bool (by simp [letterP] <;> omega), rfl⟩)
 refine vr 10 ?_;refine xF (xd rfl rfl) rfl rfl rfl (fun hc5 => ?_) (fun hc5 => ?_);refine vr 2 ?_;refine xF (qY rfl rfl) rfl rfl rfl (fun hc6 => ?_) (fun hc6 => ?_);refine vr 5 ?_
 (exact rt1 ⟨rfl, trivial⟩ ⟨congrArg Value.bool (by simp [letterP] <;> omega), rfl⟩)
 refine vr 5 ?_
 (exact rt1 ⟨rfl, trivial⟩ ⟨congrArg Value.bool (by simp [letterP] <;> omega), rfl⟩)
 refine vr 8 ?_
 (exact rt1 ⟨rfl, trivial⟩ ⟨congrArg Value.bool (by simp [letterP] <;> omega), rfl⟩)
 refine vr 10 ?_;refine xF (xd rfl rfl) rfl rfl rfl (fun hc2 => ?_) (fun hc2 => ?_);refine vr 2 ?_;refine xF (qY rfl rfl) rfl rfl rfl (fun hc3 => ?_) (fun hc3 => ?_);refine vr 13 ?_
 (exact rt1 ⟨rfl, trivial⟩ ⟨congrArg Value.bool (by simp [letterP] <;> omega), rfl⟩)
 refine vr 9 ?_;refine cfo 6 ?_;refine cfo 10 ?_;refine cfo 8 ?_
 (exact rt1 ⟨rfl, trivial⟩ ⟨congrArg Value.bool (by simp [letterP] <;> omega), rfl⟩)
 refine vr 12 ?_;refine cfo 6 ?_;refine cfo 10 ?_;refine cfo 8 ?_
 (exact rt1 ⟨rfl, trivial⟩ ⟨congrArg Value.bool (by simp [letterP] <;> omega), rfl⟩)
theorem wH {m : Mp} (x : Nat) : CS Tryz.prog 73 [.int .i32 x] m [] (Gives (.bool (digitP x))) := by
 refine zl [.tmp 2] Tryz.func73 rfl rfl rfl ?_;refine tr 8 ?_;refine xF (xd rfl rfl) rfl rfl rfl (fun hc1 => ?_) (fun hc1 => ?_);refine vr 2 ?_;refine xF (qY rfl rfl) rfl rfl rfl (fun hc2 => ?_) (fun hc2 => ?_);refine vr 5 ?_
 (exact rt1 ⟨rfl, trivial⟩ ⟨congrArg Value.bool (by simp [digitP] <;> omega), rfl⟩)
 refine vr 5 ?_
 (exact rt1 ⟨rfl, trivial⟩ ⟨congrArg Value.bool (by simp [digitP] <;> omega), rfl⟩)
 refine vr 8 ?_
 (exact rt1 ⟨rfl, trivial⟩ ⟨congrArg Value.bool (by simp [digitP] <;> omega), rfl⟩)
end
section
open Wd
def pairV (r : Nat × Nat) : Value := .tuple [.int .i64 r.1, .int .i64 r.2].toArray
inductive Cls : Nat → Nat → Nat → Nat → Prop
 | one {b : Nat} (h : b < 128) : Cls b 1 b 0
 | two {b : Nat} (h : b / 32 = 6) : Cls b 2 (b % 32) 128
 | three {b : Nat} (h : b / 16 = 14) : Cls b 3 (b % 16) 2048
 | four {b : Nat} (h : b / 8 = 30) : Cls b 4 (b % 8) 65536
end
section
open Wd
theorem kL {t : List UInt8} {i n : Nat} (h : ¬ i < t.length) : lengthGo t i n = (t.length, n) := by rw [lengthGo, if_neg h]
theorem ZO {t : List UInt8} {i n : Nat} (h : i < t.length) : lengthGo t i n = if stopP (dec t i).1 (i == 0) then (i, n) else lengthGo t (i + (dec t i).2) (n + 1) := by rw [lengthGo, if_pos h]
theorem WH {t : List UInt8} {i : Nat} (h : i < t.length) : i + (dec t i).2 ≤ t.length := by
 unfold dec;cases hr : rn t i with
 | none => simp; omega
 | some r => obtain ⟨x, k⟩ := r; have := yf hr; simp; omega
theorem u5 {m : Mp} {t : List UInt8} (hs : t.length ≤ 140737488355328) : CS Tryz.prog 72 [.string (bs t)] m [] (Gives (pairV (lengthGo t 0 0))) := by
 refine zl [.tmp 2, .tmp 3] Tryz.func72 rfl rfl rfl ?_;refine tr 10 ?_;refine zE (qm st9 rfl rfl (fun b1 => ?_)) rfl;refine vr 3 ?_
 refine zZ (fun y : Nat × Nat => [(0, .string (bs t)), (7, .pointer (some ⟨b1, 0, none⟩)), (3, .int .i64 (y.2 : Nat))]) (fun y => [iter b1 t y.1]) (fun y => y.1 ≤ t.length ∧ y.2 ≤ y.1 ∧ lengthGo t y.1 y.2 = lengthGo t 0 0) (fun y => t.length - y.1) (0, 0)
  ⟨rfl, rfl, rfl, trivial⟩ (Pick.refl _) ⟨Nat.zero_le _, Nat.zero_le _, rfl⟩ ?_
 rintro ⟨i, n⟩ ⟨hq, hnq, he⟩;simp only at hq hnq he ⊢;by_cases hlt : i < t.length
 ·rw [ZO hlt] at he;have hp := ve t i;have hl2 := WH hlt;have hdq := we t i;refine tr 2 ?_;refine zE (ut rfl (by first | assumption | omega) (by assumption) .here rfl ?_) rfl;refine vr 20 ?_;generalize dec t i = r at *;obtain ⟨x, k⟩ := r;simp only at hp hl2 he ⊢;refine Cr cl71 rfl (fun m' hm he => (va x)) ?_;rintro _ rfl;cases hl : letterP x with
  | true =>
    rw [if_neg (by simp [stopP, hl])] at he;refine vr 21 ?_;refine Pa 3 ?_;exact QR (i + k, n + 1) (Pick.refl _) ⟨by simp only; omega, by simp only; omega, he⟩ (by simp only; omega)
  | false =>
    by_cases hn0 : i = 0
    ·rw [if_pos (by simp [stopP, hl, hn0])] at he;refine vr 3 ?_;refine cto 24 ?_;refine zI ?_;refine zH ?_;refine zL ?_;exact zb [_, _] ⟨rfl, rfl, trivial⟩ [] (Pick.nil _) ⟨by rw [← he]; rfl, rfl⟩
    ·refine vr 3 ?_;refine cfo 2 ?_;refine Cr cl73 rfl (fun m' hm he => (wH x)) ?_;rintro _ rfl;cases hd : digitP x with
     | true =>
       rw [if_neg (by simp [stopP, hl, hd, hn0])] at he;refine vr 14 ?_;refine Pa 3 ?_;exact QR (i + k, n + 1) (Pick.refl _) ⟨by simp only; omega, by simp only; omega, he⟩ (by simp only; omega)
     | false =>
       by_cases h39 : x = 39
       ·rw [if_neg (by simp [stopP, hl, hd, hn0, h39])] at he;refine vr 3 ?_;refine cfo 10 ?_;refine Pa 3 ?_;exact QR (i + k, n + 1) (Pick.refl _) ⟨by simp only; omega, by simp only; omega, he⟩ (by simp only; omega)
       ·rw [if_pos (by simp [stopP, hl, hd, hn0, h39])] at he;refine vr 3 ?_;refine cto 17 ?_;refine zI ?_;refine zH ?_;refine zL ?_;exact zb [_, _] ⟨rfl, rfl, trivial⟩ [] (Pick.nil _) ⟨by rw [← he]; rfl, rfl⟩
 ·rw [kL hlt] at he;refine tr 2 ?_;refine zE (qK rfl (by first | assumption | omega) .here rfl ?_) rfl;refine vr 7 ?_;refine zG ?_;refine zF ?_;refine qt 4 ?_;refine pe 6 (zq rfl st9) ?_;exact zb [_, _] ⟨rfl, rfl, trivial⟩ [] (Pick.nil _) ⟨by rw [← he]; rfl, rfl⟩
theorem ZQ {s t : List UInt8} (h : t.length ≤ s.length) : decide (s.take t.length = t) = t.isPrefixOf s := by
 rw [Bool.eq_iff_iff, decide_eq_true_eq, List.isPrefixOf_iff_prefix, List.prefix_iff_eq_take];exact ⟨fun h => h.symm, fun h => h.symm⟩
theorem notPrefix {s t : List UInt8} (h : ¬ t.length ≤ s.length) : t.isPrefixOf s = false := by
 cases hp : t.isPrefixOf s with
 | false => rfl
 | true => exact absurd (List.IsPrefix.length_le (List.isPrefixOf_iff_prefix.1 hp)) h
theorem jX {m : Mp} {s t : List UInt8} : CS Tryz.prog 138 [.string (bs s), .string (bs t)] m [] (Gives (.bool (t.isPrefixOf s))) := by
 refine zl [.tmp 4] Tryz.func138 rfl rfl rfl ?_;by_cases h : t.length ≤ s.length
 ·rw [← ZQ h];refine tr 8 ?_;refine pe 1 (zq rfl st9) ?_;refine pe 0 (zq rfl st9) ?_;refine cto 3 ?_;refine pe 0 (zq rfl st9) ?_;refine pe 1 (YM _ st9 rfl rfl rfl (by omega)) ?_;refine pe 5 ((qL rfl rfl)) ?_;exact rt1 ⟨rfl, trivial⟩ ⟨rfl, rfl⟩
 ·rw [notPrefix h];refine tr 8 ?_;refine pe 1 (zq rfl st9) ?_;refine pe 0 (zq rfl st9) ?_;refine cfo 12 ?_;exact rt1 ⟨rfl, trivial⟩ ⟨rfl, rfl⟩
theorem kN {m : Mp} {s t : List UInt8} : CS Tryz.prog 113 [.string (bs s), .string (bs t)] m [] (Gives (.bool (t.isPrefixOf s))) := by
 refine zl [.tmp 4] Tryz.func113 rfl rfl rfl ?_;refine tr 9 ?_;refine Cr cl138 rfl (fun m' hm he => jX) ?_;rintro _ rfl;refine vr 4 ?_;exact rt1 ⟨rfl, trivial⟩ ⟨rfl, rfl⟩
def strV (s : List UInt8) : Value := .string (bs s)
theorem Z6 {t : List UInt8} {i : Nat} (h : i < marks.length) : (marks.drop i).find? (·.isPrefixOf t) = if marks[i].isPrefixOf t then some marks[i] else (marks.drop (i + 1)).find? (·.isPrefixOf t) := by
 rw [List.drop_eq_getElem_cons h, List.find?_cons]
 split <;> simp [*]
theorem mark_at {i : Nat} (h : i < marks.length) : vnth (marks.map strV) (((i : Nat) : Int).toNat * 1) = some (strV marks[i]) := by
 rw [← vU]
 simp [h]
theorem mark_ok {m : Mp} {t : List UInt8} : CS Tryz.prog 74 [.string (bs t)] m [] (Gives (strV ((markP t).getD []))) := by
 refine zl [.tmp 2] Tryz.func74 rfl rfl rfl ?_;refine tr 8 ?_;refine pe 4 (yr ar164 zl164 rfl rfl) ?_
 refine zZ (fun i : Nat => [(0, .string (bs t)), (5, .agg (marks.map strV).toArray), (6, .int .i64 (i : Nat))]) (fun _ => []) (fun i => i ≤ 13 ∧ markP t = (marks.drop i).find? (·.isPrefixOf t)) (fun i => 13 - i) 0
  ⟨rfl, rfl, rfl, trivial⟩ (Pick.refl _) ⟨Nat.zero_le _, rfl⟩ ?_
 rintro i ⟨hi, he⟩;by_cases hlt : i < 13
 ·have hl : i < marks.length := hlt;have hm := mark_at hl;rw [Z6 hl] at he;refine tr 2 ?_;refine cto 10 ?_;refine pe 7 ((ya ar164 ars164 rfl rfl (by omega) (by omega) hm)) ?_;refine Cr cl113 rfl (fun m' hm he => kN) ?_;rintro _ rfl;cases hp : (marks[i]'hl).isPrefixOf t with
  | true =>
    rw [hp, if_pos rfl] at he;refine vr 12 ?_;refine zI ?_;refine zH ?_;refine zL ?_;exact rt1 ⟨rfl, trivial⟩ ⟨by rw [he]; rfl, rfl⟩
  | false =>
    rw [hp, if_neg (by simp)] at he;refine vr 7 ?_;refine Pa 2 ?_;exact QR (i + 1) (Pick.refl _) ⟨by omega, he⟩ (by omega)
 ·have : i = 13 := by omega
  subst this;refine tr 2 ?_;refine cfo 6 ?_;refine zG ?_;refine zF ?_;refine qt 7 ?_;exact rt1 ⟨rfl, trivial⟩ ⟨by rw [he]; rfl, rfl⟩
end
end Go.Proofs.YtgohljjedlpccaaGreatDoor
namespace Go.Proofs
open Go.Shelf
def Tryz.laysM157_ren : Go.Shelf.Ren := ⟨fun | 157 => 146 | 229 => 162 | 199 => 163 | 261 => 176 | 311 => 182 | 312 => 183 | n => n, fun | 9 => 9 | 31 => 38 | 3 => 3 | 5 => 5 | 4 => 4 | 119 => 190 | 0 => 0 | 40 => 133 | 152 => 237 | 21 => 21 | 154 => 239 | 51 => 231 | 141 => 241 | 196 => 248 | 193 => 245 | 198 => 251 | 49 => 249 | 194 => 246 | 201 => 254 | 226 => 258 | 46 => 191 | 227 => 259 | n => n, fun | 0 => 2 | 6 => 5 | n => n⟩
theorem Tryz.laysM157 : Go.Proofs.LaysM.n157 Tryz.prog Tryz.laysM157_ren := {
 mixed := by kernel_rfl
 f157 := Tryz.func146.trans (congrArg some (by kernel_rfl))
 f199 := Tryz.func163.trans (congrArg some (by kernel_rfl))
 f229 := Tryz.func162.trans (congrArg some (by kernel_rfl))
 f261 := Tryz.func176.trans (congrArg some (by kernel_rfl))
 f311 := Tryz.func182.trans (congrArg some (by kernel_rfl))
 f312 := Tryz.func183.trans (congrArg some (by kernel_rfl))
 t0 := Tryz.underlying0
 a0 := Tryz.isAgg0
 z0 := Tryz.sizeOf0
 v0 := Tryz.zeroValue0
 t3 := Tryz.underlying3
 a3 := Tryz.isAgg3
 z3 := Tryz.sizeOf3
 v3 := Tryz.zeroValue3
 t4 := Tryz.underlying4
 a4 := Tryz.isAgg4
 z4 := Tryz.sizeOf4
 v4 := Tryz.zeroValue4
 t5 := Tryz.underlying5
 a5 := Tryz.isAgg5
 z5 := Tryz.sizeOf5
 v5 := Tryz.zeroValue5
 t9 := Tryz.underlying9
 a9 := Tryz.isAgg9
 z9 := Tryz.sizeOf9
 v9 := Tryz.zeroValue9
 t21 := Tryz.underlying21
 a21 := Tryz.isAgg21
 z21 := Tryz.sizeOf21
 v21 := Tryz.zeroValue21
 t31 := Tryz.underlying38
 a31 := Tryz.isAgg38
 z31 := Tryz.sizeOf38
 v31 := Tryz.zeroValue38
 t40 := Tryz.underlying133
 a40 := Tryz.isAgg133
 z40 := Tryz.sizeOf133
 v40 := Tryz.zeroValue133
 t46 := Tryz.underlying191
 a46 := Tryz.isAgg191
 z46 := Tryz.sizeOf191
 v46 := Tryz.zeroValue191
 t49 := Tryz.underlying249
 a49 := Tryz.isAgg249
 z49 := Tryz.sizeOf249
 v49 := Tryz.zeroValue249
 t51 := Tryz.underlying231
 a51 := Tryz.isAgg231
 z51 := Tryz.sizeOf231
 v51 := Tryz.zeroValue231
 t119 := Tryz.underlying190
 a119 := Tryz.isAgg190
 z119 := Tryz.sizeOf190
 t141 := Tryz.underlying241
 a141 := Tryz.isAgg241
 z141 := Tryz.sizeOf241
 v141 := Tryz.zeroValue241
 t152 := Tryz.underlying237
 a152 := Tryz.isAgg237
 z152 := Tryz.sizeOf237
 v152 := Tryz.zeroValue237
 t154 := Tryz.underlying239
 a154 := Tryz.isAgg239
 z154 := Tryz.sizeOf239
 v154 := Tryz.zeroValue239
 t193 := Tryz.underlying245
 a193 := Tryz.isAgg245
 z193 := Tryz.sizeOf245
 v193 := Tryz.zeroValue245
 t194 := Tryz.underlying246
 a194 := Tryz.isAgg246
 z194 := Tryz.sizeOf246
 v194 := Tryz.zeroValue246
 t196 := Tryz.underlying248
 a196 := Tryz.isAgg248
 z196 := Tryz.sizeOf248
 v196 := Tryz.zeroValue248
 t198 := Tryz.underlying251
 a198 := Tryz.isAgg251
 z198 := Tryz.sizeOf251
 v198 := Tryz.zeroValue251
 t201 := Tryz.underlying254
 a201 := Tryz.isAgg254
 z201 := Tryz.sizeOf254
 v201 := Tryz.zeroValue254
 t226 := Tryz.underlying258
 a226 := Tryz.isAgg258
 z226 := Tryz.sizeOf258
 v226 := Tryz.zeroValue258
 t227 := Tryz.underlying259
 a227 := Tryz.isAgg259
 z227 := Tryz.sizeOf259
 v227 := Tryz.zeroValue259
 g0 := by kernel_rfl
 g6 := by kernel_rfl
 i0 := by kernel_rfl
 i3 := by kernel_rfl
 i4 := by kernel_rfl
 i5 := by kernel_rfl
 i9 := by kernel_rfl
 i21 := by kernel_rfl
 i31 := by kernel_rfl
 i40 := by kernel_rfl
 i46 := by kernel_rfl
 i49 := by kernel_rfl
 i51 := by kernel_rfl
 i141 := by kernel_rfl
 i152 := by kernel_rfl
 i154 := by kernel_rfl
 i193 := by kernel_rfl
 i194 := by kernel_rfl
 i196 := by kernel_rfl
 i198 := by kernel_rfl
 i201 := by kernel_rfl
 i226 := by kernel_rfl
 i227 := by kernel_rfl
 m0 := by kernel_rfl
 m6 := by kernel_rfl }
open Go.RowKit Go.Lib in
theorem Tryz.strings_Fields_laid (s : ByteArray) (w : World) (hs : s.size < 4294967281) (hascii : ∀ (j : Nat) b, s.data.toList[j]? = some b → b.toNat < 128) (htab : Lib.TabIs Tryz.prog w "strings.asciiSpace" .u8 Lib.asciiSpaceTab) :
  Calls Tryz.prog 146 #[.string s] w fun e w' =>
   e = .returned (.slice (some ⟨w.heap.size, 0, none⟩) (Lib.fields s.data.toList).length (Lib.fields s.data.toList).length) ∧ w' = w.alloc (.cells ((Lib.fields s.data.toList).map fun l => Value.string ⟨l.toArray⟩).toArray 9) := Any.strings_Fields_laid Tryz.laysM157 s w hs hascii htab
def Tryz.lays197_ren : Go.Shelf.Ren := ⟨fun | 197 => 70 | 260 => 112 | n => n, fun | 9 => 9 | 21 => 21 | 3 => 3 | 4 => 4 | 5 => 5 | 105 => 131 | 119 => 190 | 0 => 0 | 46 => 191 | 139 => 194 | 138 => 193 | n => n, fun | 3 => 0 | 4 => 1 | n => n⟩
theorem Tryz.lays197 : Go.Proofs.Lays.n197 Tryz.prog Tryz.lays197_ren := {
 mixed := by kernel_rfl
 f197 := Tryz.func70.trans (congrArg some (by kernel_rfl))
 f260 := Tryz.func112.trans (congrArg some (by kernel_rfl))
 t0 := Tryz.underlying0
 a0 := Tryz.isAgg0
 z0 := Tryz.sizeOf0
 v0 := Tryz.zeroValue0
 t3 := Tryz.underlying3
 a3 := Tryz.isAgg3
 z3 := Tryz.sizeOf3
 v3 := Tryz.zeroValue3
 t4 := Tryz.underlying4
 a4 := Tryz.isAgg4
 z4 := Tryz.sizeOf4
 v4 := Tryz.zeroValue4
 t5 := Tryz.underlying5
 a5 := Tryz.isAgg5
 z5 := Tryz.sizeOf5
 v5 := Tryz.zeroValue5
 t9 := Tryz.underlying9
 a9 := Tryz.isAgg9
 z9 := Tryz.sizeOf9
 v9 := Tryz.zeroValue9
 t21 := Tryz.underlying21
 a21 := Tryz.isAgg21
 z21 := Tryz.sizeOf21
 v21 := Tryz.zeroValue21
 t46 := Tryz.underlying191
 a46 := Tryz.isAgg191
 z46 := Tryz.sizeOf191
 v46 := Tryz.zeroValue191
 t105 := Tryz.underlying131
 a105 := Tryz.isAgg131
 z105 := Tryz.sizeOf131
 v105 := Tryz.zeroValue131
 t119 := Tryz.underlying190
 a119 := Tryz.isAgg190
 z119 := Tryz.sizeOf190
 t138 := Tryz.underlying193
 a138 := Tryz.isAgg193
 z138 := Tryz.sizeOf193
 v138 := Tryz.zeroValue193
 t139 := Tryz.underlying194
 a139 := Tryz.isAgg194
 z139 := Tryz.sizeOf194
 v139 := Tryz.zeroValue194
 g3 := by kernel_rfl
 g4 := by kernel_rfl }
open Go.RowKit Go.Lib in
theorem Tryz.utf8_DecodeRuneInString (s : ByteArray) (w : World) (hT : Lib.Utf8Tabs 0 1 w) :
  Calls Tryz.prog 70 #[.string s] w fun e w' => e = .returned (.tuple #[.int .i32 (Lib.decodeGo s).1, .int .i64 (Lib.decodeGo s).2]) ∧ Below w.heap.size w w' := Any.utf8_DecodeRuneInString Tryz.lays197 s w hT
end Go.Proofs
namespace Go.Proofs.YtgohljjedlpccaaGreatDoor
open  Go.Eng
section
open Wd Go.RowKit
def Tabs (m : Mp) : Prop := ∀ w : World, Le m (mp w.heap) → Lib.TabIs Tryz.prog w "strings.asciiSpace" .u8 Lib.asciiSpaceTab ∧ Lib.Utf8Tabs 0 1 w
theorem Tabs.mono {m m' : Mp} (h : Tabs m) (hl : Le m m') : Tabs m' := fun w hw => h w (hl.trans hw)
theorem XW {P : Program} {f : FuncId} {args : Array Value} {h : Heap} {v : Value} (hc : ∀ w : World, w.heap = h → Calls P f args w fun e w' => e = .returned v ∧ Below w.heap.size w w') :
  C P f args h fun u h' => u = v ∧ Le (mp h) (mp h') := fun x d => by
 refine (hc (W x h d) rfl).mono ?_;rintro e w' ⟨rfl, hb⟩;refine ⟨v, w'.heap, w'.drawn, rfl, ?_, rfl, fun k o hk => ?_⟩
 ·show w' = ⟨w'.heap, x.tape, w'.drawn, x.os, x.out⟩;have h1 := hb.os;have h2 := hb.tape;have h3 := hb.output;simp only [W] at h1 h2 h3;rw [← h1, ← h2, ← h3]
 ·have h4 := hb.block k (xI hk);show w'.heap[k]? = some o;rw [h4];exact hk
theorem Z9 {m : Mp} {t : List UInt8} (hT : Tabs m) (h0 : 0 < t.length) : CS Tryz.prog 70 [.string (bs t)] m [] (Gives (.tuple [.int .i32 (dec t 0).1, .int .i64 (dec t 0).2].toArray)) := fun h hs => by
 refine (XW (v := .tuple [.int .i32 (dec t 0).1, .int .i64 (dec t 0).2].toArray) fun w hw => ?_).mono fun v h' ⟨h1, h2⟩ => ⟨[], ⟨h1, rfl⟩, HS.nil (hs.base.trans h2)⟩;subst hw;have := Tryz.utf8_DecodeRuneInString (bs t) w (hT w hs.base).2
 have e : Lib.decodeGo (bs t) = dec t 0 := by
  unfold Lib.decodeGo;rw [if_neg (by rw [xk]; omega), we]
 rw [e] at this;exact this
theorem Y2 {m : Mp} {s : List UInt8} (hT : Tabs m) (hl : s.length < 4294967281) (ha : ∀ b ∈ s, b.toNat < 128) :
  CS Tryz.prog 146 [.string (bs s)] m [] fun v L' => ∃ b, v = .slice (some ⟨b, 0, none⟩) (Lib.fields s).length (Lib.fields s).length ∧ L' = [cel b ((Lib.fields s).map strV) 9] := fun h hs x d => by
 have := Tryz.strings_Fields_laid (bs s) (W x h d) (by rw [xk]; exact hl) (fun j b hj => ha b (List.mem_of_getElem? (by simpa [bs] using hj))) (hT _ hs.base).1;refine this.mono ?_;rintro e w' ⟨rfl, rfl⟩;refine ⟨_, h.push (.cells ((Lib.fields s).map strV).toArray 9), d, rfl, rfl, _, ⟨h.size, rfl, rfl⟩, ?_⟩
 exact hs.new (e' := cel h.size ((Lib.fields s).map strV) 9) (wK h _) (y7 h _) (fun k hk => by have := kX hk; subst this; exact vZ h)
end
namespace Wd
def nameP (s : List UInt8) : Bool := decide (1 ≤ (nameGo s 0 0).2 ∧ (nameGo s 0 0).2 ≤ 24 ∧ (nameGo s 0 0).1 = s.length ∧ s.length ≤ 40) && !ownP s
end Wd
section
open Wd Go.RowKit
theorem key_at {i : Nat} (h : i < 41) : (keysP.map strV)[i]? = some (strV (keysP.getD i [])) := by
 have hl : i < keysP.length := h
 simp [List.getD_eq_getElem?_getD, hl]
theorem own_ok {m : Mp} (hT : Tabs m) : CS Tryz.prog 128 [] m [] fun v L' => ∃ b, v = .map (some b) ∧ L' = [smap b (entK keysP)] := by
 refine zl [.tmp 0] Tryz.func128 rfl rfl rfl ?_;refine tr 7 ?_;refine zE (xC rfl (fun b1 => ?_)) rfl;refine vr 6 ?_;have F := fun m' (hm : Le m m') => Y2 (s := ownText) (hT.mono hm) (by decide +kernel) Yt;rw [ZP, show keysP.length = 41 from rfl] at F;refine zE ((zW cl146 rfl (fun m' hm he => F m' hm) rfl ?_)) rfl;rintro _ _ ⟨b2, rfl, rfl⟩
 refine vr 5 ?_
 refine zZ (fun i : Nat => [(1, .map (some b1)), (5, .slice (some ⟨b2, 0, none⟩) 41 41), (6, .int .i64 (41 : Nat)), (7, .int .i64 (i : Nat))]) (fun i => [cel b2 (keysP.map strV) 9, smap b1 (entK (keysP.take i))]) (fun i => i ≤ 41) (fun i => 41 - i) 0
  ⟨rfl, rfl, rfl, rfl, trivial⟩ (Pick.refl _) (Nat.zero_le _) ?_
 rintro i hi;by_cases hlt : i < 41
 ·have hk := key_at hlt;have hput := Xp hlt;refine tr 2 ?_;refine cto 10 ?_;refine pe 0 ((zm ez38 rfl rfl rfl (by omega))) ?_;refine lr 6 (qn sg9 rfl .here hk) ?_;refine zE (yR ms105 rfl rfl rfl .h1 ?_) rfl;refine vr 4 ?_;refine Pa 2 ?_;exact QR (i + 1) (by rw [← hput]; exact Pick.refl _) (by omega) (by omega)
 ·have : i = 41 := by omega
  subst this;refine tr 2 ?_;refine cfo 6 ?_;refine zG ?_;refine zF ?_;refine qt 8 ?_;exact zb [_] ⟨rfl, trivial⟩ _ (Pick.cons .h1 (Pick.nil _)) ⟨b1, rfl, rfl⟩
theorem YO {m : Mp} (hT : Tabs m) (s : List UInt8) : CS Tryz.prog 100 [.string (bs s)] m [] (Gives (.bool (ownP s))) := by
 refine zl [.tmp 2] Tryz.func100 rfl rfl rfl ?_;refine tr 7 ?_;refine zE ((zW cl128 rfl (fun m' hm he => own_ok (hT.mono hm)) rfl ?_)) rfl;rintro _ _ ⟨b2, rfl, rfl⟩;refine vr 1 ?_;refine lr 4 (wn ms105 rfl rfl .here mz105) ?_;rw [X9];skip;exact rt1 ⟨rfl, trivial⟩ ⟨rfl, rfl⟩
theorem Ym {m : Mp} (hT : Tabs m) {s : List UInt8} (hs : s.length ≤ 140737488355328) : CS Tryz.prog 56 [.string (bs s)] m [] (Gives (.bool (nameP s))) := by
 refine zl [.tmp 2] Tryz.func56 rfl rfl rfl ?_;have e : lengthGo s 0 0 = nameGo s 0 0 := by have := kH (s := s) (p := 0) (Nat.zero_le _); simpa using this
 have hle := (ym s 0 0).len (Nat.zero_le _);unfold nameP;by_cases hall : 1 ≤ (nameGo s 0 0).2 ∧ (nameGo s 0 0).2 ≤ 24 ∧ (nameGo s 0 0).1 = s.length ∧ s.length ≤ 40
 ·obtain ⟨a1, a2, a3, a4⟩ := hall;refine tr 8 ?_;refine Cr cl72 rfl (fun m' hm he => (e ▸ u5 hs)) ?_;rintro _ rfl;refine vr 10 ?_;refine cto 2 ?_;refine cto 4 ?_;refine pe 0 (zq rfl st9) ?_;refine cto 3 ?_;refine cto 3 ?_;refine Cr cl100 rfl (fun m' hm he => (YO (hT.mono hm) s)) ?_;rintro _ rfl;refine vr 6 ?_
  exact rt1 ⟨rfl, trivial⟩ ⟨by rw [decide_eq_true ⟨a1, a2, a3, a4⟩]; rfl, rfl⟩
 ·refine tr 8 ?_;refine Cr cl72 rfl (fun m' hm he => (e ▸ u5 hs)) ?_;rintro _ rfl;refine vr 10 ?_;refine xF (vv rfl rfl) rfl rfl rfl (fun hc1 => ?_) (fun hc1 => ?_);refine vr 2 ?_;refine xF (qY rfl rfl) rfl rfl rfl (fun hc2 => ?_) (fun hc2 => ?_);refine vr 4 ?_;refine pe 0 (zq rfl st9) ?_;refine xF (zz rfl rfl) rfl rfl rfl (fun hc3 => ?_) (fun hc3 => ?_)
  refine vr 3 ?_;refine cfo 10 ?_
  (exact rt1 ⟨rfl, trivial⟩ ⟨by rw [decide_eq_false hall]; rfl, rfl⟩)
  refine vr 14 ?_
  (exact rt1 ⟨rfl, trivial⟩ ⟨by rw [decide_eq_false hall]; rfl, rfl⟩)
  refine vr 20 ?_
  (exact rt1 ⟨rfl, trivial⟩ ⟨by rw [decide_eq_false hall]; rfl, rfl⟩)
  refine vr 23 ?_
  (exact rt1 ⟨rfl, trivial⟩ ⟨by rw [decide_eq_false hall]; rfl, rfl⟩)
end
section
open Wd Go.RowKit
def wV (w : Wrd) : List Value := [.int .i8 w.kind, .string (bs w.text), .int .i64 w.n, .int .i64 w.at_]
def wsV (ws : List Wrd) : List Value := ws.flatMap wV
theorem ky (ws : List Wrd) (w : Wrd) : wsV (ws ++ [w]) = wsV ws ++ wV w := by simp [wsV]
theorem j3 (ws : List Wrd) : (wsV ws).length = ws.length * 4 := by
 induction ws with
 | nil => rfl
 | cons w r ih => simp only [wsV, List.flatMap_cons, List.length_append, List.length_cons] at ih ⊢; rw [ih]; simp [wV]; omega
theorem wa (A : Option Addr) (c : Nat) (acc : List Wrd) (w : Wrd) : own 101 4 A (acc ++ [w]).length c (wsV (acc ++ [w])) = own 101 4 A (acc.length + 1) c (wsV acc ++ wV w) := by rw [ky]; simp
theorem yu (acc : List Wrd) (w : Wrd) : (acc ++ [w]).length = acc.length + 1 := by simp
def faultV (e a : Int) : Value := .agg [.int .i64 e, .int .i64 a].toArray
def CutPost : Res → Value → List Ent → Prop
 | .error (e, a), v, L' => v = .tuple [.slice none 0 0, faultV e a].toArray ∧ L' = []
 | .ok ws, v, L' => ∃ A c, v = .tuple [.slice A ws.length c, faultV 0 0].toArray ∧ L' = [own 101 4 A ws.length c (wsV ws)]
theorem Yp {s : List UInt8} {p : Nat} : rn s p = none ↔ (dec s p).1 = 65533 ∧ (dec s p).2 = 1 := by
 unfold dec;cases h : rn s p with
 | none => simp
 | some r =>
   obtain ⟨x, k⟩ := r;have := yf h
   simp
   omega
theorem Zb (s : List UInt8) (p : Nat) : dec (s.drop p) 0 = dec s p := by unfold dec; rw [kC, Nat.add_zero]
theorem Wm {m : Mp} (hT : Tabs m) {s : List UInt8} (hs : s.length ≤ 9223372036854775807) : CS Tryz.prog 48 [.string (bs s)] m [] (CutPost (cutP s)) := by
 refine zl [.tmp 2, .cell 3 31] Tryz.func48 rfl rfl rfl ?_;by_cases hlong : 65536 < s.length
 ·have e : cutP s = .error (3, 0) := by rw [cutP, if_pos hlong]
  rw [e];refine tr 3 ?_;refine Al 6 zl31 fun b1 => ?_;refine pe 0 (zq rfl st9) ?_;refine cto 5 ?_;refine pe 1 (zT zl31 pl31 rfl rfl) ?_;refine Sg 4 ag31 .here ?_;exact zb [.slice none 0 0, faultV 3 0] ⟨rfl, ⟨b1, _, _, _, rfl, .here, .inr ⟨ag31, rfl⟩⟩, trivial⟩ [] (Pick.nil _) ⟨rfl, rfl⟩
 ·have e : cutP s = goI s 0 0 false [] := by rw [cutP, if_neg hlong, cut_eq]
  rw [e];refine tr 3 ?_;refine Al 6 zl31 fun b1 => ?_;refine pe 0 (zq rfl st9) ?_;refine cfo 20 ?_;refine zE (qm st9 rfl rfl (fun b2 => ?_)) rfl;refine vr 3 ?_;refine wk 101 4 ?_
  refine zZ (fun y : (Nat × Nat × Bool) × List Wrd × Option Addr × Nat => [(0, .string (bs s)), (3, .pointer (some ⟨b1, 0, none⟩)), (4, .slice y.2.2.1 y.2.1.length y.2.2.2), (5, .int .i64 (y.1.2.1 : Nat)), (6, .bool y.1.2.2), (21, .pointer (some ⟨b2, 0, none⟩))])
   (fun y => [own 101 4 y.2.2.1 y.2.1.length y.2.2.2 (wsV y.2.1), iter b2 s y.1.1, cel b1 [.int .i64 0, .int .i64 0] 31])
   (fun y => y.1.1 ≤ s.length ∧ y.1.2.1 ≤ s.length ∧ y.2.1.length ≤ y.1.1 ∧ goI s y.1.1 y.1.2.1 y.1.2.2 y.2.1 = goI s 0 0 false []) (fun y => s.length - y.1.1) ((0, 0, false), [], none, 0)
   ⟨rfl, rfl, rfl, rfl, rfl, rfl, trivial⟩ (Pick.refl _) ⟨Nat.zero_le _, Nat.zero_le _, Nat.zero_le _, rfl⟩ ?_
  rintro ⟨⟨p, skip, rem⟩, acc, A, c⟩ ⟨hp, hsk, hacc, he⟩;simp only at hp hsk hacc he ⊢;generalize goI s 0 0 false [] = FIN at *;by_cases hlt : p < s.length
  ·have hdp := ve s p;have hdl := WH hlt;have hdq := we s p;rw [goI, if_pos hlt] at he;refine tr 2 ?_;refine zE (ut rfl (by first | assumption | omega) (by assumption) .h1 rfl ?_) rfl;refine vr 23 ?_
   refine vA (fun y : Unit => [(0, .string (bs s)), (3, .pointer (some ⟨b1, 0, none⟩)), (4, .slice A acc.length c), (5, .int .i64 (skip : Nat)), (6, .bool rem), (7, .int .i64 (p : Nat)), (8, .int .i32 ((dec s p).1 : Nat)), (9, .bool (rn s p).isNone), (21, .pointer (some ⟨b2, 0, none⟩))])
    (fun y => [own 101 4 A acc.length c (wsV acc), iter b2 s (p + (dec s p).2), cel b1 [.int .i64 0, .int .i64 0] 31]) (fun _ => True) ?_ ?_
   ·have hsl := Yp (s := s) (p := p);have hd0 := Zb s p;generalize dec s p = r at *;obtain ⟨x, k⟩ := r;simp only at hdp hdl hsl ⊢;by_cases hx : x = 65533
    ·refine tr 2 ?_;refine cto 7 ?_;refine pe 0 (vC _ st9 rfl rfl rfl (by omega)) ?_
     have F : ∀ m', Le m m' → CS Tryz.prog 70 [.string (bs (s.drop p))] m' [] (Gives (.tuple [.int .i32 (x : Nat), .int .i64 (k : Nat)].toArray)) := fun m' hm => by
      have := Z9 (t := s.drop p) (hT.mono hm) (by simp; omega);rw [hd0] at this;exact this
     refine Cr cl70 rfl (fun m' hm he => (F m' hm)) ?_;rintro _ rfl;by_cases hk : k = 1
     ·have hn : (rn s p).isNone = true := by rw [hsl.2 ⟨hx, hk⟩]; rfl
      rw [hn];refine vr 9 ?_;refine cto 2 ?_;exact QR () (Pick.refl _) trivial Nat.zero_lt_one
     ·have hn : (rn s p).isNone = false := by cases hr : rn s p with | none => exact absurd (hsl.1 hr).2 hk | some _ => rfl
      rw [hn];refine vr 9 ?_;refine cfo 2 ?_;exact QR () (Pick.refl _) trivial Nat.zero_lt_one
    ·have hn : (rn s p).isNone = false := by cases hr : rn s p with | none => exact absurd (hsl.1 hr).1 hx | some _ => rfl
     rw [hn];refine tr 2 ?_;refine cfo 4 ?_;exact QR () (Pick.refl _) trivial Nat.zero_lt_one
   ·rintro _ _;by_cases hps : p < skip
    ·rw [if_pos hps] at he;refine tr 5 ?_;refine cto 7 ?_;exact QR ((p + (dec s p).2, skip, rem), acc, A, c) (Pick.refl _) ⟨hdl, hsk, by simp only; omega, he⟩ (by simp only; omega)
    ·rw [if_neg hps] at he;cases hr : rn s p with
     | none =>
       rw [hr] at he;simp only at he;subst he;refine tr 5 ?_;refine cfo 14 ?_;refine pe 1 (zT zl31 pl31 rfl rfl) ?_;refine Sg 5 ag31 .h2 ?_;refine zI ?_;refine zH ?_;refine zL ?_;exact zb [.slice none 0 0, faultV 110 p] ⟨rfl, ⟨b1, _, _, _, rfl, .h2, .inr ⟨ag31, rfl⟩⟩, trivial⟩ [] (Pick.nil _) ⟨rfl, rfl⟩
     | some r =>
       obtain ⟨x, k⟩ := r;have hpos := yf hr;rw [hr] at he;rw [wg hr] at hdp hdl he ⊢;simp only at he hdp hdl ⊢;cases rem with
       | true =>
         rw [if_pos rfl] at he;by_cases h10 : x = 10
         ·rw [decide_eq_false (by omega)] at he;refine tr 5 ?_;refine cfo 20 ?_;refine cfo 4 ?_;exact QR ((p + k, skip, false), acc, A, c) (Pick.refl _) ⟨by simp only; omega, hsk, by simp only; omega, he⟩ (by simp only; omega)
         ·rw [decide_eq_true h10] at he;refine tr 5 ?_;refine cfo 20 ?_;refine cto 4 ?_;exact QR ((p + k, skip, true), acc, A, c) (Pick.refl _) ⟨by simp only; omega, hsk, by simp only; omega, he⟩ (by simp only; omega)
       | false =>
         rw [if_neg (by simp)] at he;by_cases hsp : isSp x = true
         ·simp only [stepI, if_pos hsp] at he;have hx4 : x = 32 ∨ x = 10 ∨ x = 13 ∨ x = 9 := of_decide_eq_true hsp;refine tr 5 ?_;refine cfo 21 ?_;refine xF (zz rfl rfl) rfl rfl rfl (fun hc1 => ?_) (fun hc1 => ?_);refine vr 19 ?_
          (exact QR ((p + k, skip, false), acc, A, c) (Pick.refl _) ⟨by simp only; omega, hsk, by simp only; omega, he⟩ (by simp only; omega))
          refine vr 2 ?_;refine xF (zz rfl rfl) rfl rfl rfl (fun hc2 => ?_) (fun hc2 => ?_);refine vr 16 ?_
          (exact QR ((p + k, skip, false), acc, A, c) (Pick.refl _) ⟨by simp only; omega, hsk, by simp only; omega, he⟩ (by simp only; omega))
          refine vr 3 ?_;refine xF (zz rfl rfl) rfl rfl rfl (fun hc3 => ?_) (fun hc3 => ?_);refine vr 12 ?_
          (exact QR ((p + k, skip, false), acc, A, c) (Pick.refl _) ⟨by simp only; omega, hsk, by simp only; omega, he⟩ (by simp only; omega))
          refine vr 3 ?_;refine cto 8 ?_
          (exact QR ((p + k, skip, false), acc, A, c) (Pick.refl _) ⟨by simp only; omega, hsk, by simp only; omega, he⟩ (by simp only; omega))
         ·have hx4 : ¬ (x = 32 ∨ x = 10 ∨ x = 13 ∨ x = 9) := fun h => hsp (decide_eq_true h);by_cases h35 : x = 35
          ·simp only [stepI, if_neg hsp, if_pos h35] at he;refine tr 5 ?_;refine cfo 21 ?_;refine cfo 2 ?_;refine cfo 3 ?_;refine cfo 3 ?_;refine cfo 8 ?_;refine cto 9 ?_;exact QR ((p + k, skip, true), acc, A, c) (Pick.refl _) ⟨by simp only; omega, hsk, by simp only; omega, he⟩ (by simp only; omega)
          ·cases hl : letterP x with
           | true =>
             simp only [stepI, if_neg hsp, if_neg h35, if_pos hl] at he;have hne := kH (s := s) (p := p) hp;have hnl := (ym s p 0).len hp;rw [← hne] at hnl;simp only at hnl;refine tr 5 ?_;refine cfo 21 ?_;refine cfo 2 ?_;refine cfo 3 ?_;refine cfo 3 ?_;refine cfo 8 ?_;refine cfo 7 ?_;refine Cr cl71 rfl (fun m' hm he => (va x)) ?_;rintro _ rfl;rw [hl];refine vr 8 ?_
             refine pe 0 (vC _ st9 rfl rfl rfl (by omega)) ?_;refine Cr cl72 rfl (fun m' hm he => (u5 (t := s.drop p) (by simp; omega))) ?_;rintro _ rfl;generalize lengthGo (s.drop p) 0 0 = r at *;obtain ⟨q, k2⟩ := r;simp only [stepN] at he hnl;by_cases hbad : 24 < k2 ∨ 40 < p + q - p
             ·rw [if_pos hbad] at he;simp only at he;subst he;refine vr 11 ?_;refine xF (vv rfl rfl) rfl rfl rfl (fun hc1 => ?_) (fun hc1 => ?_);refine vr 10 ?_;refine pe 1 (zT zl31 pl31 rfl rfl) ?_;refine Sg 6 ag31 .h2 ?_;refine zI ?_;refine zH ?_;refine zL ?_
              (exact zb [.slice none 0 0, faultV 3 p] ⟨rfl, ⟨b1, _, _, _, rfl, .h2, .inr ⟨ag31, rfl⟩⟩, trivial⟩ [] (Pick.nil _) ⟨rfl, rfl⟩)
              refine vr 2 ?_;refine cto 7 ?_;refine pe 1 (zT zl31 pl31 rfl rfl) ?_;refine Sg 6 ag31 .h2 ?_;refine zI ?_;refine zH ?_;refine zL ?_
              (exact zb [.slice none 0 0, faultV 3 p] ⟨rfl, ⟨b1, _, _, _, rfl, .h2, .inr ⟨ag31, rfl⟩⟩, trivial⟩ [] (Pick.nil _) ⟨rfl, rfl⟩)
             ·rw [if_neg hbad] at he;simp only at he;refine vr 11 ?_;refine cfo 2 ?_;refine cfo 13 ?_;refine pe 0 (xi rfl rfl (by omega)) ?_;refine pe 1 (Zt _ _ st9 rfl rfl rfl rfl rfl (by omega) (by omega)) ?_;refine pe 0 (zT zl101 pl101 rfl rfl) ?_;refine Bs 0 sl94 fun b3 => ?_
              refine zE (zx sl94 rfl rfl rfl rfl .here (fun _ _ => .h1) rfl rfl (by first | omega | (simp only [maxLen]; omega)) (by omega) rfl (fun A1 c1 => ?_)) rfl;refine vr 6 ?_;refine pe 4 (xi rfl rfl (by omega)) ?_
              exact xZ ((p + k, p + q, false), acc ++ [⟨1, seg s p (p + q), 0, p⟩], A1, c1) ⟨rfl, rfl, by simp only [yu]; rfl, rfl, rfl, rfl, trivial⟩ (by simp only [wa]; exact Pick.drop) ⟨by simp only; omega, by simp only; omega, by simp only [yu]; omega, he⟩ (by simp only; omega)
           | false =>
             cases hd : digitP x with
             | true =>
               have hx8 := up hd;have hk1 : k = 1 := by omega
               subst hk1;have hxb : x = by_ s p := by omega
               simp only [stepI, if_neg hsp, if_neg h35, hl, hd, Bool.false_eq_true, if_false, if_true] at he;refine tr 5 ?_;refine cfo 21 ?_;refine cfo 2 ?_;refine cfo 3 ?_;refine cfo 3 ?_;refine cfo 8 ?_;refine cfo 7 ?_;refine Cr cl71 rfl (fun m' hm he => (va x)) ?_;rintro _ rfl;rw [hl];refine vr 7 ?_;refine Cr cl73 rfl (fun m' hm he => (wH x)) ?_;rintro _ rfl;rw [hd];refine vr 17 ?_
               refine zZ (fun y : Nat × Nat => [(0, .string (bs s)), (3, .pointer (some ⟨b1, 0, none⟩)), (4, .slice A acc.length c), (5, .int .i64 (y.1 : Nat)), (6, .bool false), (7, .int .i64 (p : Nat)), (8, .int .i32 (x : Nat)), (14, .int .i64 (y.2 : Nat)), (21, .pointer (some ⟨b2, 0, none⟩))])
                (fun _ => [own 101 4 A acc.length c (wsV acc), iter b2 s (p + 1), cel b1 [.int .i64 0, .int .i64 0] 31]) (fun y => p ≤ y.1 ∧ y.1 ≤ s.length ∧ y.2 ≤ 1000 ∧ digGo s y.1 y.2 = digGo s p 0) (fun y => s.length - y.1) (p, 0)
                ⟨rfl, rfl, rfl, rfl, rfl, rfl, rfl, rfl, rfl, trivial⟩ (Pick.refl _) ⟨Nat.le_refl _, hp, Nat.zero_le _, rfl⟩ ?_
               rintro ⟨q, n⟩ ⟨hpq, hq, hn, hdg⟩;simp only at hpq hq hn hdg ⊢;have hbq := WN s q;have fin : ¬ (q < s.length ∧ digitP (by_ s q) = true) → digGo s p 0 = (q, n) := fun h => by rw [← hdg, digGo, if_neg h]
               by_cases hql : q < s.length
               ·cases hdq2 : digitP (by_ s q) with
                | true =>
                  have hb2 : 48 ≤ by_ s q ∧ by_ s q ≤ 57 := of_decide_eq_true hdq2;rw [digGo, if_pos ⟨hql, hdq2⟩] at hdg;have hmin : ((min (n * 10 + (by_ s q - 48)) 1000 : Nat) : Int) = min ((n : Int) * 10 + ((by_ s q - 48 : Nat) : Int)) 1000 := by omega
                  refine tr 5 ?_;refine pe 0 (zq rfl st9) ?_;refine cto 3 ?_;refine pe 0 (wq rfl rfl st9 (by omega)) ?_;refine pe 0 (ux us5 ik21 rfl (w32 (by omega) (by omega))) ?_;refine Cr cl73 rfl (fun m' hm he => (wH (by_ s q))) ?_;rintro _ rfl;rw [hdq2];refine vr 10 ?_;refine pe 2 (P_mul rfl rfl (w64 (by omega) (by omega))) ?_
                  refine pe 0 (wq rfl rfl st9 (by omega)) ?_;refine pe 0 ((jV rfl rfl (show IntKind.u8.wrap ((by_ s q : Nat) - 48) = ((by_ s q - 48 : Nat) : Int) by rw [wu8 (by omega) (by omega)]; omega))) ?_;refine pe 0 (ux us5 ik3 rfl (w64 (by omega) (by omega))) ?_;refine Pa 0 ?_;refine pe 6 (P_min2N rfl rfl) ?_;refine Pa 2 ?_
                  exact xZ (q + 1, min (n * 10 + (by_ s q - 48)) 1000) ⟨rfl, rfl, rfl, rfl, rfl, rfl, rfl, by rw [hmin]; rfl, rfl, trivial⟩ (Pick.refl _) ⟨by simp only; omega, by simp only; omega, by simp only; omega, hdg⟩ (by simp only; omega)
                | false =>
                  have hf := fin (by rw [hdq2]; simp);rw [hf] at he;simp only [stepD] at he;by_cases hz : by_ s p = 48 ∧ p + 1 < q
                  ·rw [if_pos hz] at he;simp only at he;subst he;refine tr 5 ?_;refine pe 0 (zq rfl st9) ?_;refine cto 3 ?_;refine pe 0 (wq rfl rfl st9 (by omega)) ?_;refine pe 0 (ux us5 ik21 rfl (w32 (by omega) (by omega))) ?_;refine Cr cl73 rfl (fun m' hm he => (wH (by_ s q))) ?_;rintro _ rfl;rw [hdq2];refine vr 6 ?_;refine zG ?_;refine zF ?_
                   refine qt 6 ?_;refine cto 3 ?_;refine Pa 0 ?_;refine cto 8 ?_;refine pe 1 (zT zl31 pl31 rfl rfl) ?_;refine Sg 7 ag31 .h2 ?_;refine zI ?_;refine zH ?_;refine zL ?_;exact zb [.slice none 0 0, faultV 110 p] ⟨rfl, ⟨b1, _, _, _, rfl, .h2, .inr ⟨ag31, rfl⟩⟩, trivial⟩ [] (Pick.nil _) ⟨rfl, rfl⟩
                  ·rw [if_neg hz] at he;by_cases h9 : 999 < n
                   ·rw [if_pos h9] at he;simp only at he;subst he;refine tr 5 ?_;refine pe 0 (zq rfl st9) ?_;refine cto 3 ?_;refine pe 0 (wq rfl rfl st9 (by omega)) ?_;refine pe 0 (ux us5 ik21 rfl (w32 (by omega) (by omega))) ?_;refine Cr cl73 rfl (fun m' hm he => (wH (by_ s q))) ?_;rintro _ rfl;rw [hdq2];refine vr 6 ?_;refine zG ?_;refine zF ?_
                    refine qt 6 ?_;refine xF (zz rfl rfl) rfl rfl rfl (fun hc1 => ?_) (fun hc1 => ?_);refine vr 3 ?_;refine Pa 0 ?_;refine cfo 8 ?_;refine cto 7 ?_;refine pe 1 (zT zl31 pl31 rfl rfl) ?_;refine Sg 7 ag31 .h2 ?_;refine zI ?_;refine zH ?_;refine zL ?_
                    (exact zb [.slice none 0 0, faultV 3 p] ⟨rfl, ⟨b1, _, _, _, rfl, .h2, .inr ⟨ag31, rfl⟩⟩, trivial⟩ [] (Pick.nil _) ⟨rfl, rfl⟩)
                    refine vr 13 ?_;refine cto 7 ?_;refine pe 1 (zT zl31 pl31 rfl rfl) ?_;refine Sg 7 ag31 .h2 ?_;refine zI ?_;refine zH ?_;refine zL ?_
                    (exact zb [.slice none 0 0, faultV 3 p] ⟨rfl, ⟨b1, _, _, _, rfl, .h2, .inr ⟨ag31, rfl⟩⟩, trivial⟩ [] (Pick.nil _) ⟨rfl, rfl⟩)
                   ·rw [if_neg h9] at he;simp only at he;refine tr 5 ?_;refine pe 0 (zq rfl st9) ?_;refine cto 3 ?_;refine pe 0 (wq rfl rfl st9 (by omega)) ?_;refine pe 0 (ux us5 ik21 rfl (w32 (by omega) (by omega))) ?_;refine Cr cl73 rfl (fun m' hm he => (wH (by_ s q))) ?_;rintro _ rfl;rw [hdq2];refine vr 6 ?_;refine zG ?_;refine zF ?_;refine qt 6 ?_
                    refine xF (zz rfl rfl) rfl rfl rfl (fun hc1 => ?_) (fun hc1 => ?_);refine vr 3 ?_;refine Pa 0 ?_;refine cfo 8 ?_;refine cfo 11 ?_;refine pe 0 (zT zl101 pl101 rfl rfl) ?_;refine Bs 0 sl94 fun b3 => ?_;refine zE (zx sl94 rfl rfl rfl rfl .here (fun _ _ => .h1) rfl rfl (by first | omega | (simp only [maxLen]; omega)) (by omega) rfl (fun A1 c1 => ?_)) rfl
                    refine vr 4 ?_
                    (exact xZ ((p + 1, q, false), acc ++ [⟨2, [], n, p⟩], A1, c1) ⟨rfl, rfl, by simp only [yu]; rfl, rfl, rfl, rfl, trivial⟩ (by simp only [wa]; exact Pick.drop) ⟨by simp only; omega, by simp only; omega, by simp only [yu]; omega, he⟩ (by simp only; omega))
                    refine vr 13 ?_;refine cfo 11 ?_;refine pe 0 (zT zl101 pl101 rfl rfl) ?_;refine Bs 0 sl94 fun b3 => ?_;refine zE (zx sl94 rfl rfl rfl rfl .here (fun _ _ => .h1) rfl rfl (by first | omega | (simp only [maxLen]; omega)) (by omega) rfl (fun A1 c1 => ?_)) rfl;refine vr 4 ?_
                    (exact xZ ((p + 1, q, false), acc ++ [⟨2, [], n, p⟩], A1, c1) ⟨rfl, rfl, by simp only [yu]; rfl, rfl, rfl, rfl, trivial⟩ (by simp only [wa]; exact Pick.drop) ⟨by simp only; omega, by simp only; omega, by simp only [yu]; omega, he⟩ (by simp only; omega))
               ·have hf := fin (by omega);rw [hf] at he;simp only [stepD] at he;by_cases hz : by_ s p = 48 ∧ p + 1 < q
                ·rw [if_pos hz] at he;simp only at he;subst he;refine tr 5 ?_;refine pe 0 (zq rfl st9) ?_;refine cfo 12 ?_;refine zG ?_;refine zF ?_;refine qt 6 ?_;refine cto 3 ?_;refine Pa 0 ?_;refine cto 8 ?_;refine pe 1 (zT zl31 pl31 rfl rfl) ?_;refine Sg 7 ag31 .h2 ?_;refine zI ?_;refine zH ?_;refine zL ?_
                 exact zb [.slice none 0 0, faultV 110 p] ⟨rfl, ⟨b1, _, _, _, rfl, .h2, .inr ⟨ag31, rfl⟩⟩, trivial⟩ [] (Pick.nil _) ⟨rfl, rfl⟩
                ·rw [if_neg hz] at he;by_cases h9 : 999 < n
                 ·rw [if_pos h9] at he;simp only at he;subst he;refine tr 5 ?_;refine pe 0 (zq rfl st9) ?_;refine cfo 12 ?_;refine zG ?_;refine zF ?_;refine qt 6 ?_;refine xF (zz rfl rfl) rfl rfl rfl (fun hc1 => ?_) (fun hc1 => ?_);refine vr 3 ?_;refine Pa 0 ?_;refine cfo 8 ?_;refine cto 7 ?_;refine pe 1 (zT zl31 pl31 rfl rfl) ?_;refine Sg 7 ag31 .h2 ?_
                  refine zI ?_;refine zH ?_;refine zL ?_
                  (exact zb [.slice none 0 0, faultV 3 p] ⟨rfl, ⟨b1, _, _, _, rfl, .h2, .inr ⟨ag31, rfl⟩⟩, trivial⟩ [] (Pick.nil _) ⟨rfl, rfl⟩)
                  refine vr 13 ?_;refine cto 7 ?_;refine pe 1 (zT zl31 pl31 rfl rfl) ?_;refine Sg 7 ag31 .h2 ?_;refine zI ?_;refine zH ?_;refine zL ?_
                  (exact zb [.slice none 0 0, faultV 3 p] ⟨rfl, ⟨b1, _, _, _, rfl, .h2, .inr ⟨ag31, rfl⟩⟩, trivial⟩ [] (Pick.nil _) ⟨rfl, rfl⟩)
                 ·rw [if_neg h9] at he;simp only at he;refine tr 5 ?_;refine pe 0 (zq rfl st9) ?_;refine cfo 12 ?_;refine zG ?_;refine zF ?_;refine qt 6 ?_;refine xF (zz rfl rfl) rfl rfl rfl (fun hc1 => ?_) (fun hc1 => ?_);refine vr 3 ?_;refine Pa 0 ?_;refine cfo 8 ?_;refine cfo 11 ?_;refine pe 0 (zT zl101 pl101 rfl rfl) ?_;refine Bs 0 sl94 fun b3 => ?_
                  refine zE (zx sl94 rfl rfl rfl rfl .here (fun _ _ => .h1) rfl rfl (by first | omega | (simp only [maxLen]; omega)) (by omega) rfl (fun A1 c1 => ?_)) rfl;refine vr 4 ?_
                  (exact xZ ((p + 1, q, false), acc ++ [⟨2, [], n, p⟩], A1, c1) ⟨rfl, rfl, by simp only [yu]; rfl, rfl, rfl, rfl, trivial⟩ (by simp only [wa]; exact Pick.drop) ⟨by simp only; omega, by simp only; omega, by simp only [yu]; omega, he⟩ (by simp only; omega))
                  refine vr 13 ?_;refine cfo 11 ?_;refine pe 0 (zT zl101 pl101 rfl rfl) ?_;refine Bs 0 sl94 fun b3 => ?_;refine zE (zx sl94 rfl rfl rfl rfl .here (fun _ _ => .h1) rfl rfl (by first | omega | (simp only [maxLen]; omega)) (by omega) rfl (fun A1 c1 => ?_)) rfl;refine vr 4 ?_
                  (exact xZ ((p + 1, q, false), acc ++ [⟨2, [], n, p⟩], A1, c1) ⟨rfl, rfl, by simp only [yu]; rfl, rfl, rfl, rfl, trivial⟩ (by simp only [wa]; exact Pick.drop) ⟨by simp only; omega, by simp only; omega, by simp only [yu]; omega, he⟩ (by simp only; omega))
             | false =>
               simp only [stepI, if_neg hsp, if_neg h35, hl, hd, Bool.false_eq_true, if_false] at he;refine tr 5 ?_;refine cfo 21 ?_;refine cfo 2 ?_;refine cfo 3 ?_;refine cfo 3 ?_;refine cfo 8 ?_;refine cfo 7 ?_;refine Cr cl71 rfl (fun m' hm he => (va x)) ?_;rintro _ rfl;rw [hl];refine vr 7 ?_;refine Cr cl73 rfl (fun m' hm he => (wH x)) ?_;rintro _ rfl;rw [hd];refine vr 8 ?_
               refine pe 0 (vC _ st9 rfl rfl rfl (by omega)) ?_;refine Cr cl74 rfl (fun m' hm he => (mark_ok (t := s.drop p))) ?_;rintro _ rfl;unfold stepM at he;cases hmk : markP (s.drop p) with
               | none =>
                 rw [hmk] at he;simp only at he;subst he;simp only [Option.getD_none];refine vr 7 ?_;refine ctr 6 ?_;refine pe 1 (zT zl31 pl31 rfl rfl) ?_;refine Sg 6 ag31 .h2 ?_;refine zI ?_;refine zH ?_;refine zL ?_;exact zb [.slice none 0 0, faultV 110 p] ⟨rfl, ⟨b1, _, _, _, rfl, .h2, .inr ⟨ag31, rfl⟩⟩, trivial⟩ [] (Pick.nil _) ⟨rfl, rfl⟩
               | some mk =>
                 rw [hmk] at he
                 have hst : stepR s p = .next (p + mk.length) [⟨3, mk, 0, p⟩] := by
                  unfold stepR;rw [hr];simp only [if_neg hsp, if_neg h35, hl, hd, Bool.false_eq_true, if_false];unfold stepM;rw [hmk]
                 obtain ⟨g1, g2⟩ := y3 hlt hst;have g3 := g2.len hp;have hne : ¬ mk = [] := by rintro rfl; simp at g1
                 simp only at he;simp only [Option.getD_some];refine vr 7 ?_;refine pe 10 ((df (qL rfl rfl) hne)) ?_;refine pe 0 (zT zl101 pl101 rfl rfl) ?_;refine Bs 0 sl94 fun b3 => ?_;refine zE (zx sl94 rfl rfl rfl rfl .here (fun _ _ => .h1) rfl rfl (by first | omega | (simp only [maxLen]; omega)) (by omega) rfl (fun A1 c1 => ?_)) rfl;refine vr 6 ?_
                 refine pe 0 (zq rfl st9) ?_;refine pe 4 (xi rfl rfl (by omega)) ?_;exact xZ ((p + k, p + mk.length, false), acc ++ [⟨3, mk, 0, p⟩], A1, c1) ⟨rfl, rfl, by simp only [yu]; rfl, rfl, rfl, rfl, trivial⟩ (by simp only [wa]; exact Pick.drop) ⟨by simp only; omega, by simp only; omega, by simp only [yu]; omega, he⟩ (by simp only; omega)
  ·rw [kQ hlt] at he;subst he;refine tr 2 ?_;refine zE (qK rfl (by first | assumption | omega) .h1 rfl ?_) rfl;refine vr 7 ?_;refine zG ?_;refine zF ?_;refine qt 5 ?_;refine pe 0 (zq rfl st9) ?_;refine pe 0 (zT zl101 pl101 rfl rfl) ?_;refine Bs 0 sl94 fun b3 => ?_
   refine zE (zx sl94 rfl rfl rfl rfl .here (fun _ _ => .h1) rfl rfl (by first | omega | (simp only [maxLen]; omega)) (by omega) rfl (fun A1 c1 => ?_)) rfl;refine pe 1 (zT zl31 pl31 rfl rfl) ?_;refine Sg 3 ag31 .h3 ?_
   refine zb [.slice A1 (acc.length + 1) c1, faultV 0 0] ⟨rfl, ⟨b1, _, _, _, rfl, .h3, .inr ⟨ag31, rfl⟩⟩, trivial⟩ [own 101 4 A1 (acc.length + 1) c1 (wsV acc ++ wV ⟨0, [], 0, s.length⟩)] (Pick.cons .h1 (Pick.nil _)) ⟨A1, c1, ?_, ?_⟩
   ·simp [tup]
   ·rw [ky]; simp
end
namespace Kd
open Go Go.Eng
def sV (s : List UInt8) : Value := .string (bs s)
def iV (n : Int) : Value := .int .i64 n
def U0 : Value := .tuple #[]
abbrev Gives (w : Value) : Value → List Ent → Prop := fun v L' => v = w ∧ L' = []
def countsB (op : Int) : Bool := decide (op = 0) || decide (op = 1) || decide (op = 2) || decide (op = 3) || decide (op = 5)
def sideB (w : Int) : Bool := decide (w = 0) || decide (w = 1)
inductive PartT where
 | eff (x : EffT)
 | num (x : NumT)
 | cond (x : CondT)
def kidsP : PartT → List PartT
 | .eff (.mk op _ n _ c t e) => (if countsB op then [.num n] else []) ++ (if op = 8 then .cond c :: (t.map .eff ++ e.map .eff) else [])
 | .num (.mk _ _ _ k) => k.map .num
 | .cond (.mk _ _ _ ns k) => ns.map .num ++ k.map .cond
inductive Flat : PartT → List PartT → Prop
 | mk {p : PartT} {ls : List (List PartT)} (hl : ls.length = (kidsP p).length) (hk : ∀ (i : Nat) (h : i < (kidsP p).length), Flat (kidsP p)[i] (ls[i]'(by omega))) : Flat p (p :: ls.flatten)
def FlatL (ps : List PartT) (l : List PartT) : Prop := ∃ ls : List (List PartT), ∃ hl : ls.length = ps.length, (∀ (i : Nat) (h : i < ps.length), Flat ps[i] (ls[i]'(by omega))) ∧ l = ls.flatten
theorem qV {ps : List PartT} (h : ∀ (i : Nat) (hi : i < ps.length), ∃ l, Flat ps[i] l) : ∃ ls : List (List PartT), ∃ hl : ls.length = ps.length, ∀ (i : Nat) (h : i < ps.length), Flat ps[i] (ls[i]'(by omega)) := by
 induction ps with
 | nil => exact ⟨[], rfl, fun i h => by cases h⟩
 | cons p r ih =>
   obtain ⟨l, hl⟩ := h 0 (by simp);obtain ⟨ls, e, hls⟩ := ih fun i hi => h (i + 1) (by simpa using hi);refine ⟨l :: ls, by simp [e], fun i hi => ?_⟩;cases i with
   | zero => exact hl
   | succ i => exact hls i (by simpa using hi)
theorem Flat.ex {p : PartT} (h : ∀ (i : Nat) (hi : i < (kidsP p).length), ∃ l, Flat (kidsP p)[i] l) : ∃ l, Flat p l := by
 obtain ⟨ls, e, hls⟩ := qV h;exact ⟨_, .mk e hls⟩
theorem Flat.num {m : Mp} {cs : List Value} {x : NumT} (h : NumR m cs x) : ∃ l, Flat (.num x) l := by
 induction h with
 | mk ho hln hm hr hv _ ih =>
   refine Flat.ex fun i hi => ?_;simp only [kidsP, List.length_map] at hi;simp only [kidsP, List.getElem_map];exact ih i hi
theorem Flat.cond {m : Mp} {cs : List Value} {x : CondT} (h : CondR m cs x) : ∃ l, Flat (.cond x) l := by
 induction h with
 | mk ho hw hn hla hma hra hva hka hlb hmb hrb hvb _ ih =>
   refine Flat.ex fun i hi => ?_;simp only [kidsP, List.length_append, List.length_map] at hi;simp only [kidsP, List.getElem_append, List.length_map, List.getElem_map]
   split
   ·exact Flat.num (hka _ (by omega))
   ·exact ih _ (by omega)
theorem Flat.eff {m : Mp} {cs : List Value} {x : EffT} (h : EffR m cs x) : ∃ l, Flat (.eff x) l := by
 induction h with
 | @mk op who n name cond thn els ns cs A B la ca lb cb vs us ho hw hn hnm hc hla hma hra hva _ hlb hmb hrb hvb _ ih1 ih2 =>
   refine Flat.ex fun i hi => ?_
   have key : ∀ p ∈ kidsP (.eff (.mk op who n name cond thn els)), ∃ l, Flat p l := by
    intro p hp;simp only [kidsP, List.mem_append] at hp;rcases hp with hp | hp
    ·split at hp
     ·rw [List.mem_singleton.1 hp]; exact Flat.num hn
     ·cases hp
    ·split at hp
     ·rcases List.mem_cons.1 hp with rfl | hp
      ·exact Flat.cond hc
      ·rcases List.mem_append.1 hp with hp | hp
       ·obtain ⟨x, hx, rfl⟩ := List.mem_map.1 hp;obtain ⟨j, hj, rfl⟩ := List.getElem_of_mem hx;exact ih1 j hj
       ·obtain ⟨x, hx, rfl⟩ := List.mem_map.1 hp;obtain ⟨j, hj, rfl⟩ := List.getElem_of_mem hx;exact ih2 j hj
     ·cases hp
   exact key _ (List.getElem_mem hi)
def goL {σ : Type} (f : PartT → σ → σ × Bool) : List PartT → σ → σ × Bool
 | [], s => (s, true)
 | p :: r, s => if (f p s).2 then goL f r (f p s).1 else ((f p s).1, false)
theorem kP {σ : Type} {f : PartT → σ → σ × Bool} : ∀ {a b : List PartT} {s : σ}, goL f (a ++ b) s = if (goL f a s).2 then goL f b (goL f a s).1 else ((goL f a s).1, false)
 | [], b, s => by simp [goL]
 | p :: r, b, s => by
   simp only [List.cons_append, goL]
   split
   ·exact kP
   ·simp
theorem uj {σ : Type} {f : PartT → σ → σ × Bool} {ls : List (List PartT)} {i : Nat} (hi : i < ls.length) (s : σ) (h : (goL f (ls.take i).flatten s).2 = true) : goL f (ls.take (i + 1)).flatten s = goL f ls[i] (goL f (ls.take i).flatten s).1 := by
 rw [List.take_add_one, List.getElem?_eq_getElem hi, Option.toList_some, List.flatten_append, kP, if_pos h]
 simp
theorem ui {σ : Type} {f : PartT → σ → σ × Bool} {ls : List (List PartT)} {i : Nat} (s : σ) (h : (goL f (ls.take i).flatten s).2 = false) : goL f ls.flatten s = goL f (ls.take i).flatten s := by
 conv => lhs; rw [← List.take_append_drop i ls]
 rw [List.flatten_append, kP, h];generalize goL f (ls.take i).flatten s = q at h;obtain ⟨a, b⟩ := q;dsimp only at h;subst h
 rfl
theorem uk {σ : Type} {f : PartT → σ → σ × Bool} {I : σ → Prop} (hI : ∀ p s, I s → (f p s).2 = true → I (f p s).1) : ∀ {l : List PartT} {s : σ}, I s → (goL f l s).2 = true → I (goL f l s).1
 | [], s, h, _ => h
 | p :: r, s, h, h2 => by
   unfold goL at h2 ⊢
   split
   ·rename_i h3
    rw [if_pos h3] at h2;exact uk hI (hI p s h h3) h2
   ·rename_i h3
    rw [if_neg h3] at h2;cases h2
def cntF (_ : PartT) (s : Int) : Int × Bool := (s + 1, decide (s + 1 < 1073741824))
theorem WJ (p : PartT) (s : Int) (h : 0 ≤ s ∧ s < 1073741824) (h2 : (cntF p s).2 = true) : 0 ≤ (cntF p s).1 ∧ (cntF p s).1 < 1073741824 := by
 have h3 : s + 1 < 1073741824 := of_decide_eq_true h2;show 0 ≤ s + 1 ∧ s + 1 < 1073741824;omega
theorem YZ : ∀ {l : List PartT} {s : Int}, s + l.length < 1073741824 → goL cntF l s = (s + l.length, true)
 | [], s, _ => by simp [goL]
 | p :: r, s, h => by
   simp only [List.length_cons] at h;have h1 : (cntF p s).2 = true := decide_eq_true (by omega);show (if (cntF p s).2 = true then goL cntF r (s + 1) else _) = _;rw [if_pos h1, YZ (by omega)];simp only [List.length_cons, Prod.mk.injEq, and_true];omega
end Kd
namespace Kd
open Go Go.Eng
def numW : NumT → Nat
 | .mk _ _ _ k => 1 + (k.attach.map fun x => numW x.1).sum
termination_by x => SizeOf.sizeOf x
decreasing_by
 have := List.sizeOf_lt_of_mem x.2;simp only [NumT.mk.sizeOf_spec];omega
theorem ua (op n who : Int) (k : List NumT) : numW (.mk op n who k) = 1 + (k.map numW).sum := by
 rw [numW, List.attach_map_val (f := numW)]
def condW : CondT → Nat
 | .mk _ _ _ ns k => 1 + (ns.map numW).sum + (k.attach.map fun x => condW x.1).sum
termination_by x => SizeOf.sizeOf x
decreasing_by
 have := List.sizeOf_lt_of_mem x.2;simp only [CondT.mk.sizeOf_spec];omega
theorem yw (op who : Int) (name : List UInt8) (ns : List NumT) (k : List CondT) : condW (.mk op who name ns k) = 1 + (ns.map numW).sum + (k.map condW).sum := by
 rw [condW, List.attach_map_val (f := condW)]
def effW : EffT → Nat
 | .mk op _ n _ c t e => 1 + (if countsB op then numW n else 0) + (if op = 8 then condW c + (t.attach.map fun x => effW x.1).sum + (e.attach.map fun x => effW x.1).sum else 0)
termination_by x => SizeOf.sizeOf x
decreasing_by
 all_goals
  have := List.sizeOf_lt_of_mem x.2;simp only [EffT.mk.sizeOf_spec];omega
theorem vb (op who : Int) (n : NumT) (name : List UInt8) (c : CondT) (t e : List EffT) : effW (.mk op who n name c t e) = 1 + (if countsB op then numW n else 0) + (if op = 8 then condW c + (t.map effW).sum + (e.map effW).sum else 0) := by
 rw [effW, List.attach_map_val (f := effW), List.attach_map_val (f := effW)]
def effsW (l : List EffT) : Nat := (l.map effW).sum
def partW : PartT → Nat
 | .eff x => effW x
 | .num x => numW x
 | .cond x => condW x
theorem ub (l : List EffT) : (l.map PartT.eff).map partW = l.map effW := by rw [List.map_map]; rfl
theorem YU (l : List NumT) : (l.map PartT.num).map partW = l.map numW := by rw [List.map_map]; rfl
theorem X0 (l : List CondT) : (l.map PartT.cond).map partW = l.map condW := by rw [List.map_map]; rfl
theorem Xs (p : PartT) : partW p = 1 + ((kidsP p).map partW).sum := by
 cases p with
 | eff x =>
   obtain ⟨op, who, n, name, c, t, e⟩ := x;show effW _ = _;rw [vb];unfold kidsP;rw [List.map_append, List.sum_append]
   have h1 : ((if countsB op then [PartT.num n] else []).map partW).sum = if countsB op then numW n else 0 := by
    split <;> simp [partW]
   have h2 : ((if op = 8 then PartT.cond c :: (t.map .eff ++ e.map .eff) else []).map partW).sum = if op = 8 then condW c + (t.map effW).sum + (e.map effW).sum else 0 := by
    split
    ·rw [List.map_cons, List.map_append, ub, ub, List.sum_cons, List.sum_append];show condW c + _ = _;omega
    ·rfl
   rw [h1, h2];omega
 | num x =>
   obtain ⟨op, n, who, k⟩ := x;show numW _ = _;unfold kidsP;rw [ua, YU]
 | cond x =>
   obtain ⟨op, who, name, ns, k⟩ := x;show condW _ = _;unfold kidsP;rw [yw, List.map_append, YU, X0, List.sum_append];omega
theorem WD {p : PartT} {l : List PartT} (h : Flat p l) : l.length = partW p := by
 induction h with
 | @mk p ls hl hk ih =>
   rw [Xs, List.length_cons, List.length_flatten]
   have : ls.map List.length = (kidsP p).map partW := by
    apply List.ext_getElem
    ·simp [hl]
    ·intro i h1 h2;simp only [List.getElem_map];simp only [List.length_map] at h2;exact ih i h2
   rw [this];omega
theorem Y1 {ps l : List PartT} (h : FlatL ps l) : l.length = (ps.map partW).sum := by
 obtain ⟨ls, hl, hk, rfl⟩ := h;rw [List.length_flatten]
 congr 1
 apply List.ext_getElem
 ·simp [hl]
 ·intro i h1 h2;simp only [List.getElem_map];simp only [List.length_map] at h2;exact WD (hk i h2)
theorem uS {α : Type} (f : α → Nat) {l : List α} {i : Nat} (h : i < l.length) : ((l.take (i + 1)).map f).sum = ((l.take i).map f).sum + f l[i] := by
 rw [List.take_add_one, List.getElem?_eq_getElem h, List.map_append, List.sum_append]
 simp
def capW (n : Nat) : Int := min (n : Int) 1073741824
end Kd
namespace Tp
open Go Go.Eng Wd Kd
theorem X6 {s : List UInt8} {ts : List Wrd} (h : isW s ts = true) : ∃ w r, ts = w :: r := by
 cases ts with
 | nil => simp [isW, hd] at h
 | cons w r => exact ⟨w, r, rfl⟩
theorem zh {s : List UInt8} {ts : List Wrd} (h : isW s ts = true) : ts.tail.length + 1 = ts.length := by
 obtain ⟨w, r, rfl⟩ := X6 h
 rfl
theorem ug {ts : List Wrd} (h : (hd ts).kind ≠ 0) : ts.tail.length + 1 = ts.length := by
 cases ts with
 | nil => exact absurd rfl h
 | cons w r => rfl
def Ends {α : Type} (r : R α) (w : α → Nat) (n : Nat) : Prop := r ≠ .out ∧ ∀ x ts', r = .ok x ts' → w x + ts'.length ≤ n
theorem Ends.fail {α : Type} {e : Int} {ts : List Wrd} {w : α → Nat} {n : Nat} : Ends (fail e ts) w n := ⟨(fun h => by cases h), fun x ts' h => by cases h⟩
theorem Ends.ok {α : Type} {x : α} {ts : List Wrd} {w : α → Nat} {n : Nat} (h : w x + ts.length ≤ n) : Ends (.ok x ts) w n := ⟨(fun h => by cases h), fun y ts' e => by cases e; exact h⟩
theorem Ends.mono {α : Type} {r : R α} {w : α → Nat} {n n' : Nat} (h : Ends r w n) (hn : n ≤ n') : Ends r w n' := ⟨h.1, fun x ts e => Nat.le_trans (h.2 x ts e) hn⟩
theorem Ends.bind {α β : Type} {r : R α} {w : α → Nat} {n : Nat} {f : α → List Wrd → R β} {w' : β → Nat} {n' : Nat} (h : Ends r w n) (hf : ∀ x ts, w x + ts.length ≤ n → Ends (f x ts) w' n') : Ends (r.bind f) w' n' := by
 cases r with
 | ok x ts => exact hf x ts (h.2 x ts rfl)
 | bad e a => exact ⟨(fun h => by cases h), fun x ts' h => by cases h⟩
 | out => exact absurd rfl h.1
theorem Ends.ite {α : Type} {c : Prop} [Decidable c] {a b : R α} {w : α → Nat} {n : Nat} (h1 : c → Ends a w n) (h2 : ¬ c → Ends b w n) : Ends (if c then a else b) w n := by
 split
 ·exact h1 ‹_›
 ·exact h2 ‹_›
abbrev w0 {α : Type} : α → Nat := fun _ => 0
theorem zP {s : List UInt8} {ts : List Wrd} : Ends (must s ts) (fun _ => 1) ts.length := Ends.ite (fun h => Ends.ok (by have := zh h; omega)) fun _ => Ends.fail
theorem wF : ∀ {l : List (List UInt8)} {ts : List Wrd}, Ends (musts l ts) (fun _ => l.length) ts.length
 | [], ts => Ends.ok (by simp)
 | s :: r, ts => zP.bind fun _ ts' h => ⟨(wF (l := r)).1, fun x ts2 e => by have := (wF (l := r)).2 x ts2 e; simp only [List.length_cons] at *; omega⟩
theorem zr {ts : List Wrd} : Ends (pNumber ts) (fun _ => 1) ts.length := Ends.ite (fun h => Ends.ok (by have := ug (ts := ts) (by omega); omega)) fun _ => Ends.fail
theorem yg {ts : List Wrd} : Ends (pName ts) (fun _ => 1) ts.length := Ends.ite (fun h => Ends.ok (by have := ug (ts := ts) (by omega); omega)) fun _ => Ends.fail
theorem yX {ts : List Wrd} : Ends (pSide ts) (fun _ => 1) ts.length := Ends.ite (fun h => Ends.ok (by have := zh h; omega)) fun _ => Ends.ite (fun h => Ends.ok (by have := zh h; omega)) fun _ => Ends.fail
theorem uR {ts : List Wrd} : Ends (pWho ts) (fun _ => 1) ts.length := Ends.ite (fun h => Ends.ok (by have := zh h; omega)) fun _ => yX
theorem qg {β : Type} {d : Nat} {ts : List Wrd} {f : Unit → List Wrd → R β} {w : β → Nat} {n : Nat} (h : d + 1 ≤ 8 → Ends (f () ts) w n) : Ends ((pIn d ts).bind f) w n := by
 unfold pIn
 split
 ·exact Ends.fail
 ·exact h (by omega)
theorem jJ {signs : List (List UInt8 × Int)} {ts : List Wrd} {s : List UInt8 × Int} (h : (signs.find? fun s => isW s.1 ts) = some s) : isW s.1 ts = true := List.find?_some (p := fun s : List UInt8 × Int => isW s.1 ts) h
theorem ji {α : Type} {one : List Wrd → R α} {signs : List (List UInt8 × Int)} {put : Int → α → α → α} {w : α → Nat} {k : Nat} (ho : ∀ ts, ts.length < k → Ends (one ts) w ts.length) (hw : ∀ op a b, w (put op a b) = 1 + w a + w b) :
  ∀ (n : Nat) (x : α) (ts : List Wrd), ts.length < n → ts.length < k → Ends (pRest one signs put n x ts) w (w x + ts.length)
 | 0, _, ts, h, _ => by cases h
 | n + 1, x, ts, h, hk => by
   unfold pRest
   split
   ·exact Ends.ok (Nat.le_refl _)
   ·rename_i s hs
    have hl := zh (jJ hs);refine (ho ts.tail (by omega)).bind fun y ts' h1 => ?_;refine (ji ho hw n _ ts' (by omega) (by omega)).mono ?_;rw [hw];omega
theorem wX {α : Type} {one : List Wrd → R α} {signs : List (List UInt8 × Int)} {put : Int → α → α → α} {w : α → Nat} {k : Nat} (ho : ∀ ts, ts.length < k → Ends (one ts) w ts.length) (hw : ∀ op a b, w (put op a b) = 1 + w a + w b)
  (n : Nat) (ts : List Wrd) (h : ts.length < n) (hk : ts.length < k) : Ends (pRow one signs put n ts) w ts.length := by
 unfold pRow;exact (ho ts hk).bind fun x ts' h1 => (ji ho hw n x ts' (by omega) (by omega)).mono h1
theorem uZ (x : NumT) : 1 ≤ numW x := by obtain ⟨op, n, who, k⟩ := x; rw [ua]; omega
theorem vg (x : CondT) : 1 ≤ condW x := by obtain ⟨op, w, s, n, k⟩ := x; rw [yw]; omega
theorem xm (op : Int) (a b : NumT) : numW (putN op a b) = 1 + numW a + numW b := by unfold putN; rw [ua]; simp; omega
theorem yb (op n who : Int) : numW (plainN op n who) = 1 := by unfold plainN; rw [ua]; rfl
theorem vf (op : Int) (a b : CondT) : condW (putC op a b) = 1 + condW a + condW b := by unfold putC; rw [yw]; simp; omega
theorem kZ {sum : Nat → List Wrd → R NumT} {two : Bool} {d k : Nat} (hs : ∀ d ts, ts.length < k → Ends (sum d ts) numW ts.length) (ts : List Wrd) (h : ts.length < k + 1) :
  Ends (pBr sum two d ts) (fun x => numW x.1 + 1 + if two then numW x.2 else 0) ts.length := by
 unfold pBr;refine Ends.ite (fun _ => qg fun _ => zP.bind fun _ ts2 h2 => (hs _ ts2 (by omega)).bind fun a ts3 h3 => ?_) fun _ => Ends.fail;cases two with
 | false =>
   rw [if_neg (by decide)];exact zP.bind fun _ ts4 h4 => Ends.ok (by simp only [if_neg (by decide : ¬ false = true)]; omega)
 | true =>
   rw [if_pos rfl];exact zP.bind fun _ ts4 h4 => (hs _ ts4 (by omega)).bind fun b ts5 h5 => zP.bind fun _ ts6 h6 => Ends.ok (by simp only [if_pos]; omega)
theorem qx {sum : Nat → List Wrd → R NumT} {d k : Nat} (hs : ∀ d ts, ts.length < k → Ends (sum d ts) numW ts.length) (ts : List Wrd) (h : ts.length < k + 1) : Ends (pOne sum d ts) numW ts.length := by
 unfold pOne;refine Ends.ite (fun _ => (kZ (two := false) hs ts h).bind fun x ts1 h1 => Ends.ok (by simp at h1; omega)) fun _ => Ends.ite (fun hk => Ends.ok (by have := ug (ts := ts) (by omega); rw [yb]; omega)) fun _ => ?_
 split
 ·rename_i s hf
  have hl := zh (jJ hf);exact zP.bind fun _ ts1 h1 => yX.bind fun w ts2 h2 => zP.bind fun _ ts3 h3 => Ends.ok (by rw [yb]; omega)
 ·refine Ends.ite (fun hw => wF.bind fun _ ts1 h1 => Ends.ok (by have := zh hw; rw [yb]; omega)) fun _ => Ends.ite (fun hw => wF.bind fun _ ts1 h1 => Ends.ok (by have := zh hw; rw [yb]; omega)) fun _ =>
   Ends.ite (fun hw => wF.bind fun _ ts1 h1 => Ends.ok (by have := zh hw; rw [yb]; omega)) fun _ => ?_
  refine Ends.ite (fun hw => ?_) fun _ => Ends.ite (fun hw => ?_) fun _ => Ends.fail
  ·have hl := zh hw;exact (kZ (two := true) hs ts.tail (by omega)).bind fun x ts1 h1 => Ends.ok (by rw [xm]; simp at h1; omega)
  ·have hl := zh hw;exact (kZ (two := true) hs ts.tail (by omega)).bind fun x ts1 h1 => Ends.ok (by rw [xm]; simp at h1; omega)
theorem ye : ∀ (n d : Nat) (ts : List Wrd), ts.length < n → Ends (pSum n d ts) numW ts.length
 | 0, _, _, h => by cases h
 | n + 1, d, ts, h => by
   show Ends (pRow (pTerm (pSum n) (n + 1) d) sumSigns putN (n + 1) ts) numW ts.length;refine wX (k := n + 1) (fun ts h => ?_) xm (n + 1) ts h h;exact wX (k := n + 1) (fun ts h => qx (ye n) ts h) xm (n + 1) ts h h
theorem vW {sum : Nat → List Wrd → R NumT} {cond : Nat → List Wrd → R CondT} {k : Nat} (hs : ∀ d ts, ts.length < k + 1 → Ends (sum d ts) numW ts.length) (hc : ∀ d ts, ts.length < k → Ends (cond d ts) condW ts.length) :
  ∀ (n d : Nat) (ts : List Wrd), ts.length < n → ts.length < k + 1 → Ends (pTest sum cond n d ts) condW ts.length
 | 0, _, _, h, _ => by cases h
 | n + 1, d, ts, h, hk => by
   unfold pTest;refine Ends.ite (fun hw => qg fun _ => ?_) fun _ => Ends.ite (fun hw => qg fun _ => ?_) fun _ => Ends.ite (fun hw => ?_) fun _ => ?_
   ·have hl := zh hw;exact (vW hs hc n (d + 1) ts.tail (by omega) (by omega)).bind fun x ts1 h1 => Ends.ok (by rw [yw]; simp; omega)
   ·have hl := zh (Bool.and_eq_true_iff.1 hw).1;exact (hc (d + 1) ts.tail (by omega)).bind fun x ts1 h1 => zP.bind fun _ ts2 h2 => Ends.ok (by omega)
   ·have hl := zh hw;exact zP.bind fun _ ts1 h1 => yX.bind fun w ts2 h2 => zP.bind fun _ ts3 h3 => yg.bind fun s ts4 h4 => zP.bind fun _ ts5 h5 => Ends.ok (by rw [yw]; simp; omega)
   ·refine (hs d ts hk).bind fun a ts1 h1 => ?_
    split
    ·rename_i s hf
     have hl := zh (jJ hf);exact (hs d _ (by omega)).bind fun b ts2 h2 => Ends.ok (by rw [yw]; simp; omega)
    ·exact Ends.fail
theorem wh : ∀ (n d : Nat) (ts : List Wrd), ts.length < n → Ends (pCond n d ts) condW ts.length
 | 0, _, _, h => by cases h
 | n + 1, d, ts, h => by
   show Ends (pRow (pBoth (pCond n) (n + 1) d) orSigns putC (n + 1) ts) condW ts.length;refine wX (k := n + 1) (fun ts h => ?_) vf (n + 1) ts h h;exact wX (k := n + 1) (fun ts h => vW (ye (n + 1)) (wh n) (n + 1) d ts h h) vf (n + 1) ts h h
theorem wy (op who : Int) (n : NumT) (name : List UInt8) (h : op ≠ 8) : effW (eff0 op who n name) = 1 + if countsB op then numW n else 0 := by
 unfold eff0;rw [vb, if_neg h]
 rfl
theorem xP {op who : Int} {n : NumT} {name : List UInt8} {ts : List Wrd} (h : op ≠ 8) : Ends (pSemi (eff0 op who n name) ts) effW (1 + (if countsB op then numW n else 0) + ts.length) := by
 unfold pSemi;exact zP.bind fun _ ts1 h1 => Ends.ok (by rw [wy _ _ _ _ h]; omega)
theorem ZY {blk : Nat → List Wrd → R (List EffT)} {n d k : Nat} (hk : k < n) (hb : ∀ d ts, ts.length < k → Ends (blk d ts) effsW ts.length) (ts : List Wrd) (h : ts.length < k + 1) : Ends (pEff blk n d ts) effW ts.length := by
 have hs : ∀ d ts, ts.length < k + 1 → Ends (pSum n d ts) numW ts.length := fun d ts h => ye n d ts (by omega);unfold pEff
 refine Ends.ite (fun hw => ?_) fun _ => Ends.ite (fun hw => ?_) fun _ => Ends.ite (fun hw => ?_) fun _ => Ends.ite (fun hw => ?_) fun _ => Ends.ite (fun hw => ?_) fun _ => Ends.ite (fun hw => ?_) fun _ => Ends.ite (fun hw => ?_) fun _ => Ends.ite (fun hw => ?_) fun _ => Ends.ite (fun hw => ?_) fun _ => Ends.fail
 all_goals have hl := zh hw
 ·exact uR.bind fun w ts1 h1 => (hs d ts1 (by omega)).bind fun x ts2 h2 => (xP (by decide)).mono (by simp [countsB]; omega)
 ·exact uR.bind fun w ts1 h1 => (hs d ts1 (by omega)).bind fun x ts2 h2 => (xP (by decide)).mono (by simp [countsB]; omega)
 ·exact yX.bind fun w ts1 h1 => (hs d ts1 (by omega)).bind fun x ts2 h2 => (xP (by decide)).mono (by simp [countsB]; omega)
 ·exact (hs d _ (by omega)).bind fun x ts2 h2 => (xP (by decide)).mono (by simp [countsB]; omega)
 ·exact (hs d _ (by omega)).bind fun x ts2 h2 => (xP (by decide)).mono (by simp [countsB]; omega)
 ·exact yX.bind fun w ts1 h1 => (xP (by decide)).mono (by simp [countsB]; omega)
 ·exact yX.bind fun w ts1 h1 => (xP (by decide)).mono (by simp [countsB]; omega)
 ·exact yg.bind fun w ts1 h1 => (xP (by decide)).mono (by simp [countsB]; omega)
 ·refine qg fun _ => (wh n (d + 1) ts.tail (by omega)).bind fun c ts1 h1 => ?_;have hc := vg c
  exact (hb (d + 1) ts1 (by omega)).bind fun t ts2 h2 => zP.bind fun _ ts3 h3 => (hb (d + 1) ts3 (by omega)).bind fun e ts4 h4 => Ends.ok (by
   rw [vb]; unfold effsW at h2 h4; simp [countsB]; omega)
theorem jm {α : Type} {one : List Wrd → R α} {w : α → Nat} {k : Nat} (ho : ∀ ts, ts.length < k → Ends (one ts) w ts.length) (hw : ∀ x, 1 ≤ w x) : ∀ (n : Nat) (acc : List α) (ts : List Wrd), ts.length < n → ts.length < k →
  Ends (pMany one n acc ts) (fun l => (l.map w).sum + 1) ((acc.map w).sum + ts.length)
 | 0, _, _, h, _ => by cases h
 | n + 1, acc, ts, h, hk => by
   unfold pMany;refine Ends.ite (fun hw => Ends.ok (by have := zh hw; omega)) fun _ => (ho ts hk).bind fun x ts1 h1 => ?_;have hx := hw x;refine (jm ho hw n (acc ++ [x]) ts1 (by omega) (by omega)).mono ?_
   simp
   omega
theorem ZZ (x : EffT) : 1 ≤ effW x := by obtain ⟨op, w, n, s, c, t, e⟩ := x; rw [vb]; omega
theorem yn : ∀ (n d : Nat) (ts : List Wrd), ts.length < n → Ends (pBlock n d ts) effsW ts.length
 | 0, _, _, h => by cases h
 | n + 1, d, ts, h => by
   show Ends ((must sLb ts).bind fun _ ts => pMany (pEff (pBlock n) (n + 1) d) (n + 1) [] ts) effsW ts.length;refine zP.bind fun _ ts1 h1 => ?_;have := jm (one := pEff (pBlock n) (n + 1) d) (w := effW) (k := n + 1) (fun ts h => ZY (k := n) (by omega) (yn n) ts h) ZZ (n + 1) [] ts1 (by omega) (by omega)
   exact ⟨this.1, fun x ts' e => by have := this.2 x ts' e; unfold effsW; simp at this ⊢; omega⟩
def cardWt (x : CardT) : Nat := effsW x.played + effsW x.dead + effsW x.dawn
theorem v8 {σ : Type} {keys : List (List UInt8)} {read : List UInt8 → σ → List Wrd → R σ} {parts : σ → Nat} {k : Nat} (hr : ∀ s c ts, ts.length < k → Ends (read s c ts) (fun _ => 0) ts.length) :
  ∀ (n : Nat) (seen : List (List UInt8)) (c : σ) (ts : List Wrd), ts.length < n → ts.length < k + 1 → Ends (pRules keys read parts n seen c ts) (fun _ => 1) ts.length
 | 0, _, _, _, h, _ => by cases h
 | n + 1, seen, c, ts, h, hk => by
   unfold pRules;refine Ends.ite (fun hw => Ends.ite (fun _ => Ends.fail) fun _ => Ends.ok (by have := zh hw; omega)) fun _ => Ends.ite (fun hw => Ends.ite (fun _ => Ends.fail) fun _ => ?_) fun _ => Ends.fail;have hl := ug (ts := ts) (by omega);exact (hr _ c ts.tail (by omega)).bind fun c2 ts1 h1 => (v8 hr n _ c2 ts1 (by omega) (by omega)).mono (by omega)
theorem jb {n : Nat} {s : List UInt8} {c : CardT} {ts : List Wrd} (h : ts.length < n) : Ends (cardRead n s c ts) (fun _ => 0) ts.length := by
 unfold cardRead;refine Ends.ite (fun _ => ?_) fun _ => Ends.ite (fun _ => ?_) fun _ => Ends.ite (fun _ => ?_) fun _ => Ends.ite (fun _ => ?_) fun _ => ?_
 ·exact (yn n 0 ts h).bind fun l ts1 h1 => Ends.ok (by omega)
 ·exact (yn n 0 ts h).bind fun l ts1 h1 => Ends.ok (by omega)
 ·exact (yn n 0 ts h).bind fun l ts1 h1 => Ends.ok (by omega)
 ·exact zr.bind fun a ts1 h1 => zP.bind fun _ ts2 h2 => zr.bind fun b ts3 h3 => zP.bind fun _ ts4 h4 => Ends.ok (by omega)
 ·exact zr.bind fun a ts1 h1 => zP.bind fun _ ts2 h2 => Ends.ok (by omega)
theorem jt {parts : CardT → Nat} {n : Nat} {at_ : Int} {ts : List Wrd} (h : ts.length < n) : Ends (pCard parts n at_ ts) (fun _ => 1) ts.length := by
 unfold pCard;refine yg.bind fun s ts1 h1 => Ends.bind (w := fun _ => 0) (n := ts1.length) (Ends.ite (fun hw => ?_) fun _ => ?_) fun c ts2 h2 => zP.bind fun _ ts3 h3 => (v8 (k := n) (fun s c ts h => jb h) n [] c ts3 (by omega) (by omega)).mono (by omega)
 ·have hl := zh hw;exact zr.bind fun a ts2 h2 => zr.bind fun b ts3 h3 => zP.bind fun _ ts4 h4 => zr.bind fun c ts5 h5 => Ends.ok (by omega)
 ·exact zP.bind fun _ ts4 h4 => zr.bind fun c ts5 h5 => Ends.ok (by omega)
theorem wE : ∀ (n : Nat) (acc : List (List UInt8)) (ts : List Wrd), ts.length < n → Ends (pNames n acc ts) (fun _ => 0) ts.length
 | 0, _, _, h => by cases h
 | n + 1, acc, ts, h => by
   unfold pNames;exact yg.bind fun s ts1 h1 => Ends.ite (fun hw => (wE n _ ts1.tail (by have := zh hw; omega)).mono (by have := zh hw; omega)) fun _ => Ends.ok (by omega)
theorem kT {n : Nat} {s : List UInt8} {c : FmtT} {ts : List Wrd} (h : ts.length < n) : Ends (fmtRead n s c ts) (fun _ => 0) ts.length := by
 unfold fmtRead;refine Ends.ite (fun _ => ?_) fun _ => Ends.ite (fun _ => ?_) fun _ => Ends.ite (fun _ => ?_) fun _ => Ends.ite (fun _ => ?_) fun _ => ?_
 ·exact zr.bind fun a ts1 h1 => zP.bind fun _ ts2 h2 => Ends.ok (by omega)
 ·exact zr.bind fun a ts1 h1 => zP.bind fun _ ts2 h2 => Ends.ok (by omega)
 ·exact zr.bind fun a ts1 h1 => zP.bind fun _ ts2 h2 => Ends.ok (by omega)
 ·exact (wE n [] ts h).bind fun a ts1 h1 => zP.bind fun _ ts2 h2 => Ends.ok (by omega)
 ·exact (wE n [] ts h).bind fun a ts1 h1 => zP.bind fun _ ts2 h2 => Ends.ok (by omega)
theorem um {n : Nat} {at_ : Int} {ts : List Wrd} (h : ts.length < n) : Ends (pFmt n at_ ts) (fun _ => 1) ts.length := by
 unfold pFmt;exact yg.bind fun s ts1 h1 => zP.bind fun _ ts3 h3 => (v8 (k := n) (fun s c ts h => kT h) n [] _ ts3 (by omega) (by omega)).mono (by omega)
end Tp
section
open Wd Tp Kd
def Ascii (t : List UInt8) : Prop := ∀ b ∈ t, b.toNat < 128
theorem WO {t : List UInt8} (h : Ascii t) (i : Nat) : by_ t i < 128 := by
 unfold by_;by_cases hi : i < t.length
 ·rw [List.getD_eq_getElem?_getD, List.getElem?_eq_getElem hi];exact h _ (List.getElem_mem hi)
 ·rw [List.getD_eq_getElem?_getD, List.getElem?_eq_none (by omega)]
  decide
theorem jp {t : List UInt8} {p : Nat} (h : by_ t p < 128) : dec t p = (by_ t p, 1) := wg (wj h)
theorem XB {s : List UInt8} {p : Nat} (h : (dec s p).1 < 128) : dec s p = (by_ s p, 1) ∧ by_ s p < 128 := by
 unfold dec at h ⊢;cases hr : rn s p with
 | none => rw [hr] at h; simp at h
 | some r =>
   obtain ⟨x, k⟩ := r;rw [hr] at h
   simp at h
   obtain ⟨h1, h2, h3, h4, h5⟩ := yf hr
   have hk : k = 1 := by
    by_cases hk : k = 1
    ·exact hk
    ·have := (h5 (by omega)).1; omega
   subst hk;obtain ⟨rfl, h6⟩ := h4 rfl;exact ⟨rfl, h6⟩
theorem j7 {s t : List UInt8} {p : Nat} (hs : p < s.length) (ht : p < t.length) (h : s.take p = t.take p) (hb : by_ s p = by_ t p) : s.take (p + 1) = t.take (p + 1) := by
 have e : s[p] = t[p] := by
  have h1 : (s.getD p 0).toNat = (t.getD p 0).toNat := hb;rw [List.getD_eq_getElem?_getD, List.getD_eq_getElem?_getD, List.getElem?_eq_getElem hs, List.getElem?_eq_getElem ht] at h1;exact UInt8.toNat_inj.1 h1
 rw [List.take_succ_eq_append_getElem hs, List.take_succ_eq_append_getElem ht, h, e]
theorem same54 {m : Mp} {s t : List UInt8} (ha : Ascii t) (hl : t.length ≤ 1000) : CS Tryz.prog 75 [.string (bs s), .string (bs t)] m [] (Gives (.bool (decide (s = t)))) := by
 refine zl [.tmp 4] Tryz.func75 rfl rfl rfl ?_;by_cases hlen : s.length = t.length
 rotate_left
 ·have hne : s ≠ t := fun e => hlen (by rw [e]);rw [decide_eq_false hne];have hlen' : ¬ ((s.length : Nat) : Int) = (t.length : Nat) := by omega
  refine tr 9 ?_;refine pe 1 (zq rfl st9) ?_;refine pe 0 (zq rfl st9) ?_;refine cta 10 ?_;exact rt1 ⟨rfl, trivial⟩ ⟨rfl, rfl⟩
 refine tr 9 ?_;refine pe 1 (zq rfl st9) ?_;refine pe 0 (zq rfl st9) ?_;refine cfo 9 ?_;refine zE (qm st9 rfl rfl (fun b1 => ?_)) rfl;refine vr 3 ?_
 refine zZ (α := Nat) (fun p => [(0, .string (bs s)), (1, .string (bs t)), (15, .pointer (some ⟨b1, 0, none⟩))]) (fun p => [iter b1 s p]) (fun p => p ≤ s.length ∧ s.take p = t.take p) (fun p => s.length - p) 0 ⟨rfl, rfl, rfl, trivial⟩ (Pick.refl _) ⟨Nat.zero_le _, rfl⟩ ?_;rintro p ⟨hp, he⟩
 try dsimp only at hp he
 try dsimp only
 by_cases hlt : p < s.length
 rotate_left
 ·have hpe : p = s.length := by omega
  subst hpe;rw [List.take_length, hlen, List.take_length] at he;subst he;rw [decide_eq_true rfl];refine tr 2 ?_;refine zE (qK rfl (by first | assumption | omega) .here rfl ?_) rfl;refine vr 7 ?_;refine zG ?_;refine zF ?_;refine qt 7 ?_;exact rt1 ⟨rfl, trivial⟩ ⟨rfl, rfl⟩
 have hd1 := we s p;have hd2 := we (t.drop p) 0;have hbt := WO ha p;have hd3 : dec (t.drop p) 0 = (by_ t p, 1) := by rw [Zb]; exact jp hbt
 rw [hd3] at hd2;have hdl : 0 < (t.drop p).length := by rw [List.length_drop]; omega
 have hx := ve s p;refine tr 2 ?_;refine zE (ut rfl (by first | assumption | omega) (by assumption) .here rfl ?_) rfl;refine vr 20 ?_;refine pe 0 (vC _ st9 rfl rfl rfl (by omega)) ?_;refine zE (qm st9 rfl rfl (fun b2 => ?_)) rfl;refine vr 3 ?_
 refine zZ (α := Unit) (fun _ => [(0, .string (bs s)), (1, .string (bs t)), (15, .pointer (some ⟨b1, 0, none⟩)), (6, .int .i32 ((dec s p).1 : Nat)), (23, .pointer (some ⟨b2, 0, none⟩))]) (fun _ => [iter b2 (t.drop p) 0, iter b1 s (p + (dec s p).2)]) (fun _ => True) (fun _ => 0) () ⟨rfl, rfl, rfl, rfl, rfl, trivial⟩ (Pick.refl _) trivial ?_;rintro ⟨⟩ -;by_cases hr : (dec s p).1 = by_ t p
 ·obtain ⟨e1, e2⟩ := XB (s := s) (p := p) (by omega);have e3 : p + (dec s p).2 = p + 1 := by rw [e1]
  have e4 : by_ s p = by_ t p := by rw [e1] at hr; exact hr
  refine tr 2 ?_;refine zE (ut rfl (by first | assumption | omega) (by assumption) .here rfl ?_) rfl;refine vr 19 ?_;refine cfo 7 ?_;refine zG ?_;refine zF ?_;refine y8 ?_;exact QR (p + 1) (by rw [← e3]; exact .cons .h1 (.nil _)) ⟨by omega, j7 hlt (by omega) he e4⟩ (by omega)
 ·have hne : s ≠ t := fun e => hr (by rw [e, jp hbt]);have hr' : ¬ (((dec s p).1 : Nat) : Int) = (by_ t p : Nat) := by omega
  rw [decide_eq_false hne];refine tr 2 ?_;refine zE (ut rfl (by first | assumption | omega) (by assumption) .here rfl ?_) rfl;refine vr 19 ?_;refine cta 11 ?_;refine zI ?_;refine zH ?_;refine zH ?_;refine zI ?_;refine zH ?_;refine zL ?_;exact rt1 ⟨rfl, trivial⟩ ⟨rfl, rfl⟩
end
section
open Wd Tp Kd
theorem j4 : ∀ {ws : List Wrd} {i : Nat} (h : i < ws.length), ((wsV ws).drop (i * 4)).take 4 = wV ws[i]
 | w :: r, 0, _ => by simp [wsV, wV]
 | w :: r, i + 1, h => by
   have ih := j4 (ws := r) (i := i) (by simpa using h)
   have : (wsV (w :: r)).drop ((i + 1) * 4) = (wsV r).drop (i * 4) := by
    simp only [wsV, List.flatMap_cons];rw [show (i + 1) * 4 = (wV w).length + i * 4 by simp [wV]; omega, ← List.drop_drop, List.drop_left]
   rw [this, ih]
   rfl
inductive GoodT : List Wrd → Prop
 | last {w : Wrd} (h : w.kind = 0) : GoodT [w]
 | cons {w : Wrd} {r : List Wrd} (h : w.kind ≠ 0) (h2 : (w.kind = 3 → w.text ∈ marks) ∧ (w.kind = 1 → w.text ≠ sOpen)) (ht : w.text.length ≤ 65536) (hr : GoodT r) : GoodT (w :: r)
theorem GoodT.ne {ts : List Wrd} (h : GoodT ts) : ts ≠ [] := by cases h <;> simp
theorem GoodT.tail {ts : List Wrd} (h : GoodT ts) (hk : (hd ts).kind ≠ 0) : GoodT ts.tail := by
 cases h with
 | last h => exact absurd h hk
 | cons _ _ _ hr => exact hr
theorem GoodT.text {ts : List Wrd} (h : GoodT ts) (hk : (hd ts).kind ≠ 0) : (hd ts).text.length ≤ 65536 := by
 cases h with
 | last h => exact absurd h hk
 | cons _ _ ht _ => exact ht
theorem GoodT.mark {ts : List Wrd} (h : GoodT ts) (hk : (hd ts).kind = 3) : (hd ts).text ∈ marks := by
 cases h with
 | @last w h =>
   have h3 : w.kind = 3 := hk;omega
 | cons _ hm _ _ => exact hm.1 hk
theorem GoodT.open {ts : List Wrd} (h : GoodT ts) (hk : isW sOpen ts = true) : (hd ts).kind = 3 ∧ (hd ts).text = sOpen := by
 unfold isW at hk;simp only [Bool.and_eq_true, Bool.or_eq_true, decide_eq_true_eq] at hk;obtain ⟨h1, h2⟩ := hk;refine ⟨?_, h2⟩;rcases h1 with h1 | h1
 ·exfalso
  cases h with
  | @last w h =>
    have : w.kind = 1 := h1;omega
  | cons _ hm _ _ => exact hm.2 h1 h2
 ·exact h1
structure Pos (ws : List Wrd) (at_ : Nat) (ts : List Wrd) : Prop where
 eq : ws.drop at_ = ts
 good : GoodT ts
 small : ws.length ≤ 65537
theorem Pos.lt {ws ts : List Wrd} {at_ : Nat} (h : Pos ws at_ ts) : at_ < ws.length := by
 have h1 := h.good.ne;have h2 := h.eq;by_cases hl : at_ < ws.length
 ·exact hl
 ·rw [List.drop_eq_nil_of_le (by omega)] at h2;exact absurd h2.symm h1
theorem Pos.hdEq {ws ts : List Wrd} {at_ : Nat} (h : Pos ws at_ ts) : ws[at_]'h.lt = hd ts := by
 have h3 : hd (ws.drop at_) = ws[at_]'h.lt := by rw [List.drop_eq_getElem_cons h.lt]; rfl
 rw [← h3, h.eq]
theorem Pos.next {ws ts : List Wrd} {at_ : Nat} (h : Pos ws at_ ts) (hk : (hd ts).kind ≠ 0) : Pos ws (at_ + 1) ts.tail := by
 refine ⟨?_, h.good.tail hk, h.small⟩;have h2 := h.eq;rw [List.drop_eq_getElem_cons h.lt] at h2;rw [← h2]
 rfl
theorem Pos.len {ws ts : List Wrd} {at_ : Nat} (h : Pos ws at_ ts) : at_ + ts.length = ws.length := by
 have := h.lt;rw [← h.eq, List.length_drop];omega
theorem X5 {s : List UInt8} {ts : List Wrd} (h : isW s ts = true) : (hd ts).kind ≠ 0 := by
 unfold isW at h;simp only [Bool.and_eq_true, Bool.or_eq_true, decide_eq_true_eq] at h;omega
theorem Pos.isW {ws ts : List Wrd} {at_ : Nat} {s : List UInt8} (h : Pos ws at_ ts) (hk : isW s ts = true) : Pos ws (at_ + 1) ts.tail := h.next (X5 hk)
abbrev WsR (m : Mp) (A : Option Addr) (ws : List Wrd) : Prop := Rd m A (wsV ws)
theorem Pos.word {m : Mp} {A : Option Addr} {ws ts : List Wrd} {at_ : Nat} (hw : WsR m A ws) (h : Pos ws at_ ts) : At m ((sa A).add (at_ * 4)) [.int .i8 (hd ts).kind, .string (bs (hd ts).text), .int .i64 (hd ts).n, .int .i64 (hd ts).at_] := by
 have h1 := hw.elem (at_ * 4) 4;rw [j4 h.lt, h.hdEq] at h1;exact h1
theorem Pos.isSome {m : Mp} {A : Option Addr} {ws ts : List Wrd} {at_ : Nat} (hw : WsR m A ws) (h : Pos ws at_ ts) : A.isSome = true := hw.isSome (by have := h.lt; rw [j3]; omega)
abbrev rd (b : Nat) (A : Option Addr) (c : Nat) (ws : List Wrd) (at_ d p : Nat) : Ent := cel b [.slice A ws.length c, .int .i64 (at_ : Nat), .int .i64 (d : Nat), .int .i64 (p : Nat)] 99
def fltV (e a : Int) : Value := .iface 31 (.agg [.int .i64 e, .int .i64 a].toArray)
abbrev ptr (b : Nat) : Value := .pointer (some ⟨b, 0, none⟩)
variable {m : Mp} {b c at_ d p : Nat} {A : Option Addr} {ws ts : List Wrd} {s : List UInt8}
theorem is18 (hw : WsR m A ws) (hp : Pos ws at_ ts) (ha : Ascii s) (hl : s.length ≤ 1000) : CS Tryz.prog 50 [ptr b, .string (bs s)] m [rd b A c ws at_ d p] (fun v L' => v = .bool (isW s ts) ∧ L' = [rd b A c ws at_ d p]) := by
 have hat := hp.word hw;have hA := hp.isSome hw;have hlt := hp.lt;generalize hq : isW s ts = q;unfold isW at hq;generalize hd ts = w at hat hq;refine zl [.tmp 4] Tryz.func50 rfl rfl rfl ?_;by_cases h1 : w.kind = 1
 ·rw [decide_eq_true h1, Bool.true_or, Bool.true_and] at hq;refine tr 6 ?_;refine zc (sT [0, 1, 2, 4, 5, 6, 103, 107, 8, 109, 210, 311] .done) mixed (by kernel_rfl) (fun _ _ _ _ hq => hq) ?_;refine vt 6 ?_;refine Vl 0 rfl sg94 .here ?_;refine Vl 0 rfl sg3 .here ?_;refine Vt 0 rfl (zC ez94 rfl rfl hA (by omega)) ?_;refine Vu 0 rfl (zg ag101 rfl rfl hat) ?_
  refine zn rfl (z8 zl101 rfl (fun b1 => ?_)) rfl;refine zS rfl rfl (zQ ag101 rfl rfl rfl .here rfl rfl ?_) rfl;refine Vm 4 ?_;refine Lb 0 sg82 .here ?_;refine cta 7 ?_;refine Lb 1 sg9 .here ?_;refine Cr cl75 rfl (fun m' hm he => (same54 ha hl)) ?_;rintro _ rfl;rw [hq];refine vr 5 ?_;exact zb [_] ⟨rfl, trivial⟩ [_] .p1 ⟨rfl, rfl⟩
 by_cases h3 : w.kind = 3
 ·rw [decide_eq_true h3, Bool.or_true, Bool.true_and] at hq;refine tr 6 ?_;refine zc (sT [0, 1, 2, 4, 5, 6, 103, 107, 8, 109, 210, 311] .done) mixed (by kernel_rfl) (fun _ _ _ _ hq => hq) ?_;refine vt 6 ?_;refine Vl 0 rfl sg94 .here ?_;refine Vl 0 rfl sg3 .here ?_;refine Vt 0 rfl (zC ez94 rfl rfl hA (by omega)) ?_;refine Vu 0 rfl (zg ag101 rfl rfl hat) ?_
  refine zn rfl (z8 zl101 rfl (fun b1 => ?_)) rfl;refine zS rfl rfl (zQ ag101 rfl rfl rfl .here rfl rfl ?_) rfl;refine Vm 4 ?_;refine Lb 0 sg82 .here ?_;refine cfa 2 ?_;refine Lb 0 sg82 .here ?_;refine cta 3 ?_;refine Lb 1 sg9 .here ?_;refine Cr cl75 rfl (fun m' hm he => (same54 ha hl)) ?_;rintro _ rfl;rw [hq];refine vr 5 ?_
  exact zb [_] ⟨rfl, trivial⟩ [_] .p1 ⟨rfl, rfl⟩
 rw [decide_eq_false h1, decide_eq_false h3, Bool.false_or, Bool.false_and] at hq;subst hq;refine tr 6 ?_;refine zc (sT [0, 1, 2, 4, 5, 6, 103, 107, 8, 109, 210, 311] .done) mixed (by kernel_rfl) (fun _ _ _ _ hq => hq) ?_;refine vt 6 ?_;refine Vl 0 rfl sg94 .here ?_;refine Vl 0 rfl sg3 .here ?_;refine Vt 0 rfl (zC ez94 rfl rfl hA (by omega)) ?_
 refine Vu 0 rfl (zg ag101 rfl rfl hat) ?_;refine zn rfl (z8 zl101 rfl (fun b1 => ?_)) rfl;refine zS rfl rfl (zQ ag101 rfl rfl rfl .here rfl rfl ?_) rfl;refine Vm 4 ?_;refine Lb 0 sg82 .here ?_;refine cfa 2 ?_;refine Lb 0 sg82 .here ?_;refine cfa 11 ?_;exact zb [_] ⟨rfl, trivial⟩ [_] .p1 ⟨rfl, rfl⟩
theorem bad19 (e : Int) (hw : WsR m A ws) (hp : Pos ws at_ ts) : CSP Tryz.prog 51 [ptr b, .int .i64 e] m [rd b A c ws at_ d p] (fun _ _ => False) (fun v _ => v = fltV e (hd ts).at_) := by
 have hat := hp.word hw;have hA := hp.isSome hw;have hlt := hp.lt;refine z6 [] Tryz.func51 rfl rfl rfl ?_;refine zc (sT [0, 1, 2, 3, 5, 6, 7, 104, 108, 9, 10, 111, 12, 13, 214] .done) mixed (by kernel_rfl) (fun _ _ _ _ hq => hq) ?_;refine vt 7 ?_;refine Vl 0 rfl sg94 .here ?_;refine Vl 0 rfl sg3 .here ?_;refine Vt 1 rfl (zC ez94 rfl rfl hA (by omega)) ?_
 refine Vu 0 rfl (zR sg3 rfl (hat.at_ rfl)) ?_;refine Vt 0 rfl (zT zl31 pl31 rfl rfl) ?_;refine Vt 0 rfl (yj ni31 us31 rfl) ?_;refine zn rfl (S_panic rfl ?_) rfl;exact pn rfl
theorem take56 (hw : WsR m A ws) (hp : Pos ws at_ ts) (ha : Ascii s) (hl : s.length ≤ 1000) : CS Tryz.prog 77 [ptr b, .string (bs s)] m [rd b A c ws at_ d p]
  (fun v L' => (isW s ts = true ∧ Pos ws (at_ + 1) ts.tail ∧ v = .bool true ∧ L' = [rd b A c ws (at_ + 1) d p]) ∨ (isW s ts = false ∧ v = .bool false ∧ L' = [rd b A c ws at_ d p])) := by
 have hs := hp.small;have hlt := hp.lt;refine zl [.tmp 4] Tryz.func77 rfl rfl rfl ?_;refine tr 10 ?_;refine C1 cl50 rfl .here (fun m' hm he => is18 (hw.mono hm) hp ha hl) ?_;rintro _ _ ⟨rfl, rfl⟩;cases hk : isW s ts with
 | false =>
   refine vr 11 ?_;exact zb [_] ⟨rfl, trivial⟩ [_] .p0 (.inr ⟨rfl, rfl, rfl⟩)
 | true =>
   refine vr 11 ?_;refine Lb 0 sg3 .here ?_;refine Pa 2 ?_;refine Sr 8 co3 .here .h1 ?_;exact zb [_] ⟨rfl, trivial⟩ [_] .p0 (.inl ⟨rfl, hp.isW hk, rfl, rfl⟩)
def RdC {α : Type} (f : FuncId) (args : List Value) (m : Mp) (b : Nat) (A : Option Addr) (c : Nat) (ws : List Wrd) (at_ d p : Nat) (r : R α) (w : α → Nat) (V : α → Value → List Ent → Prop) : Prop :=
 CSP Tryz.prog f args m [rd b A c ws at_ d p] (fun v L' => ∃ x ts' at' Es, r = .ok x ts' ∧ Pos ws at' ts' ∧ V x v Es ∧ L' = rd b A c ws at' d (p + w x) :: Es) (fun v _ => ∃ e a, r = .bad e a ∧ v = fltV e a)
abbrev uV : Unit → Value → List Ent → Prop := fun _ v Es => v = U0 ∧ Es = []
abbrev iiV : Int → Value → List Ent → Prop := fun x v Es => v = .int .i64 x ∧ Es = []
abbrev bV : Int → Value → List Ent → Prop := fun x v Es => v = .int .i8 x ∧ Es = []
abbrev tV : List UInt8 → Value → List Ent → Prop := fun x v Es => v = .string (bs x) ∧ Es = []
theorem musts58 {X : Option Addr} {xc : Nat} {l : List (List UInt8)} (hw : WsR m A ws) (hX : Rd m X (l.map strV)) (hl : l.length ≤ 1000) (ha : ∀ s ∈ l, Ascii s ∧ s.length ≤ 1000) (hp : Pos ws at_ ts) :
  RdC 79 [ptr b, .slice X l.length xc] m b A c ws at_ d p (musts l ts) (fun _ => 0) uV := by
 refine z6 [] Tryz.func79 rfl rfl rfl ?_;refine tr 8 ?_
 refine zZ (α := Nat × Nat × List Wrd) (fun y => [(0, ptr b), (6, .slice X l.length xc), (7, .int .i64 (l.length : Nat)), (8, .int .i64 (y.1 : Nat))]) (fun y => [rd b A c ws y.2.1 d p]) (fun y => y.1 ≤ l.length ∧ Pos ws y.2.1 y.2.2 ∧ musts l ts = musts (l.drop y.1) y.2.2) (fun y => l.length - y.1) (0, at_, ts) ⟨rfl, rfl, rfl, rfl, trivial⟩ (Pick.refl _) ⟨Nat.zero_le _, hp, rfl⟩ ?_
 rintro ⟨i, a, ts⟩ ⟨hi, hp, he⟩;dsimp only at hi hp he;dsimp only;by_cases hlt : i < l.length
 rotate_left
 ·rw [List.drop_eq_nil_of_le (by omega)] at he;refine tr 2 ?_;refine cfo 6 ?_;refine zG ?_;refine zF ?_;exact yi [] trivial _ .p0 ⟨(), ts, a, [], he, hp, ⟨rfl, rfl⟩, rfl⟩
 have hX1 : X.isSome = true := hX.isSome (by rw [List.length_map]; omega);have hg : (l.map strV)[i]? = some (strV l[i]) := by simp [hlt]
 have hcx := hX.at_ hg;have hai := ha l[i] (List.getElem_mem hlt);rw [List.drop_eq_getElem_cons hlt] at he;generalize l[i] = s at hcx hai he;refine tr 2 ?_;refine cto 10 ?_;refine pe 0 (zm ez38 rfl rfl hX1 (by omega)) ?_;refine Lo 7 sg9 rfl hcx ?_;refine C1 cl77 rfl .here (fun m' hm he => take56 (hw.mono hm) hp hai.1 hai.2) ?_;rintro _ _ (⟨hk, hp2, rfl, rfl⟩ | ⟨hk, rfl, rfl⟩)
 ·refine vr 8 ?_;refine Pa 2 ?_;exact QR (i + 1, a + 1, ts.tail) (Pick.refl _) ⟨hlt, hp2, by rw [he]; simp [musts, must, hk, R.bind]⟩ (by dsimp only; omega)
 ·refine vr 6 ?_;refine Cp cl51 rfl .k0 (fun m' hm he => bad19 120 (hw.mono hm) hp) ?_ ?_
  ·rintro _ _ rfl;refine zp ?_;refine ze ?_;exact pn ⟨120, _, by rw [he]; simp [musts, must, hk, R.bind, fail], rfl⟩
  ·rintro _ _ h;exact h.elim
theorem in129 (hw : WsR m A ws) (hp : Pos ws at_ ts) (hd8 : d ≤ 8) : CSP Tryz.prog 142 [ptr b] m [rd b A c ws at_ d p] (fun v L' => d + 1 ≤ 8 ∧ v = U0 ∧ L' = [rd b A c ws at_ (d + 1) p]) (fun v _ => 8 < d + 1 ∧ v = fltV 121 (hd ts).at_) := by
 refine z6 [] Tryz.func142 rfl rfl rfl ?_;by_cases h8 : d + 1 ≤ 8
 ·refine tr 5 ?_;refine Lb 0 sg3 .here ?_;refine Pa 2 ?_;refine Sr 7 co3 .here .h2 ?_;refine Lb 0 sg3 .here ?_;refine cfo 4 ?_;exact yi [] trivial _ .p0 ⟨h8, rfl, rfl⟩
 ·refine tr 5 ?_;refine Lb 0 sg3 .here ?_;refine Pa 2 ?_;refine Sr 7 co3 .here .h2 ?_;refine Lb 0 sg3 .here ?_;refine cto 5 ?_;refine Cp cl51 rfl .k0 (fun m' hm he => bad19 121 (hw.mono hm) hp) ?_ ?_
  ·rintro _ _ rfl;skip;exact pn ⟨by omega, rfl⟩
  ·rintro _ _ h;exact h.elim
theorem number57 (hw : WsR m A ws) (hp : Pos ws at_ ts) : RdC 78 [ptr b] m b A c ws at_ d p (pNumber ts) (fun _ => 0) iiV := by
 have hat := hp.word hw;have hA := hp.isSome hw;have hlt := hp.lt;have hsm := hp.small;generalize hq : pNumber ts = q;unfold pNumber at hq;refine z6 [.tmp 2] Tryz.func78 rfl rfl rfl ?_;by_cases h2 : (hd ts).kind = 2
 ·have hp2 := hp.next (by omega);rw [if_pos h2] at hq;generalize hd ts = w at hat hq h2;refine tr 6 ?_;refine zc (sT [0, 1, 2, 4, 5, 6, 103, 107, 8, 109, 210, 311] .done) mixed (by kernel_rfl) (fun _ _ _ _ hq => hq) ?_;refine vt 6 ?_;refine Vl 0 rfl sg94 .here ?_;refine Vl 0 rfl sg3 .here ?_;refine Vt 0 rfl (zC ez94 rfl rfl hA (by omega)) ?_
  refine Vu 0 rfl (zg ag101 rfl rfl hat) ?_;refine zn rfl (z8 zl101 rfl (fun b1 => ?_)) rfl;refine zS rfl rfl (zQ ag101 rfl rfl rfl .here rfl rfl ?_) rfl;refine Vm 5 ?_;refine Lb 0 sg82 .here ?_;refine cfo 10 ?_;refine Lb 0 sg3 .h1 ?_;refine Pa 2 ?_;refine Sr 5 co3 .h1 .h1 ?_;refine Lb 4 sg3 .here ?_
  exact zo [_] ⟨rfl, trivial⟩ _ .p1 ⟨w.n, ts.tail, at_ + 1, [], hq.symm, hp2, ⟨rfl, rfl⟩, rfl⟩
 ·rw [if_neg h2] at hq;refine tr 6 ?_;refine zc (sT [0, 1, 2, 4, 5, 6, 103, 107, 8, 109, 210, 311] .done) mixed (by kernel_rfl) (fun _ _ _ _ hq => hq) ?_;refine vt 6 ?_;refine Vl 0 rfl sg94 .here ?_;refine Vl 0 rfl sg3 .here ?_;refine Vt 0 rfl (zC ez94 rfl rfl hA (by omega)) ?_;refine Vu 0 rfl (zg ag101 rfl rfl hat) ?_;refine zn rfl (z8 zl101 rfl (fun b1 => ?_)) rfl
  refine zS rfl rfl (zQ ag101 rfl rfl rfl .here rfl rfl ?_) rfl;refine Vm 5 ?_;refine Lb 0 sg82 .here ?_;refine cta 5 ?_;refine Cp cl51 rfl .k1 (fun m' hm he => bad19 120 (hw.mono hm) hp) ?_ ?_
  ·rintro _ _ rfl;exact pn ⟨120, _, hq.symm, rfl⟩
  ·rintro _ _ h;exact h.elim
theorem name55 (hT : Tabs m) (hw : WsR m A ws) (hp : Pos ws at_ ts) : RdC 76 [ptr b] m b A c ws at_ d p (pName ts) (fun _ => 0) tV := by
 have hat := hp.word hw;have hA := hp.isSome hw;have hlt := hp.lt;have hsm := hp.small;generalize hq : pName ts = q;unfold pName at hq;refine z6 [.tmp 2] Tryz.func76 rfl rfl rfl ?_;by_cases h1 : (hd ts).kind = 1
 ·cases ho : ownP (hd ts).text with
  | false =>
    have hp2 := hp.next (by omega);rw [if_pos ⟨h1, ho⟩] at hq;generalize hd ts = w at hat hq h1 ho;refine tr 6 ?_;refine zc (sT [0, 1, 2, 4, 5, 6, 103, 107, 8, 109, 210, 311] .done) mixed (by kernel_rfl) (fun _ _ _ _ hq => hq) ?_;refine vt 6 ?_;refine Vl 0 rfl sg94 .here ?_;refine Vl 0 rfl sg3 .here ?_;refine Vt 0 rfl (zC ez94 rfl rfl hA (by omega)) ?_
    refine Vu 0 rfl (zg ag101 rfl rfl hat) ?_;refine zn rfl (z8 zl101 rfl (fun b1 => ?_)) rfl;refine zS rfl rfl (zQ ag101 rfl rfl rfl .here rfl rfl ?_) rfl;refine Vm 5 ?_;refine Lb 0 sg82 .here ?_;refine cfo 2 ?_;refine Lb 0 sg9 .here ?_;refine Cr cl100 rfl (fun m' hm he => (YO (hT.mono hm) w.text)) ?_;rintro _ rfl;rw [ho];refine vr 11 ?_;refine Lb 0 sg3 .h1 ?_
    refine Pa 2 ?_;refine Sr 5 co3 .h1 .h1 ?_;refine Lb 4 sg9 .here ?_;exact zo [_] ⟨rfl, trivial⟩ _ .p1 ⟨w.text, ts.tail, at_ + 1, [], hq.symm, hp2, ⟨rfl, rfl⟩, rfl⟩
  | true =>
    rw [if_neg (fun h => by rw [h.2] at ho; cases ho)] at hq;refine tr 6 ?_;refine zc (sT [0, 1, 2, 4, 5, 6, 103, 107, 8, 109, 210, 311] .done) mixed (by kernel_rfl) (fun _ _ _ _ hq => hq) ?_;refine vt 6 ?_;refine Vl 0 rfl sg94 .here ?_;refine Vl 0 rfl sg3 .here ?_;refine Vt 0 rfl (zC ez94 rfl rfl hA (by omega)) ?_;refine Vu 0 rfl (zg ag101 rfl rfl hat) ?_
    refine zn rfl (z8 zl101 rfl (fun b1 => ?_)) rfl;refine zS rfl rfl (zQ ag101 rfl rfl rfl .here rfl rfl ?_) rfl;refine Vm 5 ?_;refine Lb 0 sg82 .here ?_;refine cfo 2 ?_;refine Lb 0 sg9 .here ?_;refine Cr cl100 rfl (fun m' hm he => (YO (hT.mono hm) (hd ts).text)) ?_;rintro _ rfl;rw [ho];refine vr 6 ?_
    refine Cp cl51 rfl .k1 (fun m' hm he => bad19 120 (hw.mono hm) hp) ?_ ?_
    ·rintro _ _ rfl;exact pn ⟨120, _, hq.symm, rfl⟩
    ·rintro _ _ h;exact h.elim
 ·rw [if_neg (fun h => h1 h.1)] at hq;refine tr 6 ?_;refine zc (sT [0, 1, 2, 4, 5, 6, 103, 107, 8, 109, 210, 311] .done) mixed (by kernel_rfl) (fun _ _ _ _ hq => hq) ?_;refine vt 6 ?_;refine Vl 0 rfl sg94 .here ?_;refine Vl 0 rfl sg3 .here ?_;refine Vt 0 rfl (zC ez94 rfl rfl hA (by omega)) ?_;refine Vu 0 rfl (zg ag101 rfl rfl hat) ?_
  refine zn rfl (z8 zl101 rfl (fun b1 => ?_)) rfl;refine zS rfl rfl (zQ ag101 rfl rfl rfl .here rfl rfl ?_) rfl;refine Vm 5 ?_;refine Lb 0 sg82 .here ?_;refine cta 10 ?_;refine Cp cl51 rfl .k1 (fun m' hm he => bad19 120 (hw.mono hm) hp) ?_ ?_
  ·rintro _ _ rfl;exact pn ⟨120, _, hq.symm, rfl⟩
  ·rintro _ _ h;exact h.elim
theorem asc (s : List UInt8) (h : s.all (fun b => decide (b.toNat < 128)) = true) : Ascii s := fun b hb => of_decide_eq_true (List.all_eq_true.1 h b hb)
theorem side128 (hw : WsR m A ws) (hp : Pos ws at_ ts) : RdC 141 [ptr b] m b A c ws at_ d p (pSide ts) (fun _ => 0) bV := by
 generalize hq : pSide ts = q;unfold pSide at hq;refine z6 [.tmp 2] Tryz.func141 rfl rfl rfl ?_;refine tr 10 ?_;refine C1 cl77 rfl .here (fun m' hm he => take56 (s := sMe) (hw.mono hm) hp (asc _ rfl) (by decide)) ?_;rintro _ _ (⟨hk, hp2, rfl, rfl⟩ | ⟨hk, rfl, rfl⟩)
 ·rw [if_pos hk] at hq;refine vr 12 ?_;exact zo [_] ⟨rfl, trivial⟩ _ .p0 ⟨0, ts.tail, at_ + 1, [], hq.symm, hp2, ⟨rfl, rfl⟩, rfl⟩
 rw [if_neg (by rw [hk]; decide)] at hq;refine vr 7 ?_;refine C1 cl77 rfl .here (fun m' hm he => take56 (s := sFoe) (hw.mono hm) hp (asc _ rfl) (by decide)) ?_;rintro _ _ (⟨hk, hp2, rfl, rfl⟩ | ⟨hk, rfl, rfl⟩)
 ·rw [if_pos hk] at hq;refine vr 12 ?_;exact zo [_] ⟨rfl, trivial⟩ _ .p0 ⟨1, ts.tail, at_ + 1, [], hq.symm, hp2, ⟨rfl, rfl⟩, rfl⟩
 rw [if_neg (by rw [hk]; decide)] at hq;refine vr 10 ?_;refine Cp cl51 rfl .k0 (fun m' hm he => bad19 120 (hw.mono hm) hp) ?_ ?_
 ·rintro _ _ rfl;exact pn ⟨120, _, hq.symm, rfl⟩
 ·rintro _ _ h;exact h.elim
theorem who126 (hw : WsR m A ws) (hp : Pos ws at_ ts) : RdC 139 [ptr b] m b A c ws at_ d p (pWho ts) (fun _ => 0) bV := by
 generalize hq : pWho ts = q;unfold pWho at hq;refine z6 [.tmp 2] Tryz.func139 rfl rfl rfl ?_;refine tr 9 ?_;refine C1 cl77 rfl .here (fun m' hm he => take56 (s := sTarget) (hw.mono hm) hp (asc _ rfl) (by decide)) ?_;rintro _ _ (⟨hk, hp2, rfl, rfl⟩ | ⟨hk, rfl, rfl⟩)
 ·rw [if_pos hk] at hq;refine vr 10 ?_;exact zo [_] ⟨rfl, trivial⟩ _ .p0 ⟨2, ts.tail, at_ + 1, [], hq.symm, hp2, ⟨rfl, rfl⟩, rfl⟩
 rw [if_neg (by rw [hk]; decide)] at hq;refine vr 8 ?_;refine Cp cl141 rfl .k0 (fun m' hm he => side128 (hw.mono hm) hp) ?_ ?_
 ·rintro _ _ ⟨e, a, h1, rfl⟩;exact pn ⟨e, a, by rw [← hq, h1], rfl⟩
 rintro _ _ ⟨x, ts', at', Es, h1, hp1, ⟨rfl, rfl⟩, rfl⟩;refine vr 4 ?_;exact zo [_] ⟨rfl, trivial⟩ _ .p0 ⟨x, ts', at', [], by rw [← hq, h1], hp1, ⟨rfl, rfl⟩, rfl⟩
end
section
open Wd Tp Kd
theorem Pick.nilE {L L' : List Ent} (hp : Pick L L') : Pick L (pack [] :: L') := fun m h hs => HS.pack_iff.1 (hp m h hs)
theorem Pick.pack2 {L L' : List Ent} {a b : Ent} (hp : Pick L (a :: b :: L')) : Pick L (pack [a, b] :: L') := fun m h hs => (HS.pack_iff (L := [a, b])).1 (hp m h hs)
theorem Pick.pack3 {L L' : List Ent} {a b c : Ent} (hp : Pick L (a :: b :: c :: L')) : Pick L (pack [a, b, c] :: L') := fun m h hs => (HS.pack_iff (L := [a, b, c])).1 (hp m h hs)
structure NumC where
 op : Int
 n : Int
 who : Int
 K : Option Addr
 k : Nat
 kc : Nat
abbrev NumC.v (q : NumC) : List Value := [.int .i8 q.op, .int .i64 q.n, .int .i8 q.who, .slice q.K q.k q.kc]
abbrev numV : NumT → Value → List Ent → Prop := fun x v Es => ∃ (q : NumC) (e : Ent), v = .agg q.v.toArray ∧ Es = [e] ∧ ∀ ns, e.inv ns → NumR ns q.v x
theorem numPlain {m : Mp} {op n who : Int} (ho : In8 op) : NumR m [.int .i8 op, .int .i64 n, .int .i8 who, .slice none 0 0] (plainN op n who) := .mk (vs := []) ho rfl (Nat.zero_le _) (Rd.nil _ _) rfl fun i h => by cases h
theorem numPair {m : Mp} {op : Int} {K : Nat} {q r : NumC} {x y : NumT} (ho : In8 op) (h : (cel K (q.v ++ r.v) 85).inv m) (hx : NumR m q.v x) (hy : NumR m r.v y) : NumR m [.int .i8 op, .int .i64 0, .int .i8 0, .slice (some ⟨K, 0, none⟩) 2 2] (putN op x y) :=
 .mk (vs := q.v ++ r.v) ho rfl (by decide) (Rd.blk h) rfl fun i hi => by
  have : i = 0 ∨ i = 1 := by have : i < 2 := hi; omega
  rcases this with rfl | rfl
  ·exact hx
  ·exact hy
theorem pair151 {m : Mp} {op : Int} {q r : NumC} : CS Tryz.prog 158 [.int .i8 op, .agg q.v.toArray, .agg r.v.toArray] m [] (fun v L' => ∃ K, v = .agg [.int .i8 op, .int .i64 0, .int .i8 0, .slice (some ⟨K, 0, none⟩) 2 2].toArray ∧ L' = [cel K (q.v ++ r.v) 85]) := by
 refine zl [.cell 6 85] Tryz.func158 rfl rfl rfl ?_;refine tr 2 ?_;refine Bx 0 rfl fun b1 => ?_;refine Bx 0 rfl fun b2 => ?_;refine Al 5 zl85 fun b3 => ?_;refine Lc 0 ag85 .h2 ?_;refine Lc 0 ag85 .h1 ?_;refine Bs 0 sl83 fun b4 => ?_;refine pe 0 (zT zl85 pl85 rfl rfl) ?_;refine Sg 3 ag85 .h1 ?_;exact zb [_] ⟨⟨b3, _, _, _, rfl, .h1, .inr ⟨rfl, rfl⟩⟩, trivial⟩ _ .p0 ⟨b4, rfl, rfl⟩
theorem TS_scopeJ' {P : Program} {n : Nat} {env : Env} {m : Mp} {L : List Ent} {Q : Post} {α : Type} {c rest : Code} (l : Nat) (hf : findLabel c l = some (.seq .skip rest)) (S : α → Env) (LL : α → List Ent) (F : α → Prop) (μ : α → Nat) (pass : ∀ (y : α), F y → TS P n rest (S y) m (LL y) (jumpS m l S LL F μ (some (μ y)) Q))
  (first : (∀ (y : α), F y → TS P n rest (S y) m (LL y) (jumpS m l S LL F μ (some (μ y)) Q)) → TS P n c env m L (jumpS m l S LL F μ none Q)) : TS P n (.scope c) env m L Q := XM l hf S LL F μ (first pass) fun y hy => WZ (Yh (Yj (pass y hy)))
theorem uo {signs : List (List UInt8 × Int)} {ts : List Wrd} {i : Nat} (h : i < signs.length) (hk : isW signs[i].1 ts = true) (hn : ∀ (j : Nat) (hj : j < signs.length), j < i → isW signs[j].1 ts = false) : (signs.find? fun s => isW s.1 ts) = some signs[i] := by
 rw [List.find?_eq_some_iff_getElem];refine ⟨hk, i, h, rfl, fun j hj => ?_⟩
 simp [hn j (by omega) hj]
theorem un {signs : List (List UInt8 × Int)} {ts : List Wrd} (hn : ∀ (j : Nat) (hj : j < signs.length), isW signs[j].1 ts = false) : (signs.find? fun s => isW s.1 ts) = none := by
 rw [List.find?_eq_none];intro s hs;obtain ⟨j, hj, rfl⟩ := List.getElem_of_mem hs
 simp [hn j hj]
structure SignsR (m : Mp) (X Y : Option Addr) (signs : List (List UInt8 × Int)) : Prop where
 x : Rd m X (signs.map fun s => strV s.1)
 y : Rd m Y (signs.map fun s => .int .i8 s.2)
theorem SignsR.mono {m m' : Mp} {X Y : Option Addr} {signs : List (List UInt8 × Int)} (h : SignsR m X Y signs) (hl : Le m m') : SignsR m' X Y signs := ⟨h.x.mono hl, h.y.mono hl⟩
def SignsOk (signs : List (List UInt8 × Int)) : Prop := signs.length ≤ 10 ∧ ∀ s ∈ signs, Ascii s.1 ∧ s.1.length ≤ 1000 ∧ In8 s.2
structure RowS (α κ : Type) where
 n : Nat
 bx : Nat
 at_ : Nat
 p : Nat
 ts : List Wrd
 x : α
 q : κ
 e : Ent
theorem row149 {m : Mp} {b c at_ d p : Nat} {A : Option Addr} {ws ts : List Wrd} {g : FuncId} {one : List Wrd → R NumT} {signs : List (List UInt8 × Int)} {X Y : Option Addr} {xc yc n k : Nat} (hcl : callable Tryz.prog g = true) (hw : WsR m A ws) (hsg : SignsR m X Y signs) (hso : SignsOk signs)
  (he1 : ∀ ts, ts.length < k → Tp.Ends (one ts) numW ts.length)
  (hone : ∀ m', Le m m' → ∀ (at_ p : Nat) (ts : List Wrd), Pos ws at_ ts → p + ts.length ≤ 4611686018427387904 → ts.length < k → RdC g [ptr b] m' b A c ws at_ d p (one ts) numW numV)
  (hp : Pos ws at_ ts) (hb : p + ts.length ≤ 4611686018427387904) (hn : ts.length < n) (hk : ts.length < k) :
  RdC 156 [ptr b, .slice X signs.length xc, .slice Y signs.length yc, .func (.func g) [ptr b].toArray [].toArray, .func (.func 158) [].toArray [].toArray] m b A c ws at_ d p (pRow one signs putN n ts) numW numV := by
 generalize hF : pRow one signs putN n ts = F;unfold pRow at hF;obtain ⟨hsl, hs8⟩ := hso;refine z6 [.cell 10 85] Tryz.func156 rfl rfl rfl ?_;refine tr 2 ?_;refine Al 2 zl85 fun b1 => ?_
 refine TS_scopeJ' (α := RowS NumT NumC) 0 rfl (fun y => [(0, ptr b), (1, .slice X signs.length xc), (2, .slice Y signs.length yc), (3, .func (.func g) [ptr b].toArray [].toArray), (4, .func (.func 158) [].toArray [].toArray), (10, ptr b1), (11, ptr y.bx)]) (fun y => [rd b A c ws y.at_ d y.p, y.e, cel y.bx y.q.v 85, cel b1 [.int .i8 0, .int .i64 0, .int .i8 0, .slice none 0 0] 85])
  (fun y => pRest one signs putN y.n y.x y.ts = F ∧ Pos ws y.at_ y.ts ∧ y.p + y.ts.length ≤ 4611686018427387904 ∧ y.ts.length < y.n ∧ y.ts.length < k ∧ y.p = p + numW y.x ∧ ∀ ns, y.e.inv ns → NumR ns y.q.v y.x) (fun y => y.n) ?_ (fun hpass => ?_)
 ·rintro ⟨n, bx, a, p1, ts, x, q, e⟩ ⟨hF, hp, hb, hn, hk, hpw, hx⟩;dsimp only at hF hp hb hn hk hpw hx;dsimp only;obtain ⟨n, rfl⟩ : ∃ n', n = n' + 1 := ⟨n - 1, by omega⟩;refine tr 9 ?_
  refine zZ (α := Nat) (fun i => [(0, ptr b), (1, .slice X signs.length xc), (2, .slice Y signs.length yc), (3, .func (.func g) [ptr b].toArray [].toArray), (4, .func (.func 158) [].toArray [].toArray), (10, ptr b1), (11, ptr bx), (17, .slice X signs.length xc), (18, .int .i64 (signs.length : Nat)), (19, .int .i64 (i : Nat))]) (fun i => [rd b A c ws a d p1, e, cel bx q.v 85, cel b1 [.int .i8 0, .int .i64 0, .int .i8 0, .slice none 0 0] 85]) (fun i => i ≤ signs.length ∧ ∀ (j : Nat) (hj : j < signs.length), j < i → isW signs[j].1 ts = false) (fun i => signs.length - i) 0 ⟨rfl, rfl, rfl, rfl, rfl, rfl, rfl, rfl, rfl, rfl, trivial⟩ (Pick.refl _) ⟨Nat.zero_le _, fun _ _ h => by cases h⟩ ?_
  rintro i ⟨hi, hno⟩;by_cases hlt : i < signs.length
  rotate_left
  ·have hfn := un (signs := signs) (ts := ts) fun j hj => hno j hj (by omega);unfold pRest at hF;rw [hfn] at hF;dsimp only at hF;refine tr 2 ?_;refine cfo 6 ?_;refine zG ?_;refine zF ?_;refine qt 3 ?_;refine Lc 0 ag85 .h2 ?_;refine Sg 3 ag85 .h3 ?_;refine qX ?_
   exact zo [_] ⟨⟨b1, _, _, _, rfl, .h3, .inr ⟨rfl, rfl⟩⟩, trivial⟩ _ .pp ⟨x, ts, a, [e], hF.symm, hp, ⟨q, e, rfl, rfl, hx⟩, by rw [hpw]⟩
  have hX1 : X.isSome = true := hsg.x.isSome (by rw [List.length_map]; omega);have hY1 : Y.isSome = true := hsg.y.isSome (by rw [List.length_map]; omega);have hcx := hsg.x.at_ (show (signs.map fun s => strV s.1)[i]? = some (strV signs[i].1) by simp [hlt]);have hcy := hsg.y.at_ (show (signs.map fun s => Value.int .i8 s.2)[i]? = some (.int .i8 signs[i].2) by simp [hlt])
  have hai := hs8 signs[i] (List.getElem_mem hlt);have hfa := fun h => uo (ts := ts) hlt h hno
  have hnext : isW signs[i].1 ts = false → ∀ (j : Nat) (hj : j < signs.length), j < i + 1 → isW signs[j].1 ts = false := fun h j hj h2 => by
   by_cases hji : j < i
   ·exact hno j hj hji
   ·obtain rfl : j = i := by omega
    exact h
  generalize signs[i] = sg at hcx hcy hai hfa hnext;refine tr 2 ?_;refine cto 11 ?_;refine pe 0 (zm ez38 rfl rfl hX1 (by omega)) ?_;refine Lo 8 sg9 rfl hcx ?_;refine C1 cl77 rfl .here (fun m' hm he => take56 (s := sg.1) (hw.mono hm) hp hai.1 hai.2.1) ?_;rintro _ _ (⟨hk1, hp2, rfl, rfl⟩ | ⟨hk1, rfl, rfl⟩)
  rotate_left
  ·refine vr 7 ?_;refine Pa 2 ?_;exact QR (i + 1) (Pick.refl _) ⟨hlt, hnext hk1⟩ (by omega)
  have hl1 := zh hk1;unfold pRest at hF;rw [hfa hk1] at hF;dsimp only at hF;have hend := he1 ts.tail (by omega);refine vr 8 ?_;refine Lb 0 sg3 .here ?_;refine Pa 2 ?_;refine Sr 5 co3 .here .h3 ?_;refine zE (wB (p := [ptr b]) (q := []) (vs := []) hcl rfl rfl .k0 (fun m' hm he => hone m' hm (a + 1) (p1 + 1) ts.tail hp2 (by omega) (by omega)) rfl ?_ ?_) rfl
  ·rintro _ _ ⟨e', a', h1, rfl⟩;rw [h1] at hF;refine zp ?_;refine ze ?_;refine zp ?_;refine wQ ?_;exact pn ⟨e', a', hF.symm, rfl⟩
  rintro _ _ ⟨y, ts2, at2, _, h1, hp3, ⟨r, ey, rfl, rfl, hy⟩, rfl⟩;rw [h1] at hF;have hlen := hend.2 y ts2 h1;have hyp := uZ y;change pRest one signs putN n (putN sg.2 x y) ts2 = F at hF;refine Al 0 zl85 fun b2 => ?_;refine Sg 3 ag85 .here ?_;refine zc (sT [0, 1, 2, 3, 104, 105, 106, 307, 308] .done) mixed (by kernel_rfl) (fun _ _ _ _ hq => hq) ?_;refine vt 3 ?_
  refine Vt 0 rfl (zm ez217 rfl rfl hY1 (by omega)) ?_;refine Vu 0 rfl (zR sg82 rfl hcy) ?_;refine Vu 0 rfl (yI ag85 rfl .h4 rfl) ?_;refine Vu 0 rfl (yI ag85 rfl .here rfl) ?_;refine zS rfl rfl ((yp (p := []) (q := []) (vs := [.int .i8 sg.2, .agg q.v.toArray, .agg r.v.toArray]) cl158 rfl rfl (fun m' hm he => pair151) rfl ?_)) rfl;rintro _ _ ⟨K, rfl, rfl⟩
  refine zS rfl rfl (zQ ag85 rfl rfl rfl .h5 rfl rfl ?_) rfl;refine Vm 1 ?_;refine Yi ?_;refine xl ?_;refine xw ?_;refine vu ?_;refine xl ?_;refine xw ?_
  exact uw (⟨n, bx, at2, p1 + 1 + numW y, ts2, putN sg.2 x y, ⟨sg.2, 0, 0, some ⟨K, 0, none⟩, 2, 2⟩, pack [cel K (q.v ++ r.v) 85, ey, e]⟩ : RowS NumT NumC) ⟨rfl, rfl, rfl, rfl, rfl, rfl, rfl, trivial⟩ (.cons .h2 (Pick.pack3 (.cons .here (.cons .h1 (.cons .h1 (.cons .h1 .p1))))))
   ⟨hF, hp3, by dsimp only; omega, by dsimp only; omega, by dsimp only; omega, by dsimp only; rw [xm]; omega, fun ns h => numPair hai.2.2 (h.1 _ (.head _)) (hx ns (h.1 _ (.tail _ (.tail _ (.head _))))) (hy ns (h.1 _ (.tail _ (.head _))))⟩ (fun k0 h => by cases h; exact Nat.lt_succ_self _)
 ·refine tr 3 ?_;refine zE (wB (p := [ptr b]) (q := []) (vs := []) hcl rfl rfl .k1 (fun m' hm he => hone m' hm at_ p ts hp hb hk) rfl ?_ ?_) rfl
  ·rintro _ _ ⟨e', a', h1, rfl⟩;rw [h1] at hF;refine qW ?_;refine wQ ?_;exact pn ⟨e', a', hF.symm, rfl⟩
  rintro _ _ ⟨y, ts2, at2, _, h1, hp3, ⟨r, ey, rfl, rfl, hy⟩, rfl⟩;rw [h1] at hF;have hlen := (he1 ts hk).2 y ts2 h1;have hyp := uZ y;change pRest one signs putN n y ts2 = F at hF;refine Al 0 zl85 fun b2 => ?_;refine Sg 3 ag85 .here ?_;refine Zq ?_;refine qt 1 ?_
  exact Zr (k0 := n) (⟨n, b2, at2, p + numW y, ts2, y, r, ey⟩ : RowS NumT NumC) (hpass _ ⟨hF, hp3, by show p + numW y + ts2.length ≤ 4611686018427387904; omega, by show ts2.length < n; omega, by show ts2.length < k; omega, rfl, hy⟩) ⟨rfl, rfl, rfl, rfl, rfl, rfl, rfl, trivial⟩ (.cons .h1 (.cons .h1 .pp))
end
section
open Wd Tp Kd
theorem ascs (l : List (List UInt8)) (h : l.all (fun s => s.all (fun b => decide (b.toNat < 128)) && decide (s.length ≤ 1000)) = true) : ∀ s ∈ l, Ascii s ∧ s.length ≤ 1000 := fun s hs => by
 have := List.all_eq_true.1 h s hs;simp only [Bool.and_eq_true, decide_eq_true_eq] at this;exact ⟨asc _ this.1, this.2⟩
theorem Yw (s : List UInt8) (ts : List Wrd) : musts [s] ts = must s ts := by
 unfold musts;cases must s ts <;> rfl
variable {m : Mp} {b c at_ d p : Nat} {A : Option Addr} {ws ts : List Wrd}
theorem must58 {s : List UInt8} {X : Option Addr} {xc : Nat} (hw : WsR m A ws) (hX : Rd m X [strV s]) (ha : Ascii s) (hl : s.length ≤ 1000) (hp : Pos ws at_ ts) :
  RdC 79 [ptr b, .slice X 1 xc] m b A c ws at_ d p (must s ts) (fun _ => 0) uV := by
 have := musts58 (l := [s]) (b := b) (c := c) (d := d) (p := p) (xc := xc) hw hX (by simp) (fun s' h => by rw [List.mem_singleton.1 h]; exact ⟨ha, hl⟩) hp;rwa [Yw] at this
def SumC (m : Mp) (b : Nat) (A : Option Addr) (c : Nat) (ws : List Wrd) (sum : Nat → List Wrd → R NumT) (k : Nat) : Prop :=
 ∀ m', Le m m' → ∀ (at_ d p : Nat) (ts : List Wrd), Pos ws at_ ts → d ≤ 8 → p + ts.length ≤ 4611686018427387904 → ts.length < k → RdC 140 [ptr b] m' b A c ws at_ d p (sum d ts) numW numV
abbrev twoV : NumT × NumT → Value → List Ent → Prop := fun x v Es => ∃ (q r : NumC) (e : Ent), v = .tuple [.agg q.v.toArray, .agg r.v.toArray].toArray ∧ Es = [e] ∧ ∀ ns, e.inv ns → NumR ns q.v x.1 ∧ NumR ns r.v x.2
abbrev twoW (two : Bool) : NumT × NumT → Nat := fun x => numW x.1 + if two then numW x.2 else 0
theorem brackets181 {two : Bool} {sum : Nat → List Wrd → R NumT} {k : Nat} (hw : WsR m A ws) (hp : Pos ws at_ ts) (hd : d ≤ 8) (hb : p + ts.length ≤ 4611686018427387904) (hk0 : ts.length < k + 1) (hse : ∀ d ts, ts.length < k → Tp.Ends (sum d ts) numW ts.length) (hsum : SumC m b A c ws sum k) :
  RdC 180 [ptr b, .bool two] m b A c ws at_ d p (pBr sum two d ts) (twoW two) twoV := by
 generalize hF : pBr sum two d ts = F;unfold pBr at hF;refine z6 [.cell 4 85, .cell 5 85] Tryz.func180 rfl rfl rfl ?_;refine tr 2 ?_;refine Al 0 zl85 fun b1 => ?_;refine Al 6 zl85 fun b2 => ?_;refine C1 cl50 rfl .h2 (fun m' hm he => is18 (s := sOpen) (hw.mono hm) hp (asc _ rfl) (by decide)) ?_;rintro _ _ ⟨rfl, rfl⟩;cases hk : isW sOpen ts with
 | false =>
   rw [if_neg (by rw [hk]; decide)] at hF;refine vr 6 ?_;refine Cp cl51 rfl .k0 (fun m' hm he => bad19 120 (hw.mono hm) hp) ?_ ?_
   ·rintro _ _ rfl;exact pn ⟨120, _, hF.symm, rfl⟩
   ·rintro _ _ h;exact h.elim
 | true =>
 rw [if_pos hk] at hF;have hl0 := zh hk;refine vr 9 ?_;refine Cp cl142 rfl .k0 (fun m' hm he => in129 (hw.mono hm) hp hd) ?_ ?_
 ·rintro _ _ ⟨h8, rfl⟩;rw [pIn, if_pos h8] at hF;exact pn ⟨121, _, hF.symm, rfl⟩
 rintro _ _ ⟨h8, rfl, rfl⟩;rw [pIn, if_neg (by omega)] at hF;dsimp only [R.bind] at hF;refine vr 5 ?_;refine Bs 0 sl38 fun b3 => ?_;refine Cp cl79 rfl .k1 (fun m' hm he => must58 (s := sOpen) (hw.mono hm) (Rd.blk (he _ (.head _))) (asc _ rfl) (by decide) hp) ?_ ?_
 ·rintro _ _ ⟨e', a', h1, rfl⟩;rw [h1] at hF;exact pn ⟨e', a', hF.symm, rfl⟩
 rintro _ _ ⟨_, ts1, at1, _, h1, hp1, ⟨rfl, rfl⟩, rfl⟩;rw [h1] at hF;dsimp only [R.bind] at hF;have hl1 : 1 + ts1.length ≤ ts.length := (zP (s := sOpen) (ts := ts)).2 _ _ h1;clear h1;refine vr 5 ?_;refine Cp cl140 rfl .k0 (fun m' hm he => hsum m' hm at1 (d + 1) p ts1 hp1 h8 (by omega) (by omega)) ?_ ?_
 ·rintro _ _ ⟨e', a', h1, rfl⟩;rw [h1] at hF;exact pn ⟨e', a', hF.symm, rfl⟩
 rintro _ _ ⟨x, ts2, at2, _, h1, hp2, ⟨q, ex, rfl, rfl, hx⟩, rfl⟩;rw [h1] at hF;dsimp only [R.bind] at hF;have hl2 := (hse (d + 1) ts1 (by omega)).2 _ _ h1;clear h1;cases two with
 | false =>
   rw [if_neg (by decide)] at hF;refine Sg 14 ag85 .h4 ?_;refine Bs 0 sl38 fun b4 => ?_;refine Cp cl79 rfl .k1 (fun m' hm he => must58 (s := sClose) (hw.mono hm) (Rd.blk (he _ (.head _))) (asc _ rfl) (by decide) hp2) ?_ ?_
   ·rintro _ _ ⟨e', a', h1, rfl⟩;rw [h1] at hF;exact pn ⟨e', a', hF.symm, rfl⟩
   rintro _ _ ⟨_, ts3, at3, _, h1, hp3, ⟨rfl, rfl⟩, rfl⟩;rw [h1] at hF;dsimp only [R.bind] at hF;have hl3 : 1 + ts3.length ≤ ts2.length := (zP (s := sClose) (ts := ts2)).2 _ _ h1;clear h1;refine vr 7 ?_;refine Lb 0 sg3 .here ?_;refine pe 2 (jV rfl rfl (w64 (by omega) (by omega))) ?_;refine Sr 3 co3 .here .h2 ?_
   refine zc (sT [100] (.fork (sT [201, 302, 303] .done) (sT [302, 101, 303] .done))) mixed (by kernel_rfl) (fun _ _ _ _ hq => hq) ?_;refine Vu 0 rfl (yI ag85 rfl .h5 rfl) ?_;refine xY ?_ ?_;refine xA rfl (yI ag85 rfl .h4 rfl) rfl rfl rfl ?_;refine zS rfl rfl (zQ ag85 rfl rfl rfl .h5 rfl rfl ?_) rfl
   refine zS rfl rfl (zQ ag85 rfl rfl rfl .h4 rfl rfl ?_) rfl;refine Vm 2 ?_
   ·rw [show ((d + 1 : Nat) : Int) - 1 = (d : Nat) by omega];exact zo [_, _] ⟨⟨b1, _, _, _, rfl, .h5, .inr ⟨rfl, rfl⟩⟩, ⟨b2, _, _, _, rfl, .h4, .inr ⟨rfl, rfl⟩⟩, trivial⟩ _ (.cons .here .p1) ⟨_, ts3, at3, _, hF.symm, hp3, ⟨q, ⟨0, 0, 0, none, 0, 0⟩, ex, rfl, rfl, fun ns h => ⟨hx ns h, numPlain ⟨by decide, by decide⟩⟩⟩, rfl⟩
   ·refine zS rfl rfl (zQ ag85 rfl rfl rfl .h5 rfl rfl ?_) rfl;refine Vu 0 rfl (yI ag85 rfl .h4 rfl) ?_;refine zS rfl rfl (zQ ag85 rfl rfl rfl .h4 rfl rfl ?_) rfl;refine Vm 2 ?_;rw [show ((d + 1 : Nat) : Int) - 1 = (d : Nat) by omega]
    exact zo [_, _] ⟨⟨b1, _, _, _, rfl, .h5, .inr ⟨rfl, rfl⟩⟩, ⟨b2, _, _, _, rfl, .h4, .inr ⟨rfl, rfl⟩⟩, trivial⟩ _ (.cons .here .p1) ⟨_, ts3, at3, _, hF.symm, hp3, ⟨q, ⟨0, 0, 0, none, 0, 0⟩, ex, rfl, rfl, fun ns h => ⟨hx ns h, numPlain ⟨by decide, by decide⟩⟩⟩, rfl⟩
 | true =>
   rw [if_pos rfl] at hF;refine Sg 12 ag85 .h4 ?_;refine Bs 0 sl38 fun b4 => ?_;refine Cp cl79 rfl .k1 (fun m' hm he => must58 (s := sComma) (hw.mono hm) (Rd.blk (he _ (.head _))) (asc _ rfl) (by decide) hp2) ?_ ?_
   ·rintro _ _ ⟨e', a', h1, rfl⟩;rw [h1] at hF;exact pn ⟨e', a', hF.symm, rfl⟩
   rintro _ _ ⟨_, ts3, at3, _, h1, hp3, ⟨rfl, rfl⟩, rfl⟩;rw [h1] at hF;dsimp only [R.bind] at hF;have hl3 : 1 + ts3.length ≤ ts2.length := (zP (s := sComma) (ts := ts2)).2 _ _ h1;clear h1;refine vr 4 ?_;refine Cp cl140 rfl .k0 (fun m' hm he => hsum m' hm at3 (d + 1) (p + numW x) ts3 hp3 h8 (by omega) (by omega)) ?_ ?_
   ·rintro _ _ ⟨e', a', h1, rfl⟩;rw [h1] at hF;exact pn ⟨e', a', hF.symm, rfl⟩
   rintro _ _ ⟨y, ts4, at4, _, h1, hp4, ⟨r, ey, rfl, rfl, hy⟩, rfl⟩;rw [h1] at hF;dsimp only [R.bind] at hF;have hl4 := (hse (d + 1) ts3 (by omega)).2 _ _ h1;clear h1;refine Sg 5 ag85 .h5 ?_;refine Bs 0 sl38 fun b5 => ?_;refine Cp cl79 rfl .k1 (fun m' hm he => must58 (s := sClose) (hw.mono hm) (Rd.blk (he _ (.head _))) (asc _ rfl) (by decide) hp4) ?_ ?_
   ·rintro _ _ ⟨e', a', h1, rfl⟩;rw [h1] at hF;exact pn ⟨e', a', hF.symm, rfl⟩
   rintro _ _ ⟨_, ts5, at5, _, h1, hp5, ⟨rfl, rfl⟩, rfl⟩;rw [h1] at hF;dsimp only [R.bind] at hF;have hl5 : 1 + ts5.length ≤ ts4.length := (zP (s := sClose) (ts := ts4)).2 _ _ h1;clear h1;refine vr 7 ?_;refine Lb 0 sg3 .here ?_;refine pe 2 (jV rfl rfl (w64 (by omega) (by omega))) ?_;refine Sr 3 co3 .here .h2 ?_
   refine zc (sT [100] (.fork (sT [201, 302, 303] .done) (sT [302, 101, 303] .done))) mixed (by kernel_rfl) (fun _ _ _ _ hq => hq) ?_;refine Vu 0 rfl (yI ag85 rfl .h7 rfl) ?_;refine xY ?_ ?_;refine xA rfl (yI ag85 rfl .h6 rfl) rfl rfl rfl ?_;refine zS rfl rfl (zQ ag85 rfl rfl rfl .h7 rfl rfl ?_) rfl
   refine zS rfl rfl (zQ ag85 rfl rfl rfl .h6 rfl rfl ?_) rfl;refine Vm 2 ?_
   ·rw [show ((d + 1 : Nat) : Int) - 1 = (d : Nat) by omega]
    exact zo [_, _] ⟨⟨b1, _, _, _, rfl, .h7, .inr ⟨rfl, rfl⟩⟩, ⟨b2, _, _, _, rfl, .h6, .inr ⟨rfl, rfl⟩⟩, trivial⟩ _ (.cons .here (Pick.pack2 (.cons .h3 .p1))) ⟨_, ts5, at5, _, hF.symm, hp5, ⟨q, r, pack [ex, ey], rfl, rfl, fun ns h => ⟨hx ns (h.1 _ (.head _)), hy ns (h.1 _ (.tail _ (.head _)))⟩⟩, by show [rd b A c ws at5 d (p + numW x + numW y), pack [ex, ey]] = [rd b A c ws at5 d (p + (numW x + numW y)), pack [ex, ey]]; rw [Nat.add_assoc]⟩
   ·refine zS rfl rfl (zQ ag85 rfl rfl rfl .h7 rfl rfl ?_) rfl;refine Vu 0 rfl (yI ag85 rfl .h6 rfl) ?_;refine zS rfl rfl (zQ ag85 rfl rfl rfl .h6 rfl rfl ?_) rfl;refine Vm 2 ?_;rw [show ((d + 1 : Nat) : Int) - 1 = (d : Nat) by omega]
    exact zo [_, _] ⟨⟨b1, _, _, _, rfl, .h7, .inr ⟨rfl, rfl⟩⟩, ⟨b2, _, _, _, rfl, .h6, .inr ⟨rfl, rfl⟩⟩, trivial⟩ _ (.cons .here (Pick.pack2 (.cons .h3 .p1))) ⟨_, ts5, at5, _, hF.symm, hp5, ⟨q, r, pack [ex, ey], rfl, rfl, fun ns h => ⟨hx ns (h.1 _ (.head _)), hy ns (h.1 _ (.tail _ (.head _)))⟩⟩, by show [rd b A c ws at5 d (p + numW x + numW y), pack [ex, ey]] = [rd b A c ws at5 d (p + (numW x + numW y)), pack [ex, ey]]; rw [Nat.add_assoc]⟩
end
section
open Wd Tp Kd
variable {m : Mp} {b c at_ d p : Nat} {A : Option Addr} {ws ts : List Wrd}
theorem SumC.mono {m m' : Mp} {sum : Nat → List Wrd → R NumT} {k : Nat} (h : SumC m b A c ws sum k) (hl : Le m m') : SumC m' b A c ws sum k := fun m2 h2 => h m2 (hl.trans h2)
theorem whos_at {i : Nat} (h : i < whos.length) : ([strV sLife, strV sHand, strV sDeck, strV sUnits] : List Value)[i]? = some (strV whos[i].1) := by
 match i, h with
 | 0, _ => rfl
 | 1, _ => rfl
 | 2, _ => rfl
 | 3, _ => rfl
theorem whos_op {i : Nat} (h : i < whos.length) : whos[i].2 = 1 + (i : Nat) := by
 match i, h with
 | 0, _ => rfl
 | 1, _ => rfl
 | 2, _ => rfl
 | 3, _ => rfl
theorem Xc {i : Nat} (h : i < whos.length) : Ascii whos[i].1 ∧ whos[i].1.length ≤ 1000 := ascs (whos.map (·.1)) rfl _ (List.mem_map.2 ⟨whos[i], List.getElem_mem h, rfl⟩)
theorem one173 {sum : Nat → List Wrd → R NumT} {k : Nat} (hw : WsR m A ws) (hp : Pos ws at_ ts) (hd8 : d ≤ 8) (hb : p + ts.length ≤ 4611686018427387904) (hk0 : ts.length < k + 1) (hse : ∀ d ts, ts.length < k → Tp.Ends (sum d ts) numW ts.length) (hsum : SumC m b A c ws sum k) :
  RdC 174 [ptr b] m b A c ws at_ d p (pOne sum d ts) numW numV := by
 generalize hF : pOne sum d ts = F;unfold pOne at hF;have hsm := hp.small;have hlt := hp.lt;refine z6 [.cell 2 85] Tryz.func174 rfl rfl rfl ?_;refine tr 2 ?_;refine Al 6 zl85 fun b1 => ?_;refine C1 cl50 rfl .h1 (fun m' hm he => is18 (s := sOpen) (hw.mono hm) hp (asc _ rfl) (by decide)) ?_;rintro _ _ ⟨rfl, rfl⟩;cases hko : isW sOpen ts with
 | true =>
   rw [if_pos hko] at hF;refine vr 6 ?_;refine Cp cl180 rfl .k0 (fun m' hm he => brackets181 (two := false) (hw.mono hm) hp hd8 hb hk0 hse (hsum.mono hm)) ?_ ?_
   ·rintro _ _ ⟨e', a', h1, rfl⟩;rw [h1] at hF;exact pn ⟨e', a', hF.symm, rfl⟩
   rintro _ _ ⟨x, ts1, at1, _, h1, hp1, ⟨q, r, e, rfl, rfl, hx⟩, rfl⟩;rw [h1] at hF;dsimp only [R.bind] at hF;clear h1;refine vr 3 ?_;refine Al 0 zl85 fun b2 => ?_;refine Al 0 zl85 fun b3 => ?_;refine Sg 0 ag85 .h1 ?_;refine Sg 4 ag85 .here ?_;refine Lc 0 ag85 .h1 ?_;refine Sg 4 ag85 .h4 ?_
   exact zo [_] ⟨⟨b1, _, _, _, rfl, .h4, .inr ⟨rfl, rfl⟩⟩, trivial⟩ _ (.cons .h2 .p2) ⟨x.1, ts1, at1, _, hF.symm, hp1, ⟨q, e, rfl, rfl, fun ns h => (hx ns h).1⟩, rfl⟩
 | false =>
 rw [if_neg (by rw [hko]; decide)] at hF;have hat := hp.word hw;have hA := hp.isSome hw;refine vr 10 ?_;refine Lb 0 sg3 .here ?_;refine Pa 2 ?_;refine Sr 4 co3 .here .h3 ?_;refine zc (sT [0, 1, 2, 4, 5, 6, 103, 107, 8, 9, 110, 11] .done) mixed (by kernel_rfl) (fun _ _ _ _ hq => hq) ?_;refine vt 6 ?_;refine Vl 0 rfl sg94 .here ?_;refine Vl 0 rfl sg3 .here ?_
 refine Vt 1 rfl (zC ez94 rfl rfl hA (by omega)) ?_;refine Vu 0 rfl (zR sg82 rfl (hat.at_ rfl)) ?_;by_cases h2 : (hd ts).kind = 2
 ·have hnx := hp.next (by omega);rw [if_pos h2] at hF;refine Vt 0 rfl (dt (zz rfl rfl) (by assumption)) ?_;refine Vm 5 ?_;refine Cp cl78 rfl .k0 (fun m' hm he => number57 (hw.mono hm) hp) ?_ ?_
  ·rintro _ _ ⟨e', a', h1, rfl⟩;rw [pNumber, if_pos h2] at h1;cases h1
  rintro _ _ ⟨x, ts1, at1, _, h1, hp1, ⟨rfl, rfl⟩, rfl⟩;rw [pNumber, if_pos h2] at h1;cases h1;refine pe 0 (zT zl85 pl85 rfl rfl) ?_;refine Sg 4 ag85 .h1 ?_
  exact zo [_] ⟨⟨b1, _, _, _, rfl, .h1, .inr ⟨rfl, rfl⟩⟩, trivial⟩ _ (.cons .here (Pick.nilE (.nil _))) ⟨_, ts.tail, at1, _, hF.symm, hp1, ⟨⟨0, (hd ts).n, 0, none, 0, 0⟩, pack [], rfl, rfl, fun ns _ => numPlain (op := 0) ⟨by decide, by decide⟩⟩, by show [rd b A c ws at1 d (p + 1), pack []] = [rd b A c ws at1 d (p + numW (plainN 0 (hd ts).n 0)), pack []]; rw [yb]⟩
 rw [if_neg h2] at hF;refine Vt 0 rfl (df (zz rfl rfl) (by assumption)) ?_;refine Vm 7 ?_;refine Bs 5 sl38 fun b2 => ?_
 refine zZ (α := Nat) (fun i => [(0, ptr b), (2, ptr b1), (42, .slice (some ⟨b2, 0, none⟩) 4 4), (43, .int .i64 4), (44, .int .i64 (i : Nat))]) (fun i => [cel b2 [strV sLife, strV sHand, strV sDeck, strV sUnits] 9, rd b A c ws at_ d (p + 1), cel b1 [.int .i8 0, .int .i64 0, .int .i8 0, .slice none 0 0] 85]) (fun i => i ≤ whos.length ∧ ∀ (j : Nat) (hj : j < whos.length), j < i → isW whos[j].1 ts = false) (fun i => whos.length - i) 0 ⟨rfl, rfl, rfl, rfl, rfl, trivial⟩ (Pick.refl _) ⟨Nat.zero_le _, fun _ _ h => by cases h⟩ ?_
 rintro i ⟨hi, hno⟩;have hwl : whos.length = 4 := rfl;by_cases hli : i < whos.length
 ·have hcx : ([strV sLife, strV sHand, strV sDeck, strV sUnits] : List Value)[i]? = some (strV whos[i].1) := whos_at hli;have hfa := fun h => uo (ts := ts) hli h hno;have hw2 := whos_op hli;have hai := Xc hli
  have hnext : isW whos[i].1 ts = false → ∀ (j : Nat) (hj : j < whos.length), j < i + 1 → isW whos[j].1 ts = false := fun h j hj h2 => by
   by_cases hji : j < i
   ·exact hno j hj hji
   ·obtain rfl : j = i := by omega
    exact h
  generalize whos[i] = sg at hcx hfa hw2 hai hnext;refine tr 2 ?_;refine cto 11 ?_;refine pe 0 (zm ez38 rfl rfl rfl (by omega)) ?_;refine lr 8 (qn sg9 rfl .here hcx) ?_;refine C1 cl77 rfl .h1 (fun m' hm he => take56 (s := sg.1) (hw.mono hm) hp hai.1 hai.2) ?_;rintro _ _ (⟨hk1, hp1, rfl, rfl⟩ | ⟨hk1, rfl, rfl⟩)
  rotate_left
  ·refine vr 7 ?_;refine Pa 2 ?_;exact QR (i + 1) (.cons .h1 .pp) ⟨hli, hnext hk1⟩ (by omega)
  have hl1 := zh hk1;rw [hfa hk1] at hF;dsimp only at hF;refine vr 6 ?_;refine Bs 0 sl38 fun b3 => ?_;refine Cp cl79 rfl .k1 (fun m' hm he => must58 (s := sOpen) (hw.mono hm) (Rd.blk (he _ (.head _))) (asc _ rfl) (by decide) hp1) ?_ ?_
  ·rintro _ _ ⟨e', a', h1, rfl⟩;rw [h1] at hF;refine zp ?_;refine ze ?_;exact pn ⟨e', a', hF.symm, rfl⟩
  rintro _ _ ⟨_, ts2, at2, _, h1, hp2, ⟨rfl, rfl⟩, rfl⟩;rw [h1] at hF;dsimp only [R.bind] at hF;have hl2 : 1 + ts2.length ≤ ts.tail.length := (zP (s := sOpen) (ts := ts.tail)).2 _ _ h1;clear h1;refine vr 5 ?_;refine pe 0 ((yK us3 ik82 rfl (w8 (by omega) (by omega)))) ?_;skip;refine pe 1 ((zy rfl rfl (w8 (by omega) (by omega)))) ?_
  refine Cp cl141 rfl .k0 (fun m' hm he => side128 (hw.mono hm) hp2) ?_ ?_
  ·rintro _ _ ⟨e', a', h1, rfl⟩;rw [h1] at hF;refine zp ?_;refine ze ?_;exact pn ⟨e', a', hF.symm, rfl⟩
  rintro _ _ ⟨w, ts3, at3, _, h1, hp3, ⟨rfl, rfl⟩, rfl⟩;rw [h1] at hF;dsimp only [R.bind] at hF;have hl3 : 1 + ts3.length ≤ ts2.length := (yX (ts := ts2)).2 _ _ h1;clear h1;refine pe 0 (zT zl85 pl85 rfl rfl) ?_;refine Al 0 zl85 fun b4 => ?_;refine Sg 5 ag85 .here ?_;refine Bs 0 sl38 fun b5 => ?_
  refine Cp cl79 rfl .k2 (fun m' hm he => must58 (s := sClose) (hw.mono hm) (Rd.blk (he _ (.head _))) (asc _ rfl) (by decide) hp3) ?_ ?_
  ·rintro _ _ ⟨e', a', h1, rfl⟩;rw [h1] at hF;refine zp ?_;refine ze ?_;exact pn ⟨e', a', hF.symm, rfl⟩
  rintro _ _ ⟨_, ts4, at4, _, h1, hp4, ⟨rfl, rfl⟩, rfl⟩;rw [h1] at hF;dsimp only [R.bind] at hF;have hl4 : 1 + ts4.length ≤ ts3.length := (zP (s := sClose) (ts := ts3)).2 _ _ h1;clear h1;rw [show ((1 : Int) + (i : Nat)) = sg.2 by omega];refine vr 4 ?_;refine Lc 0 ag85 .h2 ?_;refine Sg 5 ag85 .h5 ?_;refine zI ?_;refine zH ?_;refine zL ?_
  exact zo [_] ⟨⟨b1, _, _, _, rfl, .h5, .inr ⟨rfl, rfl⟩⟩, trivial⟩ _ (.cons .here (Pick.nilE (.nil _))) ⟨_, ts4, at4, _, hF.symm, hp4, ⟨⟨sg.2, 0, w, none, 0, 0⟩, pack [], rfl, rfl, fun ns _ => numPlain (op := sg.2) ⟨by omega, by omega⟩⟩, by show [rd b A c ws at4 d (p + 1), pack []] = [rd b A c ws at4 d (p + numW (plainN sg.2 0 w)), pack []]; rw [yb]⟩
 rw [un (signs := whos) (ts := ts) fun j hj => hno j hj (by omega)] at hF;dsimp only at hF;refine tr 2 ?_;refine cfo 6 ?_;refine zG ?_;refine zF ?_;refine qt 6 ?_;clear hno hi hli;refine C1 cl77 rfl .h1 (fun m' hm he => take56 (s := sMana) (hw.mono hm) hp (asc _ rfl) (by decide)) ?_;rintro _ _ (⟨hk, hp1, rfl, rfl⟩ | ⟨hk, rfl, rfl⟩)
 ·have hl1 := zh hk;rw [if_pos hk] at hF;refine vr 7 ?_;refine Bs 0 sl38 fun b3 => ?_;refine Cp cl79 rfl .k1 (fun m' hm he => musts58 (l := [sOpen, sMe, sClose]) (hw.mono hm) (Rd.blk (he _ (.head _))) (by decide) (ascs _ rfl) hp1) ?_ ?_
  ·rintro _ _ ⟨e', a', h1, rfl⟩;rw [h1] at hF;exact pn ⟨e', a', hF.symm, rfl⟩
  rintro _ _ ⟨_, ts2, at2, _, h1, hp2, ⟨rfl, rfl⟩, rfl⟩;rw [h1] at hF;dsimp only [R.bind] at hF;clear h1;refine vr 4 ?_;refine pe 0 (zT zl85 pl85 rfl rfl) ?_;refine Sg 5 ag85 .h3 ?_
  exact zo [_] ⟨⟨b1, _, _, _, rfl, .h3, .inr ⟨rfl, rfl⟩⟩, trivial⟩ _ (.cons .here (Pick.nilE (.nil _))) ⟨_, ts2, at2, _, hF.symm, hp2, ⟨⟨5, 0, 0, none, 0, 0⟩, pack [], rfl, rfl, fun ns _ => numPlain (op := 5) ⟨by decide, by decide⟩⟩, by show [rd b A c ws at2 d (p + 1), pack []] = [rd b A c ws at2 d (p + numW (plainN 5 0 0)), pack []]; rw [yb]⟩
 rw [if_neg (by rw [hk]; decide)] at hF;refine vr 7 ?_;refine C1 cl77 rfl .here (fun m' hm he => take56 (s := sCost) (hw.mono hm) hp (asc _ rfl) (by decide)) ?_;rintro _ _ (⟨hk, hp1, rfl, rfl⟩ | ⟨hk, rfl, rfl⟩)
 ·have hl1 := zh hk;rw [if_pos hk] at hF;refine vr 7 ?_;refine Bs 0 sl38 fun b3 => ?_;refine Cp cl79 rfl .k1 (fun m' hm he => musts58 (l := [sOpen, sTop, sOpen, sMe, sClose, sClose]) (hw.mono hm) (Rd.blk (he _ (.head _))) (by decide) (ascs _ rfl) hp1) ?_ ?_
  ·rintro _ _ ⟨e', a', h1, rfl⟩;rw [h1] at hF;exact pn ⟨e', a', hF.symm, rfl⟩
  rintro _ _ ⟨_, ts2, at2, _, h1, hp2, ⟨rfl, rfl⟩, rfl⟩;rw [h1] at hF;dsimp only [R.bind] at hF;clear h1;refine vr 4 ?_;refine pe 0 (zT zl85 pl85 rfl rfl) ?_;refine Sg 5 ag85 .h3 ?_
  exact zo [_] ⟨⟨b1, _, _, _, rfl, .h3, .inr ⟨rfl, rfl⟩⟩, trivial⟩ _ (.cons .here (Pick.nilE (.nil _))) ⟨_, ts2, at2, _, hF.symm, hp2, ⟨⟨6, 0, 0, none, 0, 0⟩, pack [], rfl, rfl, fun ns _ => numPlain (op := 6) ⟨by decide, by decide⟩⟩, by show [rd b A c ws at2 d (p + 1), pack []] = [rd b A c ws at2 d (p + numW (plainN 6 0 0)), pack []]; rw [yb]⟩
 rw [if_neg (by rw [hk]; decide)] at hF;refine vr 7 ?_;refine C1 cl77 rfl .here (fun m' hm he => take56 (s := sPower) (hw.mono hm) hp (asc _ rfl) (by decide)) ?_;rintro _ _ (⟨hk, hp1, rfl, rfl⟩ | ⟨hk, rfl, rfl⟩)
 ·have hl1 := zh hk;rw [if_pos hk] at hF;refine vr 7 ?_;refine Bs 0 sl38 fun b3 => ?_;refine Cp cl79 rfl .k1 (fun m' hm he => musts58 (l := [sOpen, sTarget, sClose]) (hw.mono hm) (Rd.blk (he _ (.head _))) (by decide) (ascs _ rfl) hp1) ?_ ?_
  ·rintro _ _ ⟨e', a', h1, rfl⟩;rw [h1] at hF;exact pn ⟨e', a', hF.symm, rfl⟩
  rintro _ _ ⟨_, ts2, at2, _, h1, hp2, ⟨rfl, rfl⟩, rfl⟩;rw [h1] at hF;dsimp only [R.bind] at hF;clear h1;refine vr 4 ?_;refine pe 0 (zT zl85 pl85 rfl rfl) ?_;refine Sg 5 ag85 .h3 ?_
  exact zo [_] ⟨⟨b1, _, _, _, rfl, .h3, .inr ⟨rfl, rfl⟩⟩, trivial⟩ _ (.cons .here (Pick.nilE (.nil _))) ⟨_, ts2, at2, _, hF.symm, hp2, ⟨⟨7, 0, 0, none, 0, 0⟩, pack [], rfl, rfl, fun ns _ => numPlain (op := 7) ⟨by decide, by decide⟩⟩, by show [rd b A c ws at2 d (p + 1), pack []] = [rd b A c ws at2 d (p + numW (plainN 7 0 0)), pack []]; rw [yb]⟩
 rw [if_neg (by rw [hk]; decide)] at hF;refine vr 7 ?_;refine C1 cl77 rfl .here (fun m' hm he => take56 (s := sMin) (hw.mono hm) hp (asc _ rfl) (by decide)) ?_;rintro _ _ (⟨hk, hp1, rfl, rfl⟩ | ⟨hk, rfl, rfl⟩)
 ·have hl1 := zh hk;rw [if_pos hk] at hF;refine vr 7 ?_;refine Cp cl180 rfl .k0 (fun m' hm he => brackets181 (two := true) (hw.mono hm) hp1 hd8 (by omega) (by omega) hse (hsum.mono hm)) ?_ ?_
  ·rintro _ _ ⟨e', a', h1, rfl⟩;rw [h1] at hF;exact pn ⟨e', a', hF.symm, rfl⟩
  rintro _ _ ⟨x, ts2, at2, _, h1, hp2, ⟨q, r, e, rfl, rfl, hx⟩, rfl⟩;rw [h1] at hF;dsimp only [R.bind] at hF;clear h1;refine vr 3 ?_;refine Al 0 zl85 fun b3 => ?_;refine Al 0 zl85 fun b4 => ?_;refine Sg 0 ag85 .h1 ?_;refine Sg 4 ag85 .here ?_;refine Lc 0 ag85 .h1 ?_;refine Lc 0 ag85 .here ?_;refine zE ((zW cl158 rfl (fun m' hm he => pair151) rfl ?_)) rfl;rintro _ _ ⟨K, rfl, rfl⟩
  refine Sg 5 ag85 .h6 ?_
  exact zo [_] ⟨⟨b1, _, _, _, rfl, .h6, .inr ⟨rfl, rfl⟩⟩, trivial⟩ _ (.cons .h3 (Pick.pack2 (.cons .here .p2))) ⟨putN 11 x.1 x.2, ts2, at2, _, hF.symm, hp2, ⟨⟨11, 0, 0, some ⟨K, 0, none⟩, 2, 2⟩, pack [cel K (q.v ++ r.v) 85, e], rfl, rfl, fun ns h => numPair (op := 11) ⟨by decide, by decide⟩ (h.1 _ (.head _)) (hx ns (h.1 _ (.tail _ (.head _)))).1 (hx ns (h.1 _ (.tail _ (.head _)))).2⟩, by show [rd b A c ws at2 d (p + 1 + (numW x.1 + numW x.2)), pack [cel K (q.v ++ r.v) 85, e]] = [rd b A c ws at2 d (p + numW (putN 11 x.1 x.2)), pack [cel K (q.v ++ r.v) 85, e]]; rw [xm]; congr 2; omega⟩
 rw [if_neg (by rw [hk]; decide)] at hF;refine vr 7 ?_;refine C1 cl77 rfl .here (fun m' hm he => take56 (s := sMax) (hw.mono hm) hp (asc _ rfl) (by decide)) ?_;rintro _ _ (⟨hk, hp1, rfl, rfl⟩ | ⟨hk, rfl, rfl⟩)
 ·have hl1 := zh hk;rw [if_pos hk] at hF;refine vr 7 ?_;refine Cp cl180 rfl .k0 (fun m' hm he => brackets181 (two := true) (hw.mono hm) hp1 hd8 (by omega) (by omega) hse (hsum.mono hm)) ?_ ?_
  ·rintro _ _ ⟨e', a', h1, rfl⟩;rw [h1] at hF;exact pn ⟨e', a', hF.symm, rfl⟩
  rintro _ _ ⟨x, ts2, at2, _, h1, hp2, ⟨q, r, e, rfl, rfl, hx⟩, rfl⟩;rw [h1] at hF;dsimp only [R.bind] at hF;clear h1;refine vr 3 ?_;refine Al 0 zl85 fun b3 => ?_;refine Al 0 zl85 fun b4 => ?_;refine Sg 0 ag85 .h1 ?_;refine Sg 4 ag85 .here ?_;refine Lc 0 ag85 .h1 ?_;refine Lc 0 ag85 .here ?_;refine zE ((zW cl158 rfl (fun m' hm he => pair151) rfl ?_)) rfl;rintro _ _ ⟨K, rfl, rfl⟩
  refine Sg 5 ag85 .h6 ?_
  exact zo [_] ⟨⟨b1, _, _, _, rfl, .h6, .inr ⟨rfl, rfl⟩⟩, trivial⟩ _ (.cons .h3 (Pick.pack2 (.cons .here .p2))) ⟨putN 12 x.1 x.2, ts2, at2, _, hF.symm, hp2, ⟨⟨12, 0, 0, some ⟨K, 0, none⟩, 2, 2⟩, pack [cel K (q.v ++ r.v) 85, e], rfl, rfl, fun ns h => numPair (op := 12) ⟨by decide, by decide⟩ (h.1 _ (.head _)) (hx ns (h.1 _ (.tail _ (.head _)))).1 (hx ns (h.1 _ (.tail _ (.head _)))).2⟩, by show [rd b A c ws at2 d (p + 1 + (numW x.1 + numW x.2)), pack [cel K (q.v ++ r.v) 85, e]] = [rd b A c ws at2 d (p + numW (putN 12 x.1 x.2)), pack [cel K (q.v ++ r.v) 85, e]]; rw [xm]; congr 2; omega⟩
 rw [if_neg (by rw [hk]; decide)] at hF;refine vr 10 ?_;refine Cp cl51 rfl .k0 (fun m' hm he => bad19 120 (hw.mono hm) hp) ?_ ?_
 ·rintro _ _ rfl;exact pn ⟨120, _, hF.symm, rfl⟩
 ·rintro _ _ h;exact h.elim
end
section
open Wd Tp Kd
variable {m : Mp} {b c at_ d p : Nat} {A : Option Addr} {ws ts : List Wrd}
theorem k9 : SignsOk sumSigns := ⟨by decide, fun s hs => by
 simp only [sumSigns, List.mem_cons, List.not_mem_nil, or_false] at hs
 rcases hs with rfl | rfl <;> exact ⟨asc _ rfl, by decide, by decide, by decide⟩⟩
theorem ZK : SignsOk mulSigns := ⟨by decide, fun s hs => by
 simp only [mulSigns, List.mem_cons, List.not_mem_nil, or_false] at hs
 rcases hs with rfl <;> exact ⟨asc _ rfl, by decide, by decide, by decide⟩⟩
theorem term150 {sum : Nat → List Wrd → R NumT} {k n : Nat} (hw : WsR m A ws) (hp : Pos ws at_ ts) (hd8 : d ≤ 8) (hb : p + ts.length ≤ 4611686018427387904) (hk0 : ts.length < k + 1) (hn : ts.length < n) (hse : ∀ d ts, ts.length < k → Tp.Ends (sum d ts) numW ts.length) (hsum : SumC m b A c ws sum k) :
  RdC 157 [ptr b] m b A c ws at_ d p (pTerm sum n d ts) numW numV := by
 refine z6 [.cell 2 85] Tryz.func157 rfl rfl rfl ?_;refine tr 2 ?_;refine Al 5 zl85 fun b1 => ?_;refine Bs 0 sl38 fun b2 => ?_;refine Bs 2 sl217 fun b3 => ?_
 refine zE (yZ cl156 rfl .k3 (fun m' hm he => row149 (k := k + 1) (signs := mulSigns) cl174 (hw.mono hm) ⟨Rd.blk (he _ (.tail _ (.head _))), Rd.blk (he _ (.head _))⟩ ZK (fun ts h => qx hse ts h)
  (fun m2 h2 at_ p ts hp hb hk => one173 (hw.mono (hm.trans h2)) hp hd8 hb hk hse (hsum.mono (hm.trans h2))) hp hb hn hk0) rfl ?_ ?_) rfl
 ·rintro _ _ ⟨e', a', h1, rfl⟩;exact pn ⟨e', a', h1, rfl⟩
 rintro _ _ ⟨x, ts1, at1, _, h1, hp1, ⟨q, e, rfl, rfl, hx⟩, rfl⟩;refine Sg 3 ag85 .h4 ?_;exact zo [_] ⟨⟨b1, _, _, _, rfl, .h4, .inr ⟨rfl, rfl⟩⟩, trivial⟩ _ .pp ⟨x, ts1, at1, _, h1, hp1, ⟨q, e, rfl, rfl, hx⟩, rfl⟩
theorem sum127 : ∀ (n : Nat) {m : Mp}, WsR m A ws → SumC m b A c ws (pSum n) n
 | 0, _, _ => fun m' hm at_ d p ts hp hd8 hb hk => by cases hk
 | n + 1, m, hw => fun m' hm at_ d p ts hp hd8 hb hk => by
   refine z6 [.cell 2 85] Tryz.func140 rfl rfl rfl ?_;refine tr 2 ?_;refine Al 5 zl85 fun b1 => ?_;refine Bs 0 sl38 fun b2 => ?_;refine Bs 2 sl217 fun b3 => ?_
   refine zE (yZ cl156 rfl .k3 (fun m1 h1 he => row149 (k := n + 1) (n := n + 1) (signs := sumSigns) cl157 (hw.mono (hm.trans h1)) ⟨Rd.blk (he _ (.tail _ (.head _))), Rd.blk (he _ (.head _))⟩ k9
    (fun ts h => wX (k := n + 1) (fun ts h => qx (ye n) ts h) xm (n + 1) ts h h)
    (fun m2 h2 at_ p ts hp hb hk => term150 (k := n) (hw.mono (hm.trans (h1.trans h2))) hp hd8 hb hk hk (ye n) (sum127 n (hw.mono (hm.trans (h1.trans h2))))) hp hb hk hk) rfl ?_ ?_) rfl
   ·rintro _ _ ⟨e', a', h1, rfl⟩;exact pn ⟨e', a', h1, rfl⟩
   rintro _ _ ⟨x, ts1, at1, _, h1, hp1, ⟨q, e, rfl, rfl, hx⟩, rfl⟩;refine Sg 3 ag85 .h4 ?_;exact zo [_] ⟨⟨b1, _, _, _, rfl, .h4, .inr ⟨rfl, rfl⟩⟩, trivial⟩ _ .pp ⟨x, ts1, at1, _, h1, hp1, ⟨q, e, rfl, rfl, hx⟩, rfl⟩
end
section
open Wd Tp Kd
variable {m : Mp} {b c at_ d p : Nat} {A : Option Addr} {ws ts : List Wrd}
theorem kz : ∀ (ws : List Wrd) (k : Nat), (wsV ws).drop (k * 4) = wsV (ws.drop k)
 | ws, 0 => by simp
 | [], k + 1 => by simp [wsV]
 | w :: r, k + 1 => by
   have ih := kz r k
   have : (wsV (w :: r)).drop ((k + 1) * 4) = (wsV r).drop (k * 4) := by
    simp only [wsV, List.flatMap_cons];rw [show (k + 1) * 4 = (wV w).length + k * 4 by simp [wV]; omega, ← List.drop_drop, List.drop_left]
   rw [this, ih, List.drop_succ_cons]
def numNext (w : Wrd) : Bool := decide (w.text ∈ [sLt, sLe, sEq, sPlus, sMinus, sStar])
theorem Z2 (d : Int) (w : Wrd) (r : List Wrd) : outer d (w :: r) = if w.kind ≠ 3 then outer d r else if 0 < (if w.text = sOpen then d + 1 else if w.text = sClose then d - 1 else d) then outer (if w.text = sOpen then d + 1 else if w.text = sClose then d - 1 else d) r else if (hd r).kind ≠ 3 then true else !numNext (hd r) := by
 rw [outer]
 rfl
theorem outer182 (hw : WsR m A ws) (hp : Pos ws at_ ts) (hcap : ws.length ≤ c) : CS Tryz.prog 181 [ptr b] m [rd b A c ws at_ d p] (fun v L' => v = .bool (outer 0 ts) ∧ L' = [rd b A c ws at_ d p]) := by
 have hsm := hp.small;have hlt := hp.lt;have hlen := hp.len;have hA := hp.isSome hw
 have hS : Rd m (cutA A at_ c 4) (wsV ts) := by
  have := hw.cut (l := at_) (mm := c) (sz := 4) ts.length (by omega);rwa [kz, hp.eq, List.take_of_length_le (by rw [j3]; omega)] at this
 have hS1 : (cutA A at_ c 4).isSome = true := hS.isSome (by rw [j3]; have := hp.good.ne; have : 0 < ts.length := List.length_pos_iff.2 this; omega);refine zl [.tmp 2] Tryz.func181 rfl rfl rfl ?_;generalize hF : outer 0 ts = F;refine tr 12 ?_;refine zc (sT [0, 1, 2, 4, 5, 6, 10, 103, 107, 8, 9] .done) mixed (by kernel_rfl) (fun _ _ _ _ hq => hq) ?_;refine vt 7 ?_
 refine Vl 0 rfl sg94 .here ?_;refine Vl 0 rfl sg3 .here ?_;refine Vt 1 rfl (XP _ ez94 rfl rfl rfl (by omega)) ?_;refine Vm 2 ?_
 refine zZ (α := Nat × Int) (fun y => [(0, ptr b), (3, .int .i64 y.2), (15, .slice (cutA A at_ c 4) (ws.length - at_) (c - at_)), (16, .int .i64 ((ws.length - at_ : Nat) : Int)), (17, .int .i64 (y.1 : Nat))]) (fun _ => [rd b A c ws at_ d p]) (fun y => y.1 ≤ ts.length ∧ -(y.1 : Int) ≤ y.2 ∧ y.2 ≤ y.1 ∧ outer y.2 (ts.drop y.1) = F) (fun y => ts.length - y.1) (0, 0) ⟨rfl, rfl, rfl, rfl, rfl, trivial⟩ (Pick.refl _) ⟨Nat.zero_le _, by decide, by decide, hF⟩ ?_
 rintro ⟨i, z⟩ ⟨hi, hz1, hz2, ho⟩;dsimp only at hi hz1 hz2 ho;dsimp only;by_cases hli : i < ts.length
 rotate_left
 ·rw [List.drop_eq_nil_of_le (by omega), outer] at ho;subst ho;refine tr 2 ?_;refine cfo 6 ?_;refine zG ?_;refine zF ?_;refine qt 7 ?_;exact zb [_] ⟨rfl, trivial⟩ [_] .p0 ⟨rfl, rfl⟩
 have hat := hS.elem (i * 4) 4;rw [j4 hli] at hat;rw [List.drop_eq_getElem_cons hli, Z2] at ho
 -- the next word, if this one is a mark
 have hnx : ts[i].kind = 3 → at_ + i + 1 < ws.length ∧ ∃ w, hd (ts.drop (i + 1)) = w ∧ At m ((sa A).add ((at_ + i + 1) * 4)) [.int .i8 w.kind, .string (bs w.text), .int .i64 w.n, .int .i64 w.at_] := fun h3 => by
  have h1 : i + 1 < ts.length := by
   by_cases h : i + 1 < ts.length
   ·exact h
   ·have hg := hp.good;have hl : i = ts.length - 1 := by omega
    exfalso
    have key : ∀ {l : List Wrd}, GoodT l → ∀ (h : l.length - 1 < l.length), l[l.length - 1].kind = 0 := fun {l} hg => by
     induction hg with
     | last h => intro _; exact h
     | @cons w r h _ _ hr ih =>
       intro _;have hr0 : 0 < r.length := List.length_pos_iff.2 hr.ne;have := ih (by omega);simp only [List.length_cons, Nat.add_sub_cancel];rw [List.getElem_cons]
       split
       ·omega
       ·exact this
    have := key hg (by omega);subst hl;omega
  have h2 : at_ + i + 1 < ws.length := by omega
  refine ⟨h2, ts[i + 1], ?_, ?_⟩
  ·rw [List.drop_eq_getElem_cons h1]; rfl
  ·have h3 := hw.elem ((at_ + i + 1) * 4) 4;rw [j4 h2] at h3
   have h4 : ws[at_ + i + 1] = ts[i + 1] := by
    have := hp.eq;subst this;rw [List.getElem_drop]
    congr 1
   rw [h4] at h3;exact h3
 generalize hw0 : ts[i] = w at hat ho hnx;unfold wV at hat;by_cases h3 : w.kind = 3
 rotate_left
 ·rw [if_pos h3] at ho;refine tr 2 ?_;refine cto 11 ?_;refine pe 0 (zC ez94 rfl rfl hS1 (by omega)) ?_;refine La 0 ag101 hat ?_;refine Al 1 zl101 fun b1 => ?_;refine Sg 6 ag101 .here ?_;refine Lb 0 sg82 .here ?_;refine cta 8 ?_;refine Pa 2 ?_;exact QR (i + 1, z) .p1 ⟨hli, by dsimp only; omega, by dsimp only; omega, ho⟩ (by dsimp only; omega)
 obtain ⟨hn1, w2, hn2, hn3⟩ := hnx h3;rw [if_neg (by simp [h3]), hn2] at ho;refine tr 2 ?_;refine cto 11 ?_;refine pe 0 (zC ez94 rfl rfl hS1 (by omega)) ?_;refine La 0 ag101 hat ?_;refine Al 1 zl101 fun b1 => ?_;refine Sg 6 ag101 .here ?_;refine Lb 0 sg82 .here ?_;refine cfo 7 ?_
 refine vA (α := Int) (fun z' => [(0, ptr b), (4, .int .i64 (i : Nat)), (15, .slice (cutA A at_ c 4) (ws.length - at_) (c - at_)), (16, .int .i64 ((ws.length - at_ : Nat) : Int)), (17, .int .i64 (i : Nat)), (3, .int .i64 z')]) (fun _ => [rd b A c ws at_ d p]) (fun z' => z' = if w.text = sOpen then z + 1 else if w.text = sClose then z - 1 else z) ?_ ?_
 ·by_cases h1 : w.text = sOpen
  ·rw [if_pos h1];refine tr 2 ?_;refine Lb 5 sg9 .here ?_;refine cta 6 ?_;refine Pa 3 ?_;exact QR (z + 1) .p1 rfl (by decide)
  rw [if_neg h1];by_cases h2 : w.text = sClose
  ·rw [if_pos h2];refine tr 2 ?_;refine Lb 5 sg9 .here ?_;refine cfa 6 ?_;refine cta 6 ?_;refine pe 3 (jV rfl rfl (w64 (by omega) (by omega))) ?_;exact QR (z - 1) .p1 rfl (by decide)
  rw [if_neg h2];refine tr 2 ?_;refine Lb 5 sg9 .here ?_;refine cfa 6 ?_;refine cfa 6 ?_;exact QR z .p1 rfl (by decide)
 intro z' hz';rw [← hz'] at ho
 have hzz : -((i : Int) + 1) ≤ z' ∧ z' ≤ (i : Int) + 1 := by
  rw [hz']
  split
  ·omega
  ·split <;> omega
 clear hz';by_cases hpos : 0 < z'
 ·rw [if_pos hpos] at ho;have hgt : z' > 0 := hpos;refine tr 4 ?_;refine cta 8 ?_;refine Pa 2 ?_;exact QR (i + 1, z') .p0 ⟨hli, by dsimp only; omega, by dsimp only; omega, ho⟩ (by dsimp only; omega)
 rw [if_neg hpos] at ho;have hgt : ¬ z' > 0 := hpos;by_cases hk3 : w2.kind = 3
 rotate_left
 ·rw [if_pos hk3] at ho;subst ho;refine tr 4 ?_;refine cfa 6 ?_;refine zc (sT [0, 1, 2, 4, 5, 6, 8, 103, 107, 9, 10, 11, 112, 213, 314] .done) mixed (by kernel_rfl) (fun _ _ _ _ hq => hq) ?_;refine vt 7 ?_;refine Vl 0 rfl sg94 .here ?_;refine Vl 0 rfl sg3 .here ?_;refine Vt 0 rfl (xi rfl rfl (by omega)) ?_;refine Vt 0 rfl (zy rfl rfl (w64 (by omega) (by omega))) ?_
  refine Vt 0 rfl (zC ez94 rfl rfl hA (by omega)) ?_;refine Vu 0 rfl (zg ag101 rfl rfl hn3) ?_;refine zn rfl (z8 zl101 rfl (fun b2 => ?_)) rfl;refine zS rfl rfl (zQ ag101 rfl rfl rfl .here rfl rfl ?_) rfl;refine Vm 5 ?_;refine Lb 0 sg82 .here ?_;refine cta 12 ?_;refine zI ?_;refine zH ?_;refine zL ?_
  exact zb [_] ⟨rfl, trivial⟩ [_] .p1 ⟨rfl, rfl⟩
 rw [if_neg (by simp [hk3])] at ho;unfold numNext at ho;by_cases e1 : w2.text = sLt
 ·have e : F = false := by rw [← ho]; simp [e1]
  subst e;refine tr 4 ?_;refine cfa 6 ?_;refine zc (sT [0, 1, 2, 4, 5, 6, 8, 103, 107, 9, 10, 11, 112, 213, 314] .done) mixed (by kernel_rfl) (fun _ _ _ _ hq => hq) ?_;refine vt 7 ?_;refine Vl 0 rfl sg94 .here ?_;refine Vl 0 rfl sg3 .here ?_;refine Vt 0 rfl (xi rfl rfl (by omega)) ?_;refine Vt 0 rfl (zy rfl rfl (w64 (by omega) (by omega))) ?_
  refine Vt 0 rfl (zC ez94 rfl rfl hA (by omega)) ?_;refine Vu 0 rfl (zg ag101 rfl rfl hn3) ?_;refine zn rfl (z8 zl101 rfl (fun b2 => ?_)) rfl;refine zS rfl rfl (zQ ag101 rfl rfl rfl .here rfl rfl ?_) rfl;refine Vm 5 ?_;refine Lb 0 sg82 .here ?_;refine cfo 9 ?_;refine Lb 6 sg9 .here ?_;refine cta 17 ?_;refine zI ?_;refine zH ?_
  refine zL ?_;exact zb [_] ⟨rfl, trivial⟩ [_] .p1 ⟨rfl, rfl⟩
 by_cases e2 : w2.text = sLe
 ·have e : F = false := by rw [← ho]; simp [e2]
  subst e;refine tr 4 ?_;refine cfa 6 ?_;refine zc (sT [0, 1, 2, 4, 5, 6, 8, 103, 107, 9, 10, 11, 112, 213, 314] .done) mixed (by kernel_rfl) (fun _ _ _ _ hq => hq) ?_;refine vt 7 ?_;refine Vl 0 rfl sg94 .here ?_;refine Vl 0 rfl sg3 .here ?_;refine Vt 0 rfl (xi rfl rfl (by omega)) ?_;refine Vt 0 rfl (zy rfl rfl (w64 (by omega) (by omega))) ?_
  refine Vt 0 rfl (zC ez94 rfl rfl hA (by omega)) ?_;refine Vu 0 rfl (zg ag101 rfl rfl hn3) ?_;refine zn rfl (z8 zl101 rfl (fun b2 => ?_)) rfl;refine zS rfl rfl (zQ ag101 rfl rfl rfl .here rfl rfl ?_) rfl;refine Vm 5 ?_;refine Lb 0 sg82 .here ?_;refine cfo 9 ?_;refine Lb 6 sg9 .here ?_;refine cfa 6 ?_;refine cta 17 ?_;refine zI ?_
  refine zH ?_;refine zL ?_;exact zb [_] ⟨rfl, trivial⟩ [_] .p1 ⟨rfl, rfl⟩
 by_cases e3 : w2.text = sEq
 ·have e : F = false := by rw [← ho]; simp [e3]
  subst e;refine tr 4 ?_;refine cfa 6 ?_;refine zc (sT [0, 1, 2, 4, 5, 6, 8, 103, 107, 9, 10, 11, 112, 213, 314] .done) mixed (by kernel_rfl) (fun _ _ _ _ hq => hq) ?_;refine vt 7 ?_;refine Vl 0 rfl sg94 .here ?_;refine Vl 0 rfl sg3 .here ?_;refine Vt 0 rfl (xi rfl rfl (by omega)) ?_;refine Vt 0 rfl (zy rfl rfl (w64 (by omega) (by omega))) ?_
  refine Vt 0 rfl (zC ez94 rfl rfl hA (by omega)) ?_;refine Vu 0 rfl (zg ag101 rfl rfl hn3) ?_;refine zn rfl (z8 zl101 rfl (fun b2 => ?_)) rfl;refine zS rfl rfl (zQ ag101 rfl rfl rfl .here rfl rfl ?_) rfl;refine Vm 5 ?_;refine Lb 0 sg82 .here ?_;refine cfo 9 ?_;refine Lb 6 sg9 .here ?_;refine cfa 6 ?_;refine cfa 6 ?_;refine cta 17 ?_;refine zI ?_
  refine zH ?_;refine zL ?_;exact zb [_] ⟨rfl, trivial⟩ [_] .p1 ⟨rfl, rfl⟩
 by_cases e4 : w2.text = sPlus
 ·have e : F = false := by rw [← ho]; simp [e4]
  subst e;refine tr 4 ?_;refine cfa 6 ?_;refine zc (sT [0, 1, 2, 4, 5, 6, 8, 103, 107, 9, 10, 11, 112, 213, 314] .done) mixed (by kernel_rfl) (fun _ _ _ _ hq => hq) ?_;refine vt 7 ?_;refine Vl 0 rfl sg94 .here ?_;refine Vl 0 rfl sg3 .here ?_;refine Vt 0 rfl (xi rfl rfl (by omega)) ?_;refine Vt 0 rfl (zy rfl rfl (w64 (by omega) (by omega))) ?_
  refine Vt 0 rfl (zC ez94 rfl rfl hA (by omega)) ?_;refine Vu 0 rfl (zg ag101 rfl rfl hn3) ?_;refine zn rfl (z8 zl101 rfl (fun b2 => ?_)) rfl;refine zS rfl rfl (zQ ag101 rfl rfl rfl .here rfl rfl ?_) rfl;refine Vm 5 ?_;refine Lb 0 sg82 .here ?_;refine cfo 9 ?_;refine Lb 6 sg9 .here ?_;refine cfa 6 ?_;refine cfa 6 ?_;refine cfa 6 ?_;refine cta 17 ?_
  refine zI ?_;refine zH ?_;refine zL ?_;exact zb [_] ⟨rfl, trivial⟩ [_] .p1 ⟨rfl, rfl⟩
 by_cases e5 : w2.text = sMinus
 ·have e : F = false := by rw [← ho]; simp [e5]
  subst e;refine tr 4 ?_;refine cfa 6 ?_;refine zc (sT [0, 1, 2, 4, 5, 6, 8, 103, 107, 9, 10, 11, 112, 213, 314] .done) mixed (by kernel_rfl) (fun _ _ _ _ hq => hq) ?_;refine vt 7 ?_;refine Vl 0 rfl sg94 .here ?_;refine Vl 0 rfl sg3 .here ?_;refine Vt 0 rfl (xi rfl rfl (by omega)) ?_;refine Vt 0 rfl (zy rfl rfl (w64 (by omega) (by omega))) ?_
  refine Vt 0 rfl (zC ez94 rfl rfl hA (by omega)) ?_;refine Vu 0 rfl (zg ag101 rfl rfl hn3) ?_;refine zn rfl (z8 zl101 rfl (fun b2 => ?_)) rfl;refine zS rfl rfl (zQ ag101 rfl rfl rfl .here rfl rfl ?_) rfl;refine Vm 5 ?_;refine Lb 0 sg82 .here ?_;refine cfo 9 ?_;refine Lb 6 sg9 .here ?_;refine cfa 6 ?_;refine cfa 6 ?_;refine cfa 6 ?_;refine cfa 6 ?_
  refine cta 17 ?_;refine zI ?_;refine zH ?_;refine zL ?_;exact zb [_] ⟨rfl, trivial⟩ [_] .p1 ⟨rfl, rfl⟩
 by_cases e6 : w2.text = sStar
 ·have e : F = false := by rw [← ho]; simp [e6]
  subst e;refine tr 4 ?_;refine cfa 6 ?_;refine zc (sT [0, 1, 2, 4, 5, 6, 8, 103, 107, 9, 10, 11, 112, 213, 314] .done) mixed (by kernel_rfl) (fun _ _ _ _ hq => hq) ?_;refine vt 7 ?_;refine Vl 0 rfl sg94 .here ?_;refine Vl 0 rfl sg3 .here ?_;refine Vt 0 rfl (xi rfl rfl (by omega)) ?_;refine Vt 0 rfl (zy rfl rfl (w64 (by omega) (by omega))) ?_
  refine Vt 0 rfl (zC ez94 rfl rfl hA (by omega)) ?_;refine Vu 0 rfl (zg ag101 rfl rfl hn3) ?_;refine zn rfl (z8 zl101 rfl (fun b2 => ?_)) rfl;refine zS rfl rfl (zQ ag101 rfl rfl rfl .here rfl rfl ?_) rfl;refine Vm 5 ?_;refine Lb 0 sg82 .here ?_;refine cfo 9 ?_;refine Lb 6 sg9 .here ?_;refine cfa 6 ?_;refine cfa 6 ?_;refine cfa 6 ?_;refine cfa 6 ?_
  refine cfa 5 ?_;refine cta 14 ?_;refine zI ?_;refine zH ?_;refine zL ?_;exact zb [_] ⟨rfl, trivial⟩ [_] .p1 ⟨rfl, rfl⟩
 have e : F = true := by rw [← ho]; simp [e1, e2, e3, e4, e5, e6]
 subst e;refine tr 4 ?_;refine cfa 6 ?_;refine zc (sT [0, 1, 2, 4, 5, 6, 8, 103, 107, 9, 10, 11, 112, 213, 314] .done) mixed (by kernel_rfl) (fun _ _ _ _ hq => hq) ?_;refine vt 7 ?_;refine Vl 0 rfl sg94 .here ?_;refine Vl 0 rfl sg3 .here ?_;refine Vt 0 rfl (xi rfl rfl (by omega)) ?_;refine Vt 0 rfl (zy rfl rfl (w64 (by omega) (by omega))) ?_
 refine Vt 0 rfl (zC ez94 rfl rfl hA (by omega)) ?_;refine Vu 0 rfl (zg ag101 rfl rfl hn3) ?_;refine zn rfl (z8 zl101 rfl (fun b2 => ?_)) rfl;refine zS rfl rfl (zQ ag101 rfl rfl rfl .here rfl rfl ?_) rfl;refine Vm 5 ?_;refine Lb 0 sg82 .here ?_;refine cfo 9 ?_;refine Lb 6 sg9 .here ?_;refine cfa 6 ?_;refine cfa 6 ?_;refine cfa 6 ?_;refine cfa 6 ?_
 refine cfa 5 ?_;refine cfa 15 ?_;refine zI ?_;refine zH ?_;refine zL ?_;exact zb [_] ⟨rfl, trivial⟩ [_] .p1 ⟨rfl, rfl⟩
end
section
open Wd Tp Kd
theorem cl161 : callable Tryz.prog 161 = true := by kernel_rfl
structure CondC where
 op : Int
 who : Int
 name : List UInt8
 N : Option Addr
 n : Nat
 nc : Nat
 K : Option Addr
 k : Nat
 kc : Nat
abbrev CondC.v (q : CondC) : List Value := [.int .i8 q.op, .int .i8 q.who, .string (bs q.name), .slice q.N q.n q.nc, .slice q.K q.k q.kc]
abbrev condV : CondT → Value → List Ent → Prop := fun x v Es => ∃ (q : CondC) (e : Ent), v = .agg q.v.toArray ∧ Es = [e] ∧ ∀ ns, e.inv ns → CondR ns q.v x
theorem condPair {m : Mp} {op : Int} {K : Nat} {q r : CondC} {x y : CondT} (ho : In8 op) (h : (cel K (q.v ++ r.v) 88).inv m) (hx : CondR m q.v x) (hy : CondR m r.v y) : CondR m [.int .i8 op, .int .i8 0, .string (bs []), .slice none 0 0, .slice (some ⟨K, 0, none⟩) 2 2] (putC op x y) :=
 .mk (vs := []) (us := q.v ++ r.v) ho ⟨by decide, by decide⟩ (by decide) rfl (by decide) (Rd.nil _ _) rfl (fun i h => by cases h) rfl (by decide) (Rd.blk h) rfl fun i hi => by
  have : i = 0 ∨ i = 1 := by have : i < 2 := hi; omega
  rcases this with rfl | rfl
  ·exact hx
  ·exact hy
theorem join154 {m : Mp} {op : Int} {q r : CondC} : CS Tryz.prog 161 [.int .i8 op, .agg q.v.toArray, .agg r.v.toArray] m [] (fun v L' => ∃ K, v = .agg [.int .i8 op, .int .i8 0, .string (bs []), .slice none 0 0, .slice (some ⟨K, 0, none⟩) 2 2].toArray ∧ L' = [cel K (q.v ++ r.v) 88]) := by
 refine zl [.cell 6 88] Tryz.func161 rfl rfl rfl ?_;refine tr 2 ?_;refine Bx 0 rfl fun b1 => ?_;refine Bx 0 rfl fun b2 => ?_;refine Al 5 zl88 fun b3 => ?_;refine Lc 0 ag88 .h2 ?_;refine Lc 0 ag88 .h1 ?_;refine Bs 0 sl86 fun b4 => ?_;refine pe 0 (zT zl88 pl88 rfl rfl) ?_;refine Sg 3 ag88 .h1 ?_;exact zb [_] ⟨⟨b3, _, _, _, rfl, .h1, .inr ⟨rfl, rfl⟩⟩, trivial⟩ _ .p0 ⟨b4, rfl, rfl⟩
theorem row152 {m : Mp} {b c at_ d p : Nat} {A : Option Addr} {ws ts : List Wrd} {g : FuncId} {one : List Wrd → R CondT} {signs : List (List UInt8 × Int)} {X Y : Option Addr} {xc yc n k : Nat} (hcl : callable Tryz.prog g = true) (hw : WsR m A ws) (hsg : SignsR m X Y signs) (hso : SignsOk signs)
  (he1 : ∀ ts, ts.length < k → Tp.Ends (one ts) condW ts.length)
  (hone : ∀ m', Le m m' → ∀ (at_ p : Nat) (ts : List Wrd), Pos ws at_ ts → p + ts.length ≤ 4611686018427000000 → ts.length < k → RdC g [ptr b] m' b A c ws at_ d p (one ts) condW condV)
  (hp : Pos ws at_ ts) (hb : p + ts.length ≤ 4611686018427000000) (hn : ts.length < n) (hk : ts.length < k) :
  RdC 159 [ptr b, .slice X signs.length xc, .slice Y signs.length yc, .func (.func g) [ptr b].toArray [].toArray, .func (.func 161) [].toArray [].toArray] m b A c ws at_ d p (pRow one signs putC n ts) condW condV := by
 generalize hF : pRow one signs putC n ts = F;unfold pRow at hF;obtain ⟨hsl, hs8⟩ := hso;refine z6 [.cell 10 88] Tryz.func159 rfl rfl rfl ?_;refine tr 2 ?_;refine Al 2 zl88 fun b1 => ?_
 refine TS_scopeJ' (α := RowS CondT CondC) 0 rfl (fun y => [(0, ptr b), (1, .slice X signs.length xc), (2, .slice Y signs.length yc), (3, .func (.func g) [ptr b].toArray [].toArray), (4, .func (.func 161) [].toArray [].toArray), (10, ptr b1), (11, ptr y.bx)]) (fun y => [rd b A c ws y.at_ d y.p, y.e, cel y.bx y.q.v 88, cel b1 [.int .i8 0, .int .i8 0, .string (bs []), .slice none 0 0, .slice none 0 0] 88])
  (fun y => pRest one signs putC y.n y.x y.ts = F ∧ Pos ws y.at_ y.ts ∧ y.p + y.ts.length ≤ 4611686018427000000 ∧ y.ts.length < y.n ∧ y.ts.length < k ∧ y.p = p + condW y.x ∧ ∀ ns, y.e.inv ns → CondR ns y.q.v y.x) (fun y => y.n) ?_ (fun hpass => ?_)
 ·rintro ⟨n, bx, a, p1, ts, x, q, e⟩ ⟨hF, hp, hb, hn, hk, hpw, hx⟩;dsimp only at hF hp hb hn hk hpw hx;dsimp only;obtain ⟨n, rfl⟩ : ∃ n', n = n' + 1 := ⟨n - 1, by omega⟩;refine tr 9 ?_
  refine zZ (α := Nat) (fun i => [(0, ptr b), (1, .slice X signs.length xc), (2, .slice Y signs.length yc), (3, .func (.func g) [ptr b].toArray [].toArray), (4, .func (.func 161) [].toArray [].toArray), (10, ptr b1), (11, ptr bx), (17, .slice X signs.length xc), (18, .int .i64 (signs.length : Nat)), (19, .int .i64 (i : Nat))]) (fun i => [rd b A c ws a d p1, e, cel bx q.v 88, cel b1 [.int .i8 0, .int .i8 0, .string (bs []), .slice none 0 0, .slice none 0 0] 88]) (fun i => i ≤ signs.length ∧ ∀ (j : Nat) (hj : j < signs.length), j < i → isW signs[j].1 ts = false) (fun i => signs.length - i) 0 ⟨rfl, rfl, rfl, rfl, rfl, rfl, rfl, rfl, rfl, rfl, trivial⟩ (Pick.refl _) ⟨Nat.zero_le _, fun _ _ h => by cases h⟩ ?_
  rintro i ⟨hi, hno⟩;by_cases hlt : i < signs.length
  rotate_left
  ·have hfn := un (signs := signs) (ts := ts) fun j hj => hno j hj (by omega);unfold pRest at hF;rw [hfn] at hF;dsimp only at hF;refine tr 2 ?_;refine cfo 6 ?_;refine zG ?_;refine zF ?_;refine qt 3 ?_;refine Lc 0 ag88 .h2 ?_;refine Sg 3 ag88 .h3 ?_;refine qX ?_
   exact zo [_] ⟨⟨b1, _, _, _, rfl, .h3, .inr ⟨rfl, rfl⟩⟩, trivial⟩ _ .pp ⟨x, ts, a, [e], hF.symm, hp, ⟨q, e, rfl, rfl, hx⟩, by rw [hpw]⟩
  have hX1 : X.isSome = true := hsg.x.isSome (by rw [List.length_map]; omega);have hY1 : Y.isSome = true := hsg.y.isSome (by rw [List.length_map]; omega);have hcx := hsg.x.at_ (show (signs.map fun s => strV s.1)[i]? = some (strV signs[i].1) by simp [hlt]);have hcy := hsg.y.at_ (show (signs.map fun s => Value.int .i8 s.2)[i]? = some (.int .i8 signs[i].2) by simp [hlt])
  have hai := hs8 signs[i] (List.getElem_mem hlt);have hfa := fun h => uo (ts := ts) hlt h hno
  have hnext : isW signs[i].1 ts = false → ∀ (j : Nat) (hj : j < signs.length), j < i + 1 → isW signs[j].1 ts = false := fun h j hj h2 => by
   by_cases hji : j < i
   ·exact hno j hj hji
   ·obtain rfl : j = i := by omega
    exact h
  generalize signs[i] = sg at hcx hcy hai hfa hnext;refine tr 2 ?_;refine cto 11 ?_;refine pe 0 (zm ez38 rfl rfl hX1 (by omega)) ?_;refine Lo 8 sg9 rfl hcx ?_;refine C1 cl77 rfl .here (fun m' hm he => take56 (s := sg.1) (hw.mono hm) hp hai.1 hai.2.1) ?_;rintro _ _ (⟨hk1, hp2, rfl, rfl⟩ | ⟨hk1, rfl, rfl⟩)
  rotate_left
  ·refine vr 7 ?_;refine Pa 2 ?_;exact QR (i + 1) (Pick.refl _) ⟨hlt, hnext hk1⟩ (by omega)
  have hl1 := zh hk1;unfold pRest at hF;rw [hfa hk1] at hF;dsimp only at hF;have hend := he1 ts.tail (by omega);refine vr 8 ?_;refine Lb 0 sg3 .here ?_;refine Pa 2 ?_;refine Sr 5 co3 .here .h3 ?_;refine zE (wB (p := [ptr b]) (q := []) (vs := []) hcl rfl rfl .k0 (fun m' hm he => hone m' hm (a + 1) (p1 + 1) ts.tail hp2 (by omega) (by omega)) rfl ?_ ?_) rfl
  ·rintro _ _ ⟨e', a', h1, rfl⟩;rw [h1] at hF;refine zp ?_;refine ze ?_;refine zp ?_;refine wQ ?_;exact pn ⟨e', a', hF.symm, rfl⟩
  rintro _ _ ⟨y, ts2, at2, _, h1, hp3, ⟨r, ey, rfl, rfl, hy⟩, rfl⟩;rw [h1] at hF;have hlen := hend.2 y ts2 h1;have hyp := vg y;change pRest one signs putC n (putC sg.2 x y) ts2 = F at hF;refine Al 0 zl88 fun b2 => ?_;refine Sg 3 ag88 .here ?_;refine zc (sT [0, 1, 2, 3, 104, 105, 106, 307, 308] .done) mixed (by kernel_rfl) (fun _ _ _ _ hq => hq) ?_;refine vt 3 ?_
  refine Vt 0 rfl (zm ez217 rfl rfl hY1 (by omega)) ?_;refine Vu 0 rfl (zR sg82 rfl hcy) ?_;refine Vu 0 rfl (yI ag88 rfl .h4 rfl) ?_;refine Vu 0 rfl (yI ag88 rfl .here rfl) ?_;refine zS rfl rfl ((yp (p := []) (q := []) (vs := [.int .i8 sg.2, .agg q.v.toArray, .agg r.v.toArray]) cl161 rfl rfl (fun m' hm he => join154) rfl ?_)) rfl;rintro _ _ ⟨K, rfl, rfl⟩
  refine zS rfl rfl (zQ ag88 rfl rfl rfl .h5 rfl rfl ?_) rfl;refine Vm 1 ?_;refine Yi ?_;refine xl ?_;refine xw ?_;refine vu ?_;refine xl ?_;refine xw ?_
  exact uw (⟨n, bx, at2, p1 + 1 + condW y, ts2, putC sg.2 x y, ⟨sg.2, 0, [], none, 0, 0, some ⟨K, 0, none⟩, 2, 2⟩, pack [cel K (q.v ++ r.v) 88, ey, e]⟩ : RowS CondT CondC) ⟨rfl, rfl, rfl, rfl, rfl, rfl, rfl, trivial⟩ (.cons .h2 (Pick.pack3 (.cons .here (.cons .h1 (.cons .h1 (.cons .h1 .p1))))))
   ⟨hF, hp3, by dsimp only; omega, by dsimp only; omega, by dsimp only; omega, by dsimp only; rw [vf]; omega, fun ns h => condPair hai.2.2 (h.1 _ (.head _)) (hx ns (h.1 _ (.tail _ (.tail _ (.head _))))) (hy ns (h.1 _ (.tail _ (.head _))))⟩ (fun k0 h => by cases h; exact Nat.lt_succ_self _)
 ·refine tr 3 ?_;refine zE (wB (p := [ptr b]) (q := []) (vs := []) hcl rfl rfl .k1 (fun m' hm he => hone m' hm at_ p ts hp hb hk) rfl ?_ ?_) rfl
  ·rintro _ _ ⟨e', a', h1, rfl⟩;rw [h1] at hF;refine qW ?_;refine wQ ?_;exact pn ⟨e', a', hF.symm, rfl⟩
  rintro _ _ ⟨y, ts2, at2, _, h1, hp3, ⟨r, ey, rfl, rfl, hy⟩, rfl⟩;rw [h1] at hF;have hlen := (he1 ts hk).2 y ts2 h1;have hyp := vg y;change pRest one signs putC n y ts2 = F at hF;refine Al 0 zl88 fun b2 => ?_;refine Sg 3 ag88 .here ?_;refine Zq ?_;refine qt 1 ?_
  exact Zr (k0 := n) (⟨n, b2, at2, p + condW y, ts2, y, r, ey⟩ : RowS CondT CondC) (hpass _ ⟨hF, hp3, by show p + condW y + ts2.length ≤ 4611686018427000000; omega, by show ts2.length < n; omega, by show ts2.length < k; omega, rfl, hy⟩) ⟨rfl, rfl, rfl, rfl, rfl, rfl, rfl, trivial⟩ (.cons .h1 (.cons .h1 .pp))
end
end Go.Proofs.YtgohljjedlpccaaGreatDoor
