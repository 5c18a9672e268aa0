/- Closed facts about the types and functions of this seat's program. No condition. -/
import Derived.Test.YtodogmfbafmcmaaProg
import Derived.Test.YtodogmfbafmcmaaEng
import Derived.KernelRfl
namespace Go.Proofs.Ytodogmfbafmcmaa
open Go.Eng
theorem mixed : Try.prog.follows .mixedOrders = true := by kernel_rfl
theorem cl6 : callable Try.prog 6 = true := by kernel_rfl
theorem cl7 : callable Try.prog 7 = true := by kernel_rfl
theorem il22 : isSlice Try.prog 22 = true := by kernel_rfl
theorem cl8 : callable Try.prog 8 = true := by kernel_rfl
theorem cl9 : callable Try.prog 9 = true := by kernel_rfl
theorem cl10 : callable Try.prog 10 = true := by kernel_rfl
theorem cl11 : callable Try.prog 11 = true := by kernel_rfl
theorem cl12 : callable Try.prog 12 = true := by kernel_rfl
theorem cl13 : callable Try.prog 13 = true := by kernel_rfl
theorem cl14 : callable Try.prog 14 = true := by kernel_rfl
theorem cl15 : callable Try.prog 15 = true := by kernel_rfl
theorem us22 : (Try.prog.underlying 22).isSome = true := by kernel_rfl
theorem st9 : isStr Try.prog 9 = true := by kernel_rfl
theorem bt22 : isBytes Try.prog 22 = true := by kernel_rfl
theorem il31 : isSlice Try.prog 31 = true := by kernel_rfl
theorem ez31 : esz Try.prog 31 = some 1 := by kernel_rfl
theorem sg22 : single Try.prog 22 = true := by kernel_rfl
theorem sl22 : slInfo Try.prog 22 = some (5, 1, 1, [.int .u8 0]) := by kernel_rfl
theorem bo4 : isBoolT Try.prog 4 = true := by kernel_rfl
theorem cl16 : callable Try.prog 16 = true := by kernel_rfl
theorem pt23 : isPtr Try.prog 23 = true := by kernel_rfl
theorem il38 : isSlice Try.prog 38 = true := by kernel_rfl
theorem ez38 : esz Try.prog 38 = some 1 := by kernel_rfl
theorem sg3 : single Try.prog 3 = true := by kernel_rfl
theorem ez22 : esz Try.prog 22 = some 1 := by kernel_rfl
theorem sl31 : slInfo Try.prog 31 = some (22, 1, 24, [.slice none 0 0]) := by kernel_rfl
theorem fo43_2 : foff Try.prog 43 2 = some 2 := by kernel_rfl
theorem sg38 : single Try.prog 38 = true := by kernel_rfl
theorem fo43_0 : foff Try.prog 43 0 = some 0 := by kernel_rfl
theorem fo43_1 : foff Try.prog 43 1 = some 1 := by kernel_rfl
theorem co22 : cells1 Try.prog 22 = true := by kernel_rfl
theorem co38 : cells1 Try.prog 38 = true := by kernel_rfl
theorem co3 : cells1 Try.prog 3 = true := by kernel_rfl
theorem fo43_5 : foff Try.prog 43 5 = some 5 := by kernel_rfl
theorem sg4 : single Try.prog 4 = true := by kernel_rfl
theorem fo43_4 : foff Try.prog 43 4 = some 4 := by kernel_rfl
theorem sg41 : single Try.prog 41 = true := by kernel_rfl
theorem sg5 : single Try.prog 5 = true := by kernel_rfl
theorem co4 : cells1 Try.prog 4 = true := by kernel_rfl
theorem us5 : (Try.prog.underlying 5).isSome = true := by kernel_rfl
theorem ik3 : isIntT Try.prog 3 .i64 = true := by kernel_rfl
theorem us3 : (Try.prog.underlying 3).isSome = true := by kernel_rfl
theorem ik5 : isIntT Try.prog 5 .u8 = true := by kernel_rfl
theorem zl43 : zeroL Try.prog 43 = some [.slice none 0 0, .int .i64 0, .slice none 0 0, .int .i64 0, .nilFunc, .bool false] := by kernel_rfl
theorem pl43 : placesL Try.prog 43 = some [(0, 1), (1, 1), (2, 1), (3, 1), (4, 1), (5, 1)] := by kernel_rfl
theorem cl17 : callable Try.prog 17 = true := by kernel_rfl
theorem co41 : cells1 Try.prog 41 = true := by kernel_rfl
theorem fo43_3 : foff Try.prog 43 3 = some 3 := by kernel_rfl
theorem cl18 : callable Try.prog 18 = true := by kernel_rfl
theorem cl19 : callable Try.prog 19 = true := by kernel_rfl
theorem sl38 : slInfo Try.prog 38 = some (3, 1, 8, [.int .i64 0]) := by kernel_rfl
end Go.Proofs.Ytodogmfbafmcmaa
