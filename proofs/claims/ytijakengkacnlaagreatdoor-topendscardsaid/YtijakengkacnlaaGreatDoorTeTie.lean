/- The tie of the row's listed variables to the program's text, its facts one by one (the given text asks them in one theorem, which passes the memory that a process may have). No condition. -/
import Derived.Test.YtijakengkacnlaaGreatDoorRows
import Derived.LaidByTextLater
import Derived.SevenTiedAt
import Derived.LaidSub
import Derived.LaidOnce
namespace Go.Proofs.YtijakengkacnlaaGreatDoor
open Go
set_option maxRecDepth 100000
def IP : List (String × DataW Unit) := [("strings.asciiSpace", Rows.laid_strings_asciiSpace), ("unicode.White_Space", Rows.laid_unicode_White_Space), ("internal/strconv.uint64pow10", Rows.laid_internal_strconv_uint64pow10), ("math/bits.deBruijn32tab", Rows.laid_math_bits_deBruijn32tab), ("math/bits.deBruijn64tab", Rows.laid_math_bits_deBruijn64tab)]
def Fy : List LaidKind := [.data, .listed, .data, .data, .data]
theorem tieA : Tryz.prog.worded (varsWordLater true) = true := by kernel_rfl
theorem tieB : Tryz.prog.worded (varsWordLater !true) = false := by kernel_rfl
theorem tieC : Tryz.prog.worded rootWordLater = true := by kernel_rfl
theorem tieD : IP.map (fun x => Tryz.prog.kindOfLater x.1) = Fy.map some := by kernel_rfl
theorem tieE : (Tryz.prog.funcNamed "gosem.cut.vars").isSome = true := by kernel_rfl
theorem tieF : varsNamedLaterB Tryz.prog (varsId Tryz.prog) IP = true := by kernel_rfl
theorem tieG (os : Os) (tape : Nat → Question → Nat) : doorLeaves Tryz.prog 48 8 257 IP os tape = some (IP.filter fun x => x.2.handleName?.isNone, (funcsListed IP).map (·.2.funcsOut)) := by kernel_rfl
theorem Uq : Tryz.pinned.checked.prog.headLifts.contains "ownunsafe" = false := by kernel_rfl
theorem tie : Tryz.prog.laidByTextLater IP Fy true := Program.laidByTextLater_by_one 48 8 257 tieA tieB tieC tieD tieE tieF tieG
theorem bY : Rows.topEndsRow.laidByTextAt .later Tryz.pinned Fy true := OpenClaim.laidByTextAt_later rfl rfl tie Uq
end Go.Proofs.YtijakengkacnlaaGreatDoor
