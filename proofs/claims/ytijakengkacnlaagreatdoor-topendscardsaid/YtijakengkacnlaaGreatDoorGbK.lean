/- Two closed facts of the row TopEnds: the entry, the loops. No condition. -/
import Derived.Test.YtijakengkacnlaaGreatDoorRows
import Derived.JoinedOf
namespace Go.Proofs.YtijakengkacnlaaGreatDoor
open Go
set_option maxRecDepth 100000
theorem Rr : ((Rows.topEndsRow.loops == (Tryz.f3.params.toList ++ Rows.topEndsSpec.plain.varTypes Tryz.prog).any (Tryz.prog.loopsFrom ·))) = true := by kernel_rfl
theorem Rf : (Tryz.prog.mayEnter) = true := by kernel_rfl
end Go.Proofs.YtijakengkacnlaaGreatDoor
