/- A closed fact of the row TopEnds: the variables named. No condition. -/
import Derived.Test.YtijakengkacnlaaGreatDoorRows
import Derived.JoinedOf
namespace Go.Proofs.YtijakengkacnlaaGreatDoor
open Go
set_option maxRecDepth 100000
theorem Rw : ((Rows.topEndsRow.named == Tryz.prog.varsNamed 3)) = true := by kernel_rfl
end Go.Proofs.YtijakengkacnlaaGreatDoor
