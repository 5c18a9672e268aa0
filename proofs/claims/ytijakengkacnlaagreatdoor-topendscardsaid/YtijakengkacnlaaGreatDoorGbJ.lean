/- Two closed facts of the row TopEnds: plain keys, stops heard. No condition. -/
import Derived.Test.YtijakengkacnlaaGreatDoorRows
import Derived.JoinedOf
namespace Go.Proofs.YtijakengkacnlaaGreatDoor
open Go
set_option maxRecDepth 100000
theorem Ri : ((Rows.topEndsRow.plainKeys == Tryz.prog.plainKeys)) = true := by kernel_rfl
theorem Rg : (Tryz.prog.stopsHeard) = true := by kernel_rfl
end Go.Proofs.YtijakengkacnlaaGreatDoor
