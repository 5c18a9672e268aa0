/- A closed fact of the row TopEnds: the rows of the maps. No condition. -/
import Derived.Test.YtijakengkacnlaaGreatDoorRows
import Derived.JoinedOf
namespace Go.Proofs.YtijakengkacnlaaGreatDoor
open Go
set_option maxRecDepth 100000
theorem EF : (mapsRowed Tryz.prog) = true := by kernel_rfl
end Go.Proofs.YtijakengkacnlaaGreatDoor
