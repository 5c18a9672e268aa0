/- The contracts of the second level. No condition. -/
import Derived.Test.YtijakengkacnlaaGreatDoorTfR
import Derived.Test.YtijakengkacnlaaGreatDoorTfX
set_option linter.all false
set_option maxRecDepth 1000000
noncomputable section
namespace Go.Ev
open Go.Eng Go.Proofs Go.Proofs.YtijakengkacnlaaGreatDoor
def xB : ki := a1 507 Dc (a1 435 Dj (a1 284 AX xA))
theorem Tj : kN tP xB := xZ R9 (xZ Sm (xZ Se Vx))
end Go.Ev
end
