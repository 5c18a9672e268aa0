/- The upper levels. No condition. -/
import Derived.Test.YtijakengkacnlaaGreatDoorTfO
set_option linter.all false
set_option maxRecDepth 1000000
noncomputable section
namespace Go.Ev
open Go.Eng Go.Proofs Go.Proofs.YtijakengkacnlaaGreatDoor
def xG : ki := a1 261 (fbC xD 261 Xs) (a1 160 (fbC xD 160 Xx) (a1 6 (fbC xD 6 KH) xD))
theorem Lg : kN tP xG := xZ (JN dK II) (xZ (JN dK IN) (xZ (JN dK O0) dK))
def xE : ki := a1 89 (D1 xG 89) (a1 71 (D1 xG 71) xG)
theorem fT : kN tP xE := xZ (ZP Lg cl89) (xZ (ZP Lg cl71) Lg)
end Go.Ev
end
