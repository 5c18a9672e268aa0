/- Calls that are run once. No condition. -/
import Derived.Test.YtijakengkacnlaaGreatDoorTfM
set_option linter.all false
set_option maxRecDepth 1000000
noncomputable section
namespace Go.Ev
open Go.Eng Go.Proofs Go.Proofs.YtijakengkacnlaaGreatDoor
def Tx : MR := ⟨[],6,[],[],wA [wS 158 2 0,wS 191 1 0],[(158,some (.opn ([wT [73,109,112],.bool true,wI 1,wI 2,wI 2,wI 0,wI 0,wI 0,wN,wN,wN,wI 0,wT [66,111,108,116],.bool false,wI 0,wI 0,wI 0,wI 0,wI 0,wI 0,wS 149 1 0,wN,wN,wI 24]) 92)),(149,some (.opn ([wB 0,wB 1,wB 0,wI 3,wB 0,wN,wT [],wB 0,wB 0,wT [],wN,wN,wN,wN]) 262)),(191,some (.opn ([wT [115,116,100],wI 1,wI 20,wI 20,wN,wN,wI 69]) 48))],225⟩
theorem Cp : yZ tP 10 (yI Tx) := yb (by kernel_rfl) (by decide +kernel)
end Go.Ev
end
