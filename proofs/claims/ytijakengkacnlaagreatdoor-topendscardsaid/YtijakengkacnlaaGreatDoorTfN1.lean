/- A call of Server.Do, run once. No condition. -/
import Derived.Test.YtijakengkacnlaaGreatDoorTfE
set_option linter.all false
set_option maxRecDepth 1000000
noncomputable section
namespace Go.Ev
open Go.Eng Go.Proofs Go.Proofs.YtijakengkacnlaaGreatDoor
def Uc : MR := ⟨[wP 234,wA [wB 0,wI 1,wN,wN,wI 0,wI 0,wN]],1864,[(234,.cel ([wS 158 2 0,wS 191 1 0,wS 231 3 0,wS 233 6 0,wP 228,wP 244,wP 307,wI 0,.map (some 308),.map (some 309),.bool false]) 99)],[(308,.mp [⟨wI 0,wP 1862,0⟩] 1)],.tuple ⟨([wN,wI 0])⟩,[(308,some (.mp [⟨wI 0,wP 1862,0⟩,⟨wI 1,wP 1868,1⟩] 2)),(1868,some (.cel ([wP 1867,.bool false]) 173)),(1867,some (.cel ([wN,wI 0,wN,wI 0,.func (.func 154) #[wP 1867] #[],.bool false]) 309))],1869⟩
theorem LH : yZ tP 14 (yI Uc) := qp fT (by kernel_rfl) (by decide +kernel)
end Go.Ev
end
