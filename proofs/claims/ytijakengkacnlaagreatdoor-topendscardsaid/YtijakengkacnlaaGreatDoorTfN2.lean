/- A call of Server.Do, run once. No condition. -/
import Derived.Test.YtijakengkacnlaaGreatDoorTfE
set_option linter.all false
set_option maxRecDepth 1000000
noncomputable section
namespace Go.Ev
open Go.Eng Go.Proofs Go.Proofs.YtijakengkacnlaaGreatDoor
def Ub : MR := ⟨[wP 234,wA [wB 2,wI 0,wS 954 50 0,wN,wI 0,wI 0,wN]],1870,[(234,.cel ([wS 158 2 0,wS 191 1 0,wS 231 3 0,wS 233 6 0,wP 228,wP 244,wP 307,wI 0,.map (some 308),.map (some 309),.bool false]) 99),(307,.cel ([wS 158 2 0,wS 191 1 0,wS 303 3 0,wI 0,wP 306,.bool false,wT [],wT [],wT [],.bool false,.bool false,wN,wN,.pointer none,.bool false,wT [],wT [],wT [],.bool false,.bool false,wN,wN,.pointer none,.bool false,wT [],wT [],wT [],.bool false,.bool false,wN,wN,.pointer none,.bool false,wT [],wT [],wT [],.bool false,.bool false,wN,wN,.pointer none,.bool false,wT [],wT [],wT [],.bool false,.bool false,wN,wN,.pointer none,.bool false,wT [],wT [],wT [],.bool false,.bool false,wN,wN,.pointer none,.bool false,wT [],wT [],wT [],.bool false,.bool false,wN,wN,.pointer none,.bool false,wT [],wT [],wT [],.bool false,.bool false,wN,wN,.pointer none,wN,wN]) 194),(303,.opn (y1 [107,101,121]) 5),(306,.cel ([wI 16,.map (some 304),.map (some 305)]) 390),(308,.mp [⟨wI 0,wP 1862,0⟩,⟨wI 1,wP 1868,1⟩] 2),(1862,.cel ([wP 1861,.bool false]) 173),(954,.opn (p0) 5)],[(304,.mp [] 0),(305,.mp [] 0),(1861,.cel ([wN,wI 0,wN,wI 0,.func (.func 154) #[wP 1861] #[],.bool false]) 309),(309,.mp [] 0)],.tuple ⟨([wN,wI 0])⟩,[(304,some (.mp [⟨wI 0,wA ([wT [97,110,110],wB 0,wI 1099511627776]),0⟩] 1)),(305,some (.mp [⟨wA ([wT [97,110,110],wB 0]),wI 0,0⟩] 1)),(1861,some (.cel ([.slice (some ⟨1873,0,some 51⟩) 1 0,wI 0,.slice (some ⟨1875,0,some 2⟩) 1 0,wI 0,.func (.func 154) #[wP 1861] #[],.bool false]) 309)),(309,some (.mp [⟨wI 0,wS 2294 1 0,0⟩] 1)),(1873,some (.opn (p0) 5)),(1875,some (.opn ([wI 50]) 3)),(2294,some (.opn ([wS 2292 12 0]) 54)),(2292,some (.opn (y1 [0,10,64,1,0,0,0,0,0,0,0,0]) 5))],2295⟩
theorem LG : yZ tP 14 (yI Ub) := qp fT (by kernel_rfl) (by decide +kernel)
end Go.Ev
end
