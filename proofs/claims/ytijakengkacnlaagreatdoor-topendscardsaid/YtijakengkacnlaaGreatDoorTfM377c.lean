/- Calls that are run once. No condition. -/
import Derived.Test.YtijakengkacnlaaGreatDoorTfM
set_option linter.all false
set_option maxRecDepth 1000000
noncomputable section
namespace Go.Ev
open Go.Eng Go.Proofs Go.Proofs.YtijakengkacnlaaGreatDoor
def Xh : MR := ⟨[wP 4254,wA (y1 [0,0,0,0,0,0,0,0,0,0,0,0,0,0,0,8])],4742,[(4254,.cel QI 656)],[],wA (y1 [166,113,108,228,5,114,199,41,37,210,120,151,101,4,149,114]),[],4784⟩
theorem Ix : yZ tP 377 (yI Xh) := yb (by kernel_rfl) (by decide +kernel)
def Xg : MR := ⟨[wP 4254,wA (y1 [0,0,0,0,0,0,0,0,0,0,0,0,0,0,0,9])],4800,[(4254,.cel QI 656)],[],wA (y1 [150,114,67,148,20,71,83,141,200,39,67,175,46,27,61,46]),[],4842⟩
theorem Iw : yZ tP 377 (yI Xg) := yb (by kernel_rfl) (by decide +kernel)
def Xf : MR := ⟨[wP 6752,wA (y1 [0,0,0,0,0,0,0,0,0,0,0,1,0,0,0,0])],6776,[(6752,.cel QI 656)],[],wA (y1 [36,102,237,126,136,118,247,169,236,81,75,96,36,73,54,69]),[],6818⟩
theorem Iu : yZ tP 377 (yI Xf) := yb (by kernel_rfl) (by decide +kernel)
def Xe : MR := ⟨[wP 6752,wA (y1 [0,0,0,0,0,0,0,0,0,0,0,1,0,0,0,1])],6834,[(6752,.cel QI 656)],[],wA (y1 [64,31,204,64,68,42,128,191,130,11,83,91,227,218,186,13]),[],6876⟩
theorem It : yZ tP 377 (yI Xe) := yb (by kernel_rfl) (by decide +kernel)
end Go.Ev
end
