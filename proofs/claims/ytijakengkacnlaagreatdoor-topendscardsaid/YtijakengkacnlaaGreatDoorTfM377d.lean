/- Calls that are run once. No condition. -/
import Derived.Test.YtijakengkacnlaaGreatDoorTfM
set_option linter.all false
set_option maxRecDepth 1000000
noncomputable section
namespace Go.Ev
open Go.Eng Go.Proofs Go.Proofs.YtijakengkacnlaaGreatDoor
def Xd : MR := ⟨[wP 6752,wA (y1 [0,0,0,0,0,0,0,0,0,0,0,1,0,0,0,2])],6892,[(6752,.cel QI 656)],[],wA (y1 [189,60,14,179,246,28,233,170,194,32,157,253,47,225,227,141]),[],6934⟩
theorem Is : yZ tP 377 (yI Xd) := yb (by kernel_rfl) (by decide +kernel)
def Xc : MR := ⟨[wP 6752,wA (y1 [0,0,0,0,0,0,0,0,0,0,0,1,0,0,0,3])],6950,[(6752,.cel QI 656)],[],wA (y1 [241,86,61,121,112,144,35,93,1,49,200,30,210,229,196,69]),[],6992⟩
theorem Ir : yZ tP 377 (yI Xc) := yb (by kernel_rfl) (by decide +kernel)
end Go.Ev
end
