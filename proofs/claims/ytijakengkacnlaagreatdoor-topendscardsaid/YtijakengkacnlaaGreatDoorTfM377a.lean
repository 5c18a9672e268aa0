/- Calls that are run once. No condition. -/
import Derived.Test.YtijakengkacnlaaGreatDoorTfM
set_option linter.all false
set_option maxRecDepth 1000000
noncomputable section
namespace Go.Ev
open Go.Eng Go.Proofs Go.Proofs.YtijakengkacnlaaGreatDoor
def Xp : MR := ⟨[wP 4254,wA (yz .u8 16 0)],4278,[(4254,.cel QI 656)],[],wA (y1 [50,55,230,194,96,35,2,89,18,11,19,159,94,102,195,59]),[],4320⟩
theorem IF : yZ tP 377 (yI Xp) := yb (by kernel_rfl) (by decide +kernel)
def Xo : MR := ⟨[wP 4254,wA (y1 [0,0,0,0,0,0,0,0,0,0,0,0,0,0,0,1])],4336,[(4254,.cel QI 656)],[],wA (y1 [21,201,146,250,4,7,199,89,207,184,206,105,82,224,185,137]),[],4378⟩
theorem IE : yZ tP 377 (yI Xo) := yb (by kernel_rfl) (by decide +kernel)
def Xn : MR := ⟨[wP 4254,wA (y1 [0,0,0,0,0,0,0,0,0,0,0,0,0,0,0,2])],4394,[(4254,.cel QI 656)],[],wA (y1 [232,15,154,226,150,3,219,203,187,188,213,246,36,201,14,216]),[],4436⟩
theorem ID : yZ tP 377 (yI Xn) := yb (by kernel_rfl) (by decide +kernel)
def Xm : MR := ⟨[wP 4254,wA (y1 [0,0,0,0,0,0,0,0,0,0,0,0,0,0,0,3])],4452,[(4254,.cel QI 656)],[],wA (y1 [253,228,30,118,67,208,61,252,225,63,112,18,17,9,38,39]),[],4494⟩
theorem IC : yZ tP 377 (yI Xm) := yb (by kernel_rfl) (by decide +kernel)
end Go.Ev
end
