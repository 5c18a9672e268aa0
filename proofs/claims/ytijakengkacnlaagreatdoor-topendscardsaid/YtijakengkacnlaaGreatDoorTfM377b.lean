/- Calls that are run once. No condition. -/
import Derived.Test.YtijakengkacnlaaGreatDoorTfM
set_option linter.all false
set_option maxRecDepth 1000000
noncomputable section
namespace Go.Ev
open Go.Eng Go.Proofs Go.Proofs.YtijakengkacnlaaGreatDoor
def Xl : MR := ⟨[wP 4254,wA (y1 [0,0,0,0,0,0,0,0,0,0,0,0,0,0,0,4])],4510,[(4254,.cel QI 656)],[],wA (y1 [127,116,216,171,29,122,16,103,166,240,230,103,86,14,106,62]),[],4552⟩
theorem IB : yZ tP 377 (yI Xl) := yb (by kernel_rfl) (by decide +kernel)
def Xk : MR := ⟨[wP 4254,wA (y1 [0,0,0,0,0,0,0,0,0,0,0,0,0,0,0,5])],4568,[(4254,.cel QI 656)],[],wA (y1 [213,181,106,234,10,40,9,241,91,57,214,127,27,103,34,75]),[],4610⟩
theorem IA : yZ tP 377 (yI Xk) := yb (by kernel_rfl) (by decide +kernel)
def Xj : MR := ⟨[wP 4254,wA (y1 [0,0,0,0,0,0,0,0,0,0,0,0,0,0,0,6])],4626,[(4254,.cel QI 656)],[],wA (y1 [89,162,255,48,92,63,218,219,97,105,7,231,40,165,71,175]),[],4668⟩
theorem Iz : yZ tP 377 (yI Xj) := yb (by kernel_rfl) (by decide +kernel)
def Xi : MR := ⟨[wP 4254,wA (y1 [0,0,0,0,0,0,0,0,0,0,0,0,0,0,0,7])],4684,[(4254,.cel QI 656)],[],wA (y1 [131,108,203,60,79,170,16,103,92,119,189,59,215,255,190,100]),[],4726⟩
theorem Iy : yZ tP 377 (yI Xi) := yb (by kernel_rfl) (by decide +kernel)
end Go.Ev
end
