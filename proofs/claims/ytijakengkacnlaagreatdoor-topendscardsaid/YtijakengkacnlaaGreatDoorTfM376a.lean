/- Calls that are run once. No condition. -/
import Derived.Test.YtijakengkacnlaaGreatDoorTfM
set_option linter.all false
set_option maxRecDepth 1000000
noncomputable section
namespace Go.Ev
open Go.Eng Go.Proofs Go.Proofs.YtijakengkacnlaaGreatDoor
def Xr : MR := ⟨[.agg ⟨q17⟩],4253,[],[],wP 4254,[(4254,some (.cel QI 656))],4275⟩
theorem IH : yZ tP 376 (yI Xr) := yb (by kernel_rfl) (by decide +kernel)
def Xq : MR := ⟨[.agg ⟨q17⟩],6751,[],[],wP 6752,[(6752,some (.cel QI 656))],6773⟩
theorem IG : yZ tP 376 (yI Xq) := yb (by kernel_rfl) (by decide +kernel)
end Go.Ev
end
