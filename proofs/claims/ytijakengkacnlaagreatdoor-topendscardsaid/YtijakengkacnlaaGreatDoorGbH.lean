/- Two closed facts of the row TopEnds: a call that no plain name names. No condition. -/
import Derived.Test.YtijakengkacnlaaGreatDoorRows
import Derived.JoinedOf
namespace Go.Proofs.YtijakengkacnlaaGreatDoor
open Go
set_option maxRecDepth 100000
theorem jb : Tryz.prog.unfollowed 3 = true := by kernel_rfl
theorem VY {P : Program} {f : FuncId} (h : P.unfollowed f = true) : (true == P.recurses f) = true := by unfold Program.recurses; rw [h]; rfl
theorem Yi {P : Program} {f : FuncId} (h : P.unfollowed f = true) : (true == P.unfollowed f) = true := by rw [h]; rfl
theorem Ry : ((Rows.topEndsRow.unfollowed == Tryz.prog.unfollowed 3)) = true := Yi jb
theorem Rx : ((Rows.topEndsRow.recurses == Tryz.prog.recurses 3)) = true := VY jb
end Go.Proofs.YtijakengkacnlaaGreatDoor
