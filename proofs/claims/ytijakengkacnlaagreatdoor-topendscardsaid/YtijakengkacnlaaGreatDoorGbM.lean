/- The closed facts of the row TopEnds, joined. No condition. -/
import Derived.Test.YtijakengkacnlaaGreatDoorRows
import Derived.JoinedOf
import Derived.Test.YtijakengkacnlaaGreatDoorGbE
import Derived.Test.YtijakengkacnlaaGreatDoorGbF
import Derived.Test.YtijakengkacnlaaGreatDoorGbG
import Derived.Test.YtijakengkacnlaaGreatDoorGbH
import Derived.Test.YtijakengkacnlaaGreatDoorGbI
import Derived.Test.YtijakengkacnlaaGreatDoorGbJ
import Derived.Test.YtijakengkacnlaaGreatDoorGbK
namespace Go.Proofs.YtijakengkacnlaaGreatDoor
open Go
set_option maxRecDepth 100000
theorem EG : (Rows.topEndsRow.wf (OpenSpec.ofChange Rows.topEndsSpec)) = true := by kernel_rfl
theorem EE : (Tryz.f3.params.all (Tryz.prog.readableRec ·)) = true := by kernel_rfl
theorem ED : (namedTie Tryz.prog Rows.topEndsRow.named Rows.topEndsSpec.vars) = true := by kernel_rfl
theorem EC : ((Rows.topEndsRow.stops == [])) = true := by kernel_rfl
theorem EA : ((Tryz.prog.stops == [])) = true := by kernel_rfl
theorem Ez : ((Rows.topEndsRow.knobs == [])) = true := by kernel_rfl
theorem Ey : ((Tryz.prog.stopKnobs == [])) = true := by kernel_rfl
theorem Rv : ((Rows.topEndsRow.maps == (Tryz.f3.params.toList ++ Rows.topEndsSpec.plain.varTypes Tryz.prog).any (Tryz.prog.mapsRec ·))) = true := by kernel_rfl
theorem Ru : ((Rows.topEndsRow.ifaces == (Tryz.f3.params.toList ++ Rows.topEndsSpec.plain.varTypes Tryz.prog).any (Tryz.prog.ifacesRec ·))) = true := by kernel_rfl
theorem Rt : ((Rows.topEndsRow.mapsOut == Tryz.prog.mapsAmong Tryz.f3.resultTypes.toList)) = true := by kernel_rfl
theorem Rq : ((Rows.topEndsRow.wideKeys == (Tryz.f3.params.toList ++ Rows.topEndsSpec.plain.varTypes Tryz.prog ++ Tryz.f3.resultTypes.toList).any (Tryz.prog.wideKeysFrom ·))) = true := by kernel_rfl
theorem Ro : (Rows.topEndsSpec.vars.all (Tryz.prog.varReadable ·)) = true := by kernel_rfl
theorem Rm : (Tryz.f3.resultTypes.all (fun t => Tryz.prog.readableRec t && decide (t < Tryz.prog.types.size))) = true := by kernel_rfl
theorem Rk : ((Rows.topEndsRow.ifacesOut == Tryz.f3.resultTypes.toList.any (Tryz.prog.ifacesRec ·))) = true := by kernel_rfl
theorem Rj : ((Rows.topEndsRow.loopsOut == Tryz.f3.resultTypes.toList.any (Tryz.prog.loopsFrom ·))) = true := by kernel_rfl
theorem Rh : (Rows.topEndsRow.shortTexts.isNone) = true := by kernel_rfl
theorem Re : ((Rows.topEndsRow.lifted == Tryz.prog.liftsFinal)) = true := by kernel_rfl
theorem Rc : ((Tryz.prog.make == some Rows.topEndsRow.make)) = true := by kernel_rfl
theorem Rb : ((Rows.topEndsRow.kinds == (if Rows.topEndsRow.domain.isEmpty then [] else Tryz.f3.params.toList.map fun t => match Tryz.prog.underlying t with | some (.int k) => some k | _ => none))) = true := by kernel_rfl
theorem Ra : ((Rows.topEndsRow.pinned == Rows.topEndsRow.pinnedBy)) = true := by kernel_rfl
theorem P9 : ((Rows.topEndsRow.veiled == (Tryz.f3.params.toList ++ Rows.topEndsSpec.plain.varTypes Tryz.prog ++ Tryz.f3.resultTypes.toList).any (Tryz.prog.veiledRec ·))) = true := by kernel_rfl
theorem P8 : (Rows.topEndsRow.veiledFits Tryz.prog Tryz.f3.params.toList (Tryz.f3.params.toList ++ Rows.topEndsSpec.plain.varTypes Tryz.prog ++ Tryz.f3.resultTypes.toList)) = true := by kernel_rfl
theorem Yk : joinedFacts Tryz.prog 3 Tryz.f3 Rows.topEndsSpec Rows.topEndsRow = true := (vL (vL (vL (vL (vL (vL (vL (vL (vL (vL (vL (vL (vL (vL (vL (vL (vL (vL (vL (vL (vL (vL (vL (vL (vL (vL (vL (vL (vL (vL (vL EG qo) EF) EE) ED) EC) EA) Ez) Ey) Ew) Ry) Rx) Rw) Rv) Ru) Rt) Rr) Rq) Ro) Rm) Rk) Rj) Ri) Rh) Rg) Rf) Re) Rc) Rb) Ra) P9) P8)
end Go.Proofs.YtijakengkacnlaaGreatDoor
