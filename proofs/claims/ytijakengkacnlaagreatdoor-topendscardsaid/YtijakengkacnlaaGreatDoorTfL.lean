/- THE LAW: lives() is true. No condition. -/
import Derived.Test.YtijakengkacnlaaGreatDoorTfN0
import Derived.Test.YtijakengkacnlaaGreatDoorTfN1
import Derived.Test.YtijakengkacnlaaGreatDoorTfN2
import Derived.Test.YtijakengkacnlaaGreatDoorTfN3
import Derived.Test.YtijakengkacnlaaGreatDoorTfN4
import Derived.Test.YtijakengkacnlaaGreatDoorTfN5
import Derived.Test.YtijakengkacnlaaGreatDoorTfN6
import Derived.Test.YtijakengkacnlaaGreatDoorTfN7
import Derived.Test.YtijakengkacnlaaGreatDoorTfN8
set_option linter.all false
set_option maxRecDepth 1000000
noncomputable section
namespace Go.Ev
open Go.Eng Go.Proofs Go.Proofs.YtijakengkacnlaaGreatDoor
def s14 : List (Nat × Ct) := [(1858, yI Ud), (1864, yI Uc), (1870, yI Ub), (2296, yI Ua), (2722, yI V9), (2877, yI V8), (3148, yI V7), (5751, yI V6), (7959, yI V5)]
theorem FH : yZ tP 14 (ez s14) := yZ.sel cl14 (zp LI (zp LH (zp LG (zp LF (zp LE (zp LD (zp LB (zp LA (zp Lz j9)))))))))
def xF : ki := a1 14 (ez s14) xE
theorem Ck : kN tP xF := xZ FH fT
theorem Hi : H4 OR (fun t => qA tP xF tD 5000 5 [] ⟨t, 6⟩ (Qc (.bool true) OR [])) = done := by kernel_rfl
theorem MZ : yZ tP 5 (E0 [] (.bool true) OR) := R1 Ck Yo Yn kp Hi (by decide +kernel) rfl rfl
end Go.Ev
end
