/- Calls that are run once. No condition. -/
import Derived.Test.YtijakengkacnlaaGreatDoorTfM
set_option linter.all false
set_option maxRecDepth 1000000
noncomputable section
namespace Go.Ev
open Go.Eng Go.Proofs Go.Proofs.YtijakengkacnlaaGreatDoor
def V4 : MR := ⟨[.agg ⟨q0⟩,wS 698 64 0,.agg ⟨yJ⟩],701,[(698,.opn q1 5)],[],.agg ⟨q2⟩,[],706⟩
theorem Ly : yZ tP 250 (yI V4) := yb (by kernel_rfl) (by decide +kernel)
def V3 : MR := ⟨[.agg ⟨q2⟩,.slice (some ⟨698,64,none⟩) 64 64,.agg ⟨yJ⟩],706,[(698,.opn q1 5)],[],.agg ⟨q3⟩,[],711⟩
theorem Lx : yZ tP 250 (yI V3) := yb (by kernel_rfl) (by decide +kernel)
def V2 : MR := ⟨[.agg ⟨q0⟩,wS 779 64 0,.agg ⟨yJ⟩],782,[(779,.opn q4 5)],[],.agg ⟨q5⟩,[],787⟩
theorem Lw : yZ tP 250 (yI V2) := yb (by kernel_rfl) (by decide +kernel)
def V1 : MR := ⟨[.agg ⟨q5⟩,.slice (some ⟨779,64,none⟩) 64 64,.agg ⟨yJ⟩],787,[(779,.opn q4 5)],[],.agg ⟨q6⟩,[],792⟩
theorem Lu : yZ tP 250 (yI V1) := yb (by kernel_rfl) (by decide +kernel)
def Xw : MR := ⟨[.agg ⟨q0⟩,wS 1341 64 0,.agg ⟨yJ⟩],1344,[(1341,.opn q7 5)],[],.agg ⟨q2⟩,[],1349⟩
theorem IM : yZ tP 250 (yI Xw) := yb (by kernel_rfl) (by decide +kernel)
def Xv : MR := ⟨[.agg ⟨q2⟩,.slice (some ⟨1341,64,none⟩) 64 64,.agg ⟨yJ⟩],1349,[(1341,.opn q7 5)],[],.agg ⟨q8⟩,[],1354⟩
theorem IL : yZ tP 250 (yI Xv) := yb (by kernel_rfl) (by decide +kernel)
def Xu : MR := ⟨[.agg ⟨q0⟩,wS 1422 64 0,.agg ⟨yJ⟩],1425,[(1422,.opn q9 5)],[],.agg ⟨q5⟩,[],1430⟩
theorem IK : yZ tP 250 (yI Xu) := yb (by kernel_rfl) (by decide +kernel)
def Xt : MR := ⟨[.agg ⟨q5⟩,.slice (some ⟨1422,64,none⟩) 64 64,.agg ⟨yJ⟩],1430,[(1422,.opn q9 5)],[],.agg ⟨q10⟩,[],1435⟩
theorem IJ : yZ tP 250 (yI Xt) := yb (by kernel_rfl) (by decide +kernel)
end Go.Ev
end
