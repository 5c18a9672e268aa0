/- Calls that are run once. No condition. -/
import Derived.Test.YtijakengkacnlaaGreatDoorTfM
set_option linter.all false
set_option maxRecDepth 1000000
noncomputable section
namespace Go.Ev
open Go.Eng Go.Proofs Go.Proofs.YtijakengkacnlaaGreatDoor
def Xb : MR := ⟨[wP 2058,wS 2068 64 0],2069,[(2068,.opn CX 5)],[(2058,.cel (q0 ++ [wS 2068 64 0,wQ 64] ++ yJ) 759)],.tuple ⟨([])⟩,[(2058,some (.cel (q2 ++ [wS 2068 64 0,wQ 64] ++ yJ) 759))],2071⟩
theorem Iq : yZ tP 510 (yI Xb) := yb (by kernel_rfl) (by decide +kernel)
def Xa : MR := ⟨[wP 2061,wS 2072 64 0],2073,[(2072,.opn q12 5)],[(2061,.cel (q0 ++ [wS 2072 64 0,wQ 64] ++ yJ) 759)],.tuple ⟨([])⟩,[(2061,some (.cel (q5 ++ [wS 2072 64 0,wQ 64] ++ yJ) 759))],2075⟩
theorem Ip : yZ tP 510 (yI Xa) := yb (by kernel_rfl) (by decide +kernel)
def Y9 : MR := ⟨[wP 2081,wS 2171 64 0],2172,[(2171,.opn (y1 [3,97,110,110,0,0,0,1,0,0,0,0,0,128,0,0,0,0,0,0,0,0,0,0,0,0,0,0,0,0,0,0,0,0,0,0,0,0,0,0,0,0,0,0,0,0,0,0,0,0,0,0,0,0,0,0,0,0,0,0,0,0,2,104]) 5)],[(2081,.cel (q2 ++ [wS 2171 64 0,wQ 128] ++ yJ) 759)],.tuple ⟨([])⟩,[(2081,some (.cel (q3 ++ [wS 2171 64 0,wQ 128] ++ yJ) 759))],2174⟩
theorem Io : yZ tP 510 (yI Y9) := yb (by kernel_rfl) (by decide +kernel)
def Y8 : MR := ⟨[wP 2178,wS 2230 64 0],2231,[(2230,.opn (y1 [200,128,154,184,87,251,180,96,110,211,218,131,147,112,47,189,0,42,52,5,69,244,77,99,181,195,46,76,154,36,236,14,128,0,0,0,0,0,0,0,0,0,0,0,0,0,0,0,0,0,0,0,0,0,0,0,0,0,0,0,0,0,3,0]) 5)],[(2178,.cel (q5 ++ [wS 2230 64 0,wQ 128] ++ yJ) 759)],.tuple ⟨([])⟩,[(2178,some (.cel (q6 ++ [wS 2230 64 0,wQ 128] ++ yJ) 759))],2233⟩
theorem In : yZ tP 510 (yI Y8) := yb (by kernel_rfl) (by decide +kernel)
def Y7 : MR := ⟨[wP 2484,wS 2494 64 0],2495,[(2494,.opn CX 5)],[(2484,.cel (q0 ++ [wS 2494 64 0,wQ 64] ++ yJ) 759)],.tuple ⟨([])⟩,[(2484,some (.cel (q2 ++ [wS 2494 64 0,wQ 64] ++ yJ) 759))],2497⟩
theorem Im : yZ tP 510 (yI Y7) := yb (by kernel_rfl) (by decide +kernel)
def Y6 : MR := ⟨[wP 2487,wS 2498 64 0],2499,[(2498,.opn q12 5)],[(2487,.cel (q0 ++ [wS 2498 64 0,wQ 64] ++ yJ) 759)],.tuple ⟨([])⟩,[(2487,some (.cel (q5 ++ [wS 2498 64 0,wQ 64] ++ yJ) 759))],2501⟩
theorem Il : yZ tP 510 (yI Y6) := yb (by kernel_rfl) (by decide +kernel)
def Y5 : MR := ⟨[wP 2507,wS 2597 64 0],2598,[(2597,.opn (y1 [3,98,111,98,0,0,0,1,0,0,0,0,0,128,0,0,0,0,0,0,0,0,0,0,0,0,0,0,0,0,0,0,0,0,0,0,0,0,0,0,0,0,0,0,0,0,0,0,0,0,0,0,0,0,0,0,0,0,0,0,0,0,2,104]) 5)],[(2507,.cel (q2 ++ [wS 2597 64 0,wQ 128] ++ yJ) 759)],.tuple ⟨([])⟩,[(2507,some (.cel (q8 ++ [wS 2597 64 0,wQ 128] ++ yJ) 759))],2600⟩
theorem Ik : yZ tP 510 (yI Y5) := yb (by kernel_rfl) (by decide +kernel)
def Y4 : MR := ⟨[wP 2604,wS 2656 64 0],2657,[(2656,.opn (y1 [74,102,251,60,111,111,84,196,112,48,93,245,92,94,82,152,238,167,165,76,66,136,165,42,162,194,58,151,41,111,29,19,128,0,0,0,0,0,0,0,0,0,0,0,0,0,0,0,0,0,0,0,0,0,0,0,0,0,0,0,0,0,3,0]) 5)],[(2604,.cel (q5 ++ [wS 2656 64 0,wQ 128] ++ yJ) 759)],.tuple ⟨([])⟩,[(2604,some (.cel (q10 ++ [wS 2656 64 0,wQ 128] ++ yJ) 759))],2659⟩
theorem Ij : yZ tP 510 (yI Y4) := yb (by kernel_rfl) (by decide +kernel)
def Y3 : MR := ⟨[wP 3882,wS 3892 64 0],3893,[(3892,.opn q13 5)],[(3882,.cel (q0 ++ [wS 3892 64 0,wQ 64] ++ yJ) 759)],.tuple ⟨([])⟩,[(3882,some (.cel (q14 ++ [wS 3892 64 0,wQ 64] ++ yJ) 759))],3895⟩
theorem Ii : yZ tP 510 (yI Y3) := yb (by kernel_rfl) (by decide +kernel)
end Go.Ev
end
