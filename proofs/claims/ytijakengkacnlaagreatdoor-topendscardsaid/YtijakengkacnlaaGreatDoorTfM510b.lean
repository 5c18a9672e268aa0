/- Calls that are run once. No condition. -/
import Derived.Test.YtijakengkacnlaaGreatDoorTfM
set_option linter.all false
set_option maxRecDepth 1000000
noncomputable section
namespace Go.Ev
open Go.Eng Go.Proofs Go.Proofs.YtijakengkacnlaaGreatDoor
def Y2 : MR := ⟨[wP 3885,wS 3896 64 0],3897,[(3896,.opn q15 5)],[(3885,.cel (q0 ++ [wS 3896 64 0,wQ 64] ++ yJ) 759)],.tuple ⟨([])⟩,[(3885,some (.cel (q16 ++ [wS 3896 64 0,wQ 64] ++ yJ) 759))],3899⟩
theorem Ih : yZ tP 510 (yI Y2) := yb (by kernel_rfl) (by decide +kernel)
def Y1 : MR := ⟨[wP 3911,wS 3983 64 0],3984,[(3983,.opn (y1 [0,0,0,0,0,0,0,6,99,105,112,104,101,114,0,0,0,0,0,0,0,0,128,0,0,0,0,0,0,0,0,0,0,0,0,0,0,0,0,0,0,0,0,0,0,0,0,0,0,0,0,0,0,0,0,0,0,0,0,0,0,0,2,176]) 5)],[(3911,.cel (q14 ++ [wS 3983 64 0,wQ 128] ++ yJ) 759)],.tuple ⟨([])⟩,[(3911,some (.cel (y4 [3405626851,1966090885,106472466,3101806200,2800774664,907103611,1736785598,1834842298] ++ [wS 3983 64 0,wQ 128] ++ yJ) 759))],3986⟩
theorem Ig : yZ tP 510 (yI Y1) := yb (by kernel_rfl) (by decide +kernel)
def Y0 : MR := ⟨[wP 3990,wS 4042 64 0],4043,[(4042,.opn (y1 [202,253,189,227,117,48,42,133,6,88,164,18,184,225,206,120,166,240,110,8,54,17,77,123,103,133,62,190,109,93,120,186,128,0,0,0,0,0,0,0,0,0,0,0,0,0,0,0,0,0,0,0,0,0,0,0,0,0,0,0,0,0,3,0]) 5)],[(3990,.cel (q16 ++ [wS 4042 64 0,wQ 128] ++ yJ) 759)],.tuple ⟨([])⟩,[(3990,some (.cel (y4 [1964491130,3067225309,2503662896,2790409599,466167708,1924285604,1188202142,71791297] ++ [wS 4042 64 0,wQ 128] ++ yJ) 759))],4045⟩
theorem If : yZ tP 510 (yI Y0) := yb (by kernel_rfl) (by decide +kernel)
def YZ : MR := ⟨[wP 4048,wS 4058 64 0],4059,[(4058,.opn q13 5)],[(4048,.cel (q0 ++ [wS 4058 64 0,wQ 64] ++ yJ) 759)],.tuple ⟨([])⟩,[(4048,some (.cel (q14 ++ [wS 4058 64 0,wQ 64] ++ yJ) 759))],4061⟩
theorem Ie : yZ tP 510 (yI YZ) := yb (by kernel_rfl) (by decide +kernel)
def YY : MR := ⟨[wP 4051,wS 4062 64 0],4063,[(4062,.opn q15 5)],[(4051,.cel (q0 ++ [wS 4062 64 0,wQ 64] ++ yJ) 759)],.tuple ⟨([])⟩,[(4051,some (.cel (q16 ++ [wS 4062 64 0,wQ 64] ++ yJ) 759))],4065⟩
theorem Id : yZ tP 510 (yI YY) := yb (by kernel_rfl) (by decide +kernel)
def YX : MR := ⟨[wP 4077,wS 4155 64 0],4156,[(4155,.opn (y1 [0,0,0,0,0,0,0,3,116,97,103,0,0,0,0,0,0,0,0,128,0,0,0,0,0,0,0,0,0,0,0,0,0,0,0,0,0,0,0,0,0,0,0,0,0,0,0,0,0,0,0,0,0,0,0,0,0,0,0,0,0,0,2,152]) 5)],[(4077,.cel (q14 ++ [wS 4155 64 0,wQ 128] ++ yJ) 759)],.tuple ⟨([])⟩,[(4077,some (.cel (y4 [1284164742,952791803,4022349895,175700231,3761942224,414867294,3033161750,4077617101] ++ [wS 4155 64 0,wQ 128] ++ yJ) 759))],4158⟩
theorem Ic : yZ tP 510 (yI YX) := yb (by kernel_rfl) (by decide +kernel)
def YW : MR := ⟨[wP 4162,wS 4214 64 0],4215,[(4214,.opn (y1 [76,138,204,134,56,202,114,251,239,192,48,71,10,120,249,7,224,58,174,208,24,186,95,94,180,202,96,22,243,11,127,205,128,0,0,0,0,0,0,0,0,0,0,0,0,0,0,0,0,0,0,0,0,0,0,0,0,0,0,0,0,0,3,0]) 5)],[(4162,.cel (q16 ++ [wS 4214 64 0,wQ 128] ++ yJ) 759)],.tuple ⟨([])⟩,[(4162,some (.cel (y4 [2461450992,945083596,1996453791,1390300507,3799289404,2028131998,1899087654,913227998] ++ [wS 4214 64 0,wQ 128] ++ yJ) 759))],4217⟩
theorem Ib : yZ tP 510 (yI YW) := yb (by kernel_rfl) (by decide +kernel)
def YV : MR := ⟨[wP 4887,wS 4897 64 0],4898,[(4897,.opn q19 5)],[(4887,.cel (q0 ++ [wS 4897 64 0,wQ 64] ++ yJ) 759)],.tuple ⟨([])⟩,[(4887,some (.cel (q20 ++ [wS 4897 64 0,wQ 64] ++ yJ) 759))],4900⟩
theorem Ia : yZ tP 510 (yI YV) := yb (by kernel_rfl) (by decide +kernel)
def YU : MR := ⟨[wP 4890,wS 4901 64 0],4902,[(4901,.opn q21 5)],[(4890,.cel (q0 ++ [wS 4901 64 0,wQ 64] ++ yJ) 759)],.tuple ⟨([])⟩,[(4890,some (.cel (q22 ++ [wS 4901 64 0,wQ 64] ++ yJ) 759))],4904⟩
theorem G9 : yZ tP 510 (yI YU) := yb (by kernel_rfl) (by decide +kernel)
end Go.Ev
end
