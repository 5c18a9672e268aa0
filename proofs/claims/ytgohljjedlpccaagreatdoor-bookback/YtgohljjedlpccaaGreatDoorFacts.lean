/- Parts of the proof: contracts of functions of the program, and plain lemmas. No condition. -/
import Derived.Test.YtgohljjedlpccaaGreatDoorProg
import Derived.Test.YtgohljjedlpccaaGreatDoorEng2
import Derived.KernelRfl
import Derived.Shelf.LaysM
import Derived.Shelf.Strings.SplitShaped
import Derived.Shelf.Unicode.Decode
import Derived.Shelf.Unicode.DecodeAny
import Derived.Below
import Derived.Lib.Fields
set_option maxHeartbeats 64000000
set_option maxRecDepth 100000
namespace Go.Proofs.YtgohljjedlpccaaGreatDoor
open Go.Eng
section
abbrev cc (t : Nat) : Prop := yX Tryz.prog t = true
abbrev sn (t : Nat) : Prop := single Tryz.prog t = true
abbrev c1 (t : Nat) : Prop := dZ Tryz.prog t = true
abbrev az (t q : Nat) : Prop := vq Tryz.prog t = some q
theorem mixed : Tryz.prog.follows .mixedOrders = true := zi
theorem jB : az 25 2 := zt
theorem DK : cc 6 := zt
theorem cl7 : cc 7 := zt
theorem SG : bI Tryz.prog 4 = true := zi
theorem ei : gE Tryz.prog 9 = true := zi
theorem DJ : cc 9 := zt
theorem Z9 : wz Tryz.prog 25 = some [.slice none 0 0, .slice none 0 0] := zi
theorem wR : wz Tryz.prog 31 = some [.int .i64 0, .int .i64 0] := zi
theorem y5 : az 31 2 := zt
theorem TW : foff Tryz.prog 31 0 = some 0 := zi
theorem cI : sn 29 := zt
theorem b8 : sn 22 := zt
theorem D8 : j6 Tryz.prog 22 = true := zi
theorem cJ : sn 23 := zt
theorem Dh : cc 10 := zt
theorem TE : Ys Tryz.prog 31 0 = some 29 := zi
theorem TF : sn 29 := zt
theorem CU : cc 11 := zt
theorem Lg : Uo Tryz.prog 23 = some 7 := zi
theorem TR : foff Tryz.prog 40 4 = some 4 := zi
theorem Zh : sn 38 := zt
theorem En : j6 Tryz.prog 38 = true := zi
theorem TQ : foff Tryz.prog 40 5 = some 5 := zi
theorem E5 : cc 13 := zt
theorem CT : cc 14 := zt
theorem Vy : wz Tryz.prog 40 = some [.string ByteArray.empty, .int .i64 0, .int .i64 0, .int .i64 0, .slice none 0 0, .slice none 0 0, .int .i64 0] := zi
theorem gx : az 40 7 := zt
theorem WS : Uo Tryz.prog 22 = some 12 := zi
theorem yl : sn 3 := zt
theorem TU : foff Tryz.prog 40 2 = some 2 := zi
theorem kx : vZ Tryz.prog 31 = some [(0, 1), (1, 1)] := zi
theorem D9 : I3 Tryz.prog 31 = some [.i .i64, .i .i64] := zi
theorem DR : wz Tryz.prog 50 = some [] := zi
theorem VO : az 50 0 := zt
theorem CQ : cc 16 := zt
theorem CR : cc 15 := zt
theorem CN : cc 18 := zt
theorem CO : cc 17 := zt
theorem CM : cc 20 := zt
theorem PH : vZ Tryz.prog 25 = some [(0, 1), (1, 1)] := zi
theorem CL : cc 21 := zt
theorem CJ : cc 23 := zt
theorem CG : cc 25 := zt
theorem DQ : wz Tryz.prog 57 = some [.nilFunc, .nilFunc, .nilFunc] := zi
theorem Rx : uM Tryz.prog 57 = some (3, 56, 1) := zi
theorem OC : sn 56 := zt
theorem zl4 : wz Tryz.prog 4 = some [.bool false] := zi
theorem T9 : c1 4 := zt
theorem CE : cc 28 := zt
theorem EQ : cc 27 := zt
theorem cH : sn 4 := zt
theorem kI : az 48 12 := zt
theorem yI : sn 9 := zt
theorem CA : cc 38 := zt
theorem CB : cc 37 := zt
theorem Vx : wz Tryz.prog 48 = some [.string ByteArray.empty, .bool false, .int .i64 0, .int .i64 0, .int .i64 0, .int .i64 0, .int .i64 0, .int .i64 0, .slice none 0 0, .slice none 0 0, .slice none 0 0, .int .i64 0] := zi
theorem Cy : cc 40 := zt
theorem Cz : cc 39 := zt
theorem Rl : cc 41 := zt
theorem Lm : c1 38 := zt
theorem Fe : cc 42 := zt
theorem TP : foff Tryz.prog 48 8 = some 8 := zi
theorem y8 : sn 46 := zt
theorem TO : foff Tryz.prog 48 9 = some 9 := zi
theorem P3 : foff Tryz.prog 48 10 = some 10 := zi
theorem TV : foff Tryz.prog 40 1 = some 1 := zi
theorem TT : foff Tryz.prog 40 3 = some 3 := zi
theorem EN : cc 45 := zt
theorem EM : cc 48 := zt
theorem DP : wz Tryz.prog 99 = some [.slice none 0 0, .int .i64 0, .int .i64 0, .int .i64 0] := zi
theorem D0 : vZ Tryz.prog 99 = some [(0, 1), (1, 1), (2, 1), (3, 1)] := zi
theorem gu : sn 94 := zt
theorem kC : Uo Tryz.prog 94 = some 4 := zi
theorem ze : sn 82 := zt
theorem W3 : cc 50 := zt
theorem eZ : cc 51 := zt
theorem fB : c1 3 := zt
theorem EL : cc 52 := zt
theorem Pw : vD Tryz.prog 22 = some (48, 12, 152, [.string ByteArray.empty, .bool false, .int .i64 0, .int .i64 0, .int .i64 0, .int .i64 0, .int .i64 0, .int .i64 0, .slice none 0 0, .slice none 0 0, .slice none 0 0, .int .i64 0]) := zi
theorem ED : c1 22 := zt
theorem Rk : cc 53 := zt
theorem JA : vD Tryz.prog 23 = some (40, 7, 96, [.string ByteArray.empty, .int .i64 0, .int .i64 0, .int .i64 0, .slice none 0 0, .slice none 0 0, .int .i64 0]) := zi
theorem Rh : c1 23 := zt
theorem CK : cc 22 := zt
theorem qZ : fj Tryz.prog 105 = some 4 := zi
theorem al : Mb Tryz.prog 4 (.bool false) := Jk (i := _) rfl zi
theorem Qt : foff Tryz.prog 48 11 = some 11 := zi
theorem Cw : cc 54 := zt
theorem CH : cc 24 := zt
theorem YT : wz Tryz.prog 111 = some [.int .i8 0] := zi
theorem ID : vZ Tryz.prog 111 = some [(0, 1)] := zi
theorem v8 : az 111 1 := zt
theorem Of : cc 55 := zt
theorem CF : cc 26 := zt
theorem YH : cc 56 := zt
theorem FT : wz Tryz.prog 113 = some [.slice none 0 0, .slice none 0 0] := zi
theorem SK : uM Tryz.prog 113 = some (2, 38, 1) := zi
theorem Fo : sn 38 := zt
theorem ql : Uo Tryz.prog 38 = some 1 := zi
theorem zl9 : wz Tryz.prog 9 = some [.string ByteArray.empty] := zi
theorem DS : wz Tryz.prog 29 = some [.int .i64 0] := zi
theorem Pm : c1 9 := zt
theorem EC : c1 29 := zt
theorem ye : cc 29 := zt
theorem SQ : wz Tryz.prog 63 = some [.pointer none, .slice none 0 0] := zi
theorem EP : cc 30 := zt
theorem CD : cc 33 := zt
theorem CC : cc 34 := zt
theorem KB : cc 35 := zt
theorem R6 : wz Tryz.prog 114 = some [] := zi
theorem Eb : vZ Tryz.prog 114 = some [] := zi
theorem R8 : (Tryz.prog.underlying 114).isSome = true := zi
theorem Sj : uJ Tryz.prog 114 = false := zi
theorem EO : cc 31 := zt
theorem aa : cc 32 := zt
theorem Xq : sn 61 := zt
theorem Cv : cc 58 := zt
theorem DY : vD Tryz.prog 61 = some (5, 1, 1, [.int .u8 0]) := zi
theorem Cd : c1 61 := zt
theorem Cu : cc 59 := zt
theorem MB : vD Tryz.prog 122 = some (3, 1, 8, [.int .i64 0]) := zi
theorem EK : cc 60 := zt
theorem ZP : Uo Tryz.prog 122 = some 1 := zi
theorem xH : vD Tryz.prog 38 = some (9, 1, 16, [.string ByteArray.empty]) := zi
theorem em : cc 61 := zt
theorem F5 : vD Tryz.prog 123 = some (38, 1, 24, [.slice none 0 0]) := zi
theorem Su : Uo Tryz.prog 123 = some 1 := zi
theorem Lp : cc 63 := zt
theorem Ct : cc 65 := zt
theorem Cs : cc 66 := zt
theorem Cx : cc 44 := zt
theorem Fd : cc 43 := zt
theorem D7 : j6 Tryz.prog 46 = true := zi
theorem VJ : Uo Tryz.prog 46 = some 14 := zi
theorem wF : az 90 14 := zt
theorem qn : wz Tryz.prog 90 = some [.int .i8 0, .int .i8 0, .int .i8 0, .int .i64 0, .int .i8 0, .slice none 0 0, .string ByteArray.empty, .int .i8 0, .int .i8 0, .string ByteArray.empty, .slice none 0 0, .slice none 0 0, .slice none 0 0, .slice none 0 0] := zi
theorem wm : foff Tryz.prog 90 0 = some 0 := zi
theorem NO : foff Tryz.prog 90 2 = some 2 := zi
theorem zT : az 85 4 := zt
theorem EJ : cc 67 := zt
theorem TJ : foff Tryz.prog 90 4 = some 7 := zi
theorem xP : az 88 5 := zt
theorem EI : cc 68 := zt
theorem TI : foff Tryz.prog 90 5 = some 12 := zi
theorem TH : foff Tryz.prog 90 6 = some 13 := zi
theorem Cq : cc 70 := zt
theorem Rj : cc 71 := zt
theorem Fc : cc 72 := zt
theorem uS : wz Tryz.prog 101 = some [.int .i8 0, .string ByteArray.empty, .int .i64 0, .int .i64 0] := zi
theorem Wk : vZ Tryz.prog 101 = some [(0, 1), (1, 1), (2, 1), (3, 1)] := zi
theorem Zf : vD Tryz.prog 94 = some (101, 4, 40, [.int .i8 0, .string ByteArray.empty, .int .i64 0, .int .i64 0]) := zi
theorem G4 : cc 73 := zt
theorem FY : (Tryz.prog.underlying 5).isSome = true := zi
theorem PZ : aN Tryz.prog 21 .i32 = true := zi
theorem ND : aN Tryz.prog 3 .i64 = true := zi
theorem Co : cc 74 := zt
theorem FZ : (Tryz.prog.underlying 31).isSome = true := zi
theorem Ef : uJ Tryz.prog 31 = false := zi
theorem wN : az 101 4 := zt
theorem EH : cc 75 := zt
theorem qH : sn 97 := zt
theorem Ln : cc 76 := zt
theorem ge : cc 77 := zt
theorem W1 : cc 78 := zt
theorem uK : cc 79 := zt
theorem Cm : cc 81 := zt
theorem Cl : cc 83 := zt
theorem Ck : cc 84 := zt
theorem Cj : cc 85 := zt
theorem Ci : cc 86 := zt
theorem Fb : cc 80 := zt
theorem Fa : cc 87 := zt
theorem EG : cc 89 := zt
theorem FR : wz Tryz.prog 147 = some [.int .i64 0, .int .i64 0, .int .i64 0, .int .i64 0, .int .i64 0, .int .i64 0] := zi
theorem Hk : uM Tryz.prog 147 = some (6, 3, 1) := zi
theorem Id : sn 3 := zt
theorem Cf : cc 92 := zt
theorem R5 : wz Tryz.prog 150 = some [.map none, .bool false] := zi
theorem Se : vZ Tryz.prog 150 = some [(0, 1), (1, 1)] := zi
theorem KA : cc 93 := zt
theorem R4 : wz Tryz.prog 153 = some [.nilFunc, .nilFunc, .nilFunc, .nilFunc, .nilFunc, .nilFunc, .nilFunc, .nilFunc, .nilFunc] := zi
theorem dw : uM Tryz.prog 153 = some (9, 152, 1) := zi
theorem Ds : az 153 9 := zt
theorem Ce : cc 98 := zt
theorem Om : cc 100 := zt
theorem Du : az 114 0 := zt
theorem FS : wz Tryz.prog 119 = some [.int .i64 0, .int .i64 0] := zi
theorem Ea : vZ Tryz.prog 119 = some [(0, 1), (1, 1)] := zi
theorem F6 : vD Tryz.prog 120 = some (46, 1, 24, [.slice none 0 0]) := zi
theorem Un : Uo Tryz.prog 120 = some 1 := zi
theorem W2 : cc 62 := zt
theorem Dg : cc 103 := zt
theorem dU : foff Tryz.prog 85 0 = some 0 := zi
theorem TN : foff Tryz.prog 85 3 = some 3 := zi
theorem xO : sn 83 := zt
theorem SC : cc 108 := zt
theorem NP : foff Tryz.prog 88 0 = some 0 := zi
theorem TM : foff Tryz.prog 88 1 = some 1 := zi
theorem TL : foff Tryz.prog 88 3 = some 3 := zi
theorem TK : foff Tryz.prog 88 4 = some 4 := zi
theorem wT : sn 86 := zt
theorem Df : cc 109 := zt
theorem FQ : wz Tryz.prog 164 = some [.string ByteArray.empty, .string ByteArray.empty, .string ByteArray.empty, .string ByteArray.empty, .string ByteArray.empty, .string ByteArray.empty, .string ByteArray.empty, .string ByteArray.empty, .string ByteArray.empty, .string ByteArray.empty, .string ByteArray.empty, .string ByteArray.empty, .string ByteArray.empty] := zi
theorem SJ : uM Tryz.prog 164 = some (13, 9, 1) := zi
theorem Fl : sn 9 := zt
theorem De : cc 113 := zt
theorem gC : fj Tryz.prog 141 = some 1 := zi
theorem Eg : Mb Tryz.prog 1 (.nilFunc) := Jk (i := _) rfl zi
theorem Oe : cc 82 := zt
theorem Ob : c1 46 := zt
theorem Dd : cc 114 := zt
theorem F4 : vD Tryz.prog 46 = some (90, 14, 192, [.int .i8 0, .int .i8 0, .int .i8 0, .int .i64 0, .int .i8 0, .slice none 0 0, .string ByteArray.empty, .int .i8 0, .int .i8 0, .string ByteArray.empty, .slice none 0 0, .slice none 0 0, .slice none 0 0, .slice none 0 0]) := zi
theorem Ch : cc 88 := zt
theorem MC : sn 142 := zt
theorem Cg : cc 90 := zt
theorem Sa : sn 144 := zt
theorem EF : cc 91 := zt
theorem zl3 : wz Tryz.prog 3 = some [.int .i64 0] := zi
theorem Da : cc 116 := zt
theorem Dc : cc 115 := zt
theorem E9 : cc 117 := zt
theorem Ol : cc 118 := zt
theorem Ok : cc 119 := zt
theorem dq : cc 120 := zt
theorem Ix : sn 105 := zt
theorem SB : cc 121 := zt
theorem XL : foff Tryz.prog 111 0 = some 0 := zi
theorem Iw : sn 109 := zt
theorem Hd : cc 123 := zt
theorem ZT : cc 122 := zt
theorem Hc : cc 124 := zt
theorem E8 : cc 125 := zt
theorem Oj : cc 126 := zt
theorem E7 : cc 127 := zt
theorem Vz : (Tryz.prog.underlying 82).isSome = true := zi
theorem Zi : sn 152 := zt
theorem E6 : cc 128 := zt
theorem yO : sn 117 := zt
theorem jP : cc 130 := zt
theorem dO : vZ Tryz.prog 90 = some [(0, 1), (1, 1), (2, 4), (6, 1), (7, 5), (12, 1), (13, 1)] := zi
theorem dp : cc 131 := zt
theorem qz : cc 132 := zt
theorem qy : c1 82 := zt
theorem gr : wz Tryz.prog 88 = some [.int .i8 0, .int .i8 0, .string ByteArray.empty, .slice none 0 0, .slice none 0 0] := zi
theorem VB : vZ Tryz.prog 88 = some [(0, 1), (1, 1), (2, 1), (3, 1), (4, 1)] := zi
theorem f3 : cc 133 := zt
theorem E4 : cc 135 := zt
theorem KC : cc 134 := zt
theorem uw : wz Tryz.prog 85 = some [.int .i8 0, .int .i64 0, .int .i8 0, .slice none 0 0] := zi
theorem da : vZ Tryz.prog 85 = some [(0, 1), (1, 1), (2, 1), (3, 1)] := zi
theorem Em : j6 Tryz.prog 83 = true := zi
theorem dc : Uo Tryz.prog 83 = some 4 := zi
theorem D6 : j6 Tryz.prog 86 = true := zi
theorem jy : Uo Tryz.prog 86 = some 5 := zi
theorem E3 : cc 138 := zt
theorem SA : cc 139 := zt
theorem aW : cc 140 := zt
theorem W4 : cc 141 := zt
theorem Hb : cc 142 := zt
theorem Sz : cc 143 := zt
theorem FP : wz Tryz.prog 198 = some [.slice none 0 0, .slice none 0 0, .slice none 0 0] := zi
theorem Hj : uM Tryz.prog 198 = some (3, 46, 1) := zi
theorem Ic : sn 46 := zt
theorem VR : wz Tryz.prog 201 = some [.pointer none] := zi
theorem JP : vZ Tryz.prog 201 = some [(0, 1)] := zi
theorem YU : (Tryz.prog.underlying 201).isSome = true := zi
theorem Y9 : uJ Tryz.prog 201 = false := zi
theorem Ha : cc 144 := zt
theorem E2 : cc 145 := zt
theorem SH : uM Tryz.prog 203 = some (4, 202, 4) := zi
theorem Fp : az 202 4 := zt
theorem SI : uM Tryz.prog 202 = some (4, 109, 1) := zi
theorem Fk : sn 109 := zt
theorem E1 : cc 146 := zt
theorem aV : cc 151 := zt
theorem E0 : cc 152 := zt
theorem Oi : cc 136 := zt
theorem EZ : cc 153 := zt
theorem f0 : cc 154 := zt
theorem Iu : vD Tryz.prog 217 = some (82, 1, 1, [.int .i8 0]) := zi
theorem EY : cc 157 := zt
theorem Sy : cc 156 := zt
theorem EX : cc 160 := zt
theorem Sx : cc 159 := zt
theorem Dr : az 201 1 := zt
theorem YW : sn 171 := zt
theorem Iq : wz Tryz.prog 223 = some [.pointer none] := zi
theorem M0 : vZ Tryz.prog 223 = some [(0, 1)] := zi
theorem Jr : (Tryz.prog.underlying 223).isSome = true := zi
theorem JY : uJ Tryz.prog 223 = false := zi
theorem fO : vD Tryz.prog 221 = some (169, 1, 16, [.nilIface]) := zi
theorem L9 : wz Tryz.prog 225 = some [.pointer none] := zi
theorem Sd : vZ Tryz.prog 225 = some [(0, 1)] := zi
theorem Mn : (Tryz.prog.underlying 225).isSome = true := zi
theorem Nc : uJ Tryz.prog 225 = false := zi
theorem FN : wz Tryz.prog 226 = some [.slice none 0 0, .slice none 0 0] := zi
theorem OE : uM Tryz.prog 226 = some (2, 46, 1) := zi
theorem OD : sn 46 := zt
theorem Dq : az 223 1 := zt
theorem R9 : sn 174 := zt
theorem Dp : az 225 1 := zt
theorem Iv : sn 176 := zt
theorem Et : Uo Tryz.prog 221 = some 1 := zi
theorem F7 : sn 169 := zt
theorem SL : az 203 16 := zt
theorem R3 : wz Tryz.prog 203 = some [.int .i8 0, .int .i8 0, .int .i8 0, .int .i8 0, .int .i8 0, .int .i8 0, .int .i8 0, .int .i8 0, .int .i8 0, .int .i8 0, .int .i8 0, .int .i8 0, .int .i8 0, .int .i8 0, .int .i8 0, .int .i8 0] := zi
theorem FO : wz Tryz.prog 202 = some [.int .i8 0, .int .i8 0, .int .i8 0, .int .i8 0] := zi
theorem DT : (Tryz.prog.underlying 3).isSome = true := zi
theorem Sw : cc 169 := zt
theorem UC : cc 172 := zt
theorem Xi : cc 171 := zt
theorem EU : cc 173 := zt
theorem Ss : Uo Tryz.prog 217 = some 1 := zi
theorem ET : cc 174 := zt
theorem S3 : vD Tryz.prog 83 = some (85, 4, 48, [.int .i8 0, .int .i64 0, .int .i8 0, .slice none 0 0]) := zi
theorem Sv : cc 175 := zt
theorem F3 : vD Tryz.prog 86 = some (88, 5, 72, [.int .i8 0, .int .i8 0, .string ByteArray.empty, .slice none 0 0, .slice none 0 0]) := zi
theorem EV : cc 170 := zt
theorem ES : cc 179 := zt
theorem Og : cc 180 := zt
theorem Tz : aN Tryz.prog 82 .i8 = true := zi
theorem Oh : cc 158 := zt
theorem ER : cc 181 := zt
end
section
def tz : Q5 := ⟨[(25, 0, 0), (25, 1, 1), (31, 0, 0), (40, 0, 0), (40, 1, 1), (40, 2, 2), (40, 3, 3), (40, 4, 4), (40, 5, 5), (40, 6, 6), (48, 0, 0), (48, 1, 1), (48, 2, 2), (48, 3, 3), (48, 4, 4), (48, 5, 5), (48, 6, 6), (48, 7, 7), (48, 8, 8), (48, 9, 9), (48, 10, 10), (48, 11, 11), (63, 0, 0), (63, 1, 1), (85, 0, 0), (85, 1, 1), (85, 2, 2), (85, 3, 3), (88, 0, 0), (88, 1, 1), (88, 2, 2), (88, 3, 3), (88, 4, 4), (90, 0, 0), (90, 1, 1), (90, 2, 2), (90, 3, 6), (90, 4, 7), (90, 5, 12), (90, 6, 13), (99, 0, 0), (99, 1, 1), (99, 2, 2), (99, 3, 3), (101, 0, 0), (101, 1, 1), (101, 2, 2), (101, 3, 3), (111, 0, 0), (119, 0, 0), (119, 1, 1), (150, 0, 0), (150, 1, 1), (193, 0, 0), (193, 1, 1), (201, 0, 0), (223, 0, 0), (225, 0, 0), (239, 0, 0), (239, 1, 1), (248, 0, 0), (248, 1, 1), (248, 2, 2), (251, 0, 0), (251, 1, 1), (251, 2, 2), (254, 0, 0), (254, 1, 1), (254, 2, 2)], [22, 23, 38, 46, 61, 83, 86, 94, 120, 122, 123, 221, 237, 245, 246]⟩
theorem gt : fF Tryz.prog tz := ⟨by kernel_rfl, by kernel_rfl⟩
variable {L : List yb} {Q Q0 : yR} {env env' : yW} {fs fs' : List Fm} {g' : Hy} {m : Mp} {n : Nat}
theorem tr (k : Nat) {c : Code} [r : Reif Tryz.prog n Q fs Q0] (hk : vk Tryz.prog n g' fs' env' m L Q0) (h : jf tz n k (.code c) fs env = (g', fs', env') := by exact rfl) : TS Tryz.prog n c env m L Q := F8 gt k h hk
variable {l l0 : List Oper}
theorem vr (k : Nat) [r : Reif Tryz.prog n Q fs Q0] (hk : vk Tryz.prog n g' fs' env' m L Q0) (h : jf tz n k (.ops l0 l) fs env = (g', fs', env') := by exact rfl) : VS Tryz.prog n l0 l env m L Q := Y5 gt k h hk
variable {d : Nat} {o : Oper} {v : Value}
theorem lr (k : Nat) [r : Reif Tryz.prog n Q fs Q0] (hr : ∀ h, HS m L h -> vj Tryz.prog n o env h v) (hk : vk Tryz.prog n g' fs' env' m L Q0) (hd : o.dst = some d := by exact rfl) (hn : Nat.blt d n = true := by exact rfl) (hw : wanted l0 env o = some true := by exact rfl) (h : jf tz n k (.ops l0 l) fs ((d, v) :: env) = (g', fs', env') := by exact rfl) : VS Tryz.prog n l0 (o :: l) env m L Q := Tb gt k hr hk hd hn hw h
theorem pe (k : Nat) [r : Reif Tryz.prog n Q fs Q0] (hr : yz Tryz.prog n o env v) (hk : vk Tryz.prog n g' fs' env' m L Q0) (hd : o.dst = some d := by exact rfl) (hn : Nat.blt d n = true := by exact rfl) (hw : wanted l0 env o = some true := by exact rfl) (h : jf tz n k (.ops l0 l) fs ((d, v) :: env) = (g', fs', env') := by exact rfl) : VS Tryz.prog n l0 (o :: l) env m L Q := dN gt k hr hk hd hn hw h
theorem ct (k : Nat) {p : Prop} [r : Reif Tryz.prog n Q fs Q0] (hc : QJ env o.op = some p) (hp : p) (hk : vk Tryz.prog n g' fs' env' m L Q0) (hd : o.dst = some d := by exact rfl) (hn : Nat.blt d n = true := by exact rfl) (hw : wanted l0 env o = some true := by exact rfl) (h : jf tz n k (.ops l0 l) fs ((d, .bool true) :: env) = (g', fs', env') := by exact rfl) : VS Tryz.prog n l0 (o :: l) env m L Q := dN gt k ((kG hc).1 hp) hk hd hn hw h
section
variable {n d b i q : Nat} {v : Value} {l0 l : List Oper} {env : yW} {m : Mp} {L r L' : List yb} {Q Q0 : yR} {fs : List Fm} {g' : Hy} {fs' : List Fm} {env' : yW} {ty t yt e : TypeId} {pos : String} {aft : Array Edge} {gd : Option (Nat × Bool)} {x y : Operand} {a : Addr} {vl vl' vs : Lv}
theorem Lo (k : Nat) [Reif Tryz.prog n Q fs Q0] (ht : single Tryz.prog t = true) (hx : ev env x = some (.pointer (some a))) (hc : mc m a = some v) (hk : vk Tryz.prog n g' fs' env' m L Q0) (hn : Nat.blt d n = true := by exact rfl) (hw : wanted l0 env ⟨some d, .load t x, ty, pos, aft, gd⟩ = some true := by exact rfl) (h : jf tz n k (.ops l0 l) fs ((d, v) :: env) = (g', fs', env') := by exact rfl) : VS Tryz.prog n l0 (⟨some d, .load t x, ty, pos, aft, gd⟩ :: l) env m L Q := lr k (zl ht hx hc) hk rfl hn hw h
theorem Lb (k : Nat) [Reif Tryz.prog n Q fs Q0] (ht : single Tryz.prog t = true) (hT : Tk L (cel b vl e) r) (hk : vk Tryz.prog n g' fs' env' m L Q0) (hx : ev env x = some (.pointer (some ⟨b, i, none⟩)) := by exact rfl) (hv : cF vl i = some v := by exact rfl) (hn : Nat.blt d n = true := by exact rfl) (hw : wanted l0 env ⟨some d, .load t x, ty, pos, aft, gd⟩ = some true := by exact rfl) (h : jf tz n k (.ops l0 l) fs ((d, v) :: env) = (g', fs', env') := by exact rfl) : VS Tryz.prog n l0 (⟨some d, .load t x, ty, pos, aft, gd⟩ :: l) env m L Q := lr k (yE ht hx hT hv) hk rfl hn hw h
theorem Lc (k : Nat) [Reif Tryz.prog n Q fs Q0] (ht : vq Tryz.prog t = some q) (hT : Tk L (cel b vl e) r) (hk : vk Tryz.prog n g' fs' env' m L Q0) (hx : ev env x = some (.pointer (some ⟨b, 0, none⟩)) := by exact rfl) (hl : vl.length = q := by exact rfl) (hn : Nat.blt d n = true := by exact rfl) (hw : wanted l0 env ⟨some d, .load t x, ty, pos, aft, gd⟩ = some true := by exact rfl) (h : jf tz n k (.ops l0 l) fs ((d, .agg vl.toArray) :: env) = (g', fs', env') := by exact rfl) : VS Tryz.prog n l0 (⟨some d, .load t x, ty, pos, aft, gd⟩ :: l) env m L Q := lr k (wt ht hx hT hl) hk rfl hn hw h
theorem La (k : Nat) [Reif Tryz.prog n Q fs Q0] (ht : vq Tryz.prog t = some q) (hc : At m a vl) (hk : vk Tryz.prog n g' fs' env' m L Q0) (hx : ev env x = some (.pointer (some a)) := by exact rfl) (hl : vl.length = q := by exact rfl) (hn : Nat.blt d n = true := by exact rfl) (hw : wanted l0 env ⟨some d, .load t x, ty, pos, aft, gd⟩ = some true := by exact rfl) (h : jf tz n k (.ops l0 l) fs ((d, .agg vl.toArray) :: env) = (g', fs', env') := by exact rfl) : VS Tryz.prog n l0 (⟨some d, .load t x, ty, pos, aft, gd⟩ :: l) env m L Q := lr k (zO ht hx hl hc) hk rfl hn hw h
theorem Pa (k : Nat) {a1 b1 : Int} [Reif Tryz.prog n Q fs Q0] (hk : vk Tryz.prog n g' fs' env' m L Q0) (hx : ev env x = some (.int .i64 a1) := by exact rfl) (hy : ev env y = some (.int .i64 b1) := by exact rfl) (h1 : -9223372036854775808 <= a1 + b1 := by omega) (h2 : a1 + b1 <= 9223372036854775807 := by omega) (hn : Nat.blt d n = true := by exact rfl) (hw : wanted l0 env ⟨some d, .binOp .add t x y yt, ty, pos, aft, gd⟩ = some true := by exact rfl) (h : jf tz n k (.ops l0 l) fs ((d, .int .i64 (a1 + b1)) :: env) = (g', fs', env') := by exact rfl) : VS Tryz.prog n l0 (⟨some d, .binOp .add t x y yt, ty, pos, aft, gd⟩ :: l) env m L Q := pe k (wO hx hy (fK h1 h2)) hk rfl hn hw h
variable {s u : Bt}
theorem Ps (k : Nat) [Reif Tryz.prog n Q fs Q0] (hk : vk Tryz.prog n g' fs' env' m L Q0) (hx : ev env x = some (.string (bs s)) := by exact rfl) (hy : ev env y = some (.string (bs u)) := by exact rfl) (h1 : s.length + u.length <= 9223372036854775807 := by (simp <;> omega)) (hn : Nat.blt d n = true := by exact rfl) (hw : wanted l0 env ⟨some d, .binOp .add t x y yt, ty, pos, aft, gd⟩ = some true := by exact rfl) (h : jf tz n k (.ops l0 l) fs ((d, .string (bs (s ++ u))) :: env) = (g', fs', env') := by exact rfl) : VS Tryz.prog n l0 (⟨some d, .binOp .add t x y yt, ty, pos, aft, gd⟩ :: l) env m L Q := pe k (Ik hx hy h1) hk rfl hn hw h
theorem Sg (k : Nat) [Reif Tryz.prog n Q fs Q0] (ht : vq Tryz.prog t = some q) (hT : gz L (cel b vl e) (cel b vs e) L') (hk : vk Tryz.prog n g' fs' env' m L' Q0) (hx : ev env x = some (.pointer (some ⟨b, 0, none⟩)) := by exact rfl) (hy : ev env y = some (.agg vs.toArray) := by exact rfl) (hq : Nat.beq vs.length q = true := by exact rfl) (hl : Nat.beq vl.length q = true := by exact rfl) (h1 : vs.all aD = true := by exact rfl) (hw : wanted l0 env ⟨none, .store t x y, ty, pos, aft, gd⟩ = some true := by exact rfl) (h : jf tz n k (.ops l0 l) fs env = (g', fs', env') := by exact rfl) : VS Tryz.prog n l0 (⟨none, .store t x y, ty, pos, aft, gd⟩ :: l) env m L Q := zg (zR ht hx hy hq hT hl h1 (Y5 gt k h hk)) hw
theorem Sr (k : Nat) [Reif Tryz.prog n Q fs Q0] (ht : dZ Tryz.prog t = true) (hT : gz L (cel b vl e) (cel b vl' e) L') (hu : uN vl i v vl') (hk : vk Tryz.prog n g' fs' env' m L' Q0) (hx : ev env x = some (.pointer (some ⟨b, i, none⟩)) := by exact rfl) (hy : ev env y = some v := by exact rfl) (hv : aD v = true := by exact rfl) (hw : wanted l0 env ⟨none, .store t x y, ty, pos, aft, gd⟩ = some true := by exact rfl) (h : jf tz n k (.ops l0 l) fs env = (g', fs', env') := by exact rfl) : VS Tryz.prog n l0 (⟨none, .store t x y, ty, pos, aft, gd⟩ :: l) env m L Q := zg (xn ht hx hy hv hT hu (Y5 gt k h hk)) hw
variable {z : Lv}
theorem Al (k : Nat) {g' : Nat -> Hy} {fs' : Nat -> List Fm} {env' : Nat -> yW} [Reif Tryz.prog n Q fs Q0] (hz : wz Tryz.prog t = some z) (hk : ∀ b, vk Tryz.prog n (g' b) (fs' b) (env' b) m (cel b z t :: L) Q0) (hn : Nat.blt d n = true := by exact rfl) (hw : wanted l0 env ⟨some d, .alloc t, ty, pos, aft, gd⟩ = some true := by exact rfl) (h : ∀ b, jf tz n k (.ops l0 l) fs ((d, .pointer (some ⟨b, 0, none⟩)) :: env) = (g' b, fs' b, env' b) := by exact fun _ => rfl) : VS Tryz.prog n l0 (⟨some d, .alloc t, ty, pos, aft, gd⟩ :: l) env m L Q := zg (ua hz hn fun b => Y5 gt k (h b) (hk b)) hw
theorem Bx (k : Nat) {g' : Nat -> Hy} {fs' : Nat -> List Fm} {env' : Nat -> yW} [Reif Tryz.prog n Q fs Q0] (hx : ev env x = some v) (hk : ∀ b, vk Tryz.prog n (g' b) (fs' b) (env' b) m (cel b v.cells.toList t :: L) Q0) (hn : Nat.blt d n = true := by exact rfl) (hw : wanted l0 env ⟨some d, .box t x, ty, pos, aft, gd⟩ = some true := by exact rfl) (h : ∀ b, jf tz n k (.ops l0 l) fs ((d, .pointer (some ⟨b, 0, none⟩)) :: env) = (g' b, fs' b, env' b) := by exact fun _ => rfl) : VS Tryz.prog n l0 (⟨some d, .box t x, ty, pos, aft, gd⟩ :: l) env m L Q := zg (Dx hx hn fun b => Y5 gt k (h b) (hk b)) hw
theorem Bs (k : Nat) {len sz xI : Nat} {cs : Lv} {parts : List (Nat × Operand)} {ps : List (Nat × Value)} {g' : Nat -> Hy} {fs' : Nat -> List Fm} {env' : Nat -> yW} [Reif Tryz.prog n Q fs Q0] (hs : vD Tryz.prog t = some (e, sz, xI, z)) (hk : ∀ b, vk Tryz.prog n (g' b) (fs' b) (env' b) m (cel b cs e :: L) Q0) (hx : P8 env parts = some ps := by exact rfl) (hsmall : Nat.ble (len * sz) 16777216 = true := by exact rfl) (hf : Xd sz (Gr (if len * sz = 0 then [] else z) (len * sz)) ps = some cs := by exact rfl) (hn : Nat.blt d n = true := by exact rfl) (hw : wanted l0 env ⟨some d, .buildSlice t len parts.toArray, ty, pos, aft, gd⟩ = some true := by exact rfl) (h : ∀ b, jf tz n k (.ops l0 l) fs ((d, .slice (some ⟨b, 0, none⟩) len len) :: env) = (g' b, fs' b, env' b) := by exact fun _ => rfl) : VS Tryz.prog n l0 (⟨some d, .buildSlice t len parts.toArray, ty, pos, aft, gd⟩ :: l) env m L Q := zg (yi hs hx hsmall hf hn fun b => Y5 gt k (h b) (hk b)) hw
variable {f : FuncId} {args : List Operand} {ats : Array TypeId} {pre : List yb} {post ppost : Value -> List yb -> Prop} {ee : yb} {R : Value -> Prop}
theorem Cp (hcl : yX Tryz.prog f = true) (hx : Zb env args = some vs) (hT : XS L pre r) (hc : ∀ m', Le m m' -> HE r m' -> Vw Tryz.prog f vs m' pre post ppost) (hp : ∀ v L', ppost v L' -> QS Q (.panic (pan v)) env m (L' ++ r)) (hk : ∀ v L', post v L' -> VS Tryz.prog n l0 l ((d, v) :: env) m (L' ++ r) Q) (hn : Nat.blt d n = true := by exact rfl) (hw : wanted l0 env ⟨some d, .call ⟨.value (.func f), args.toArray, ats⟩, ty, pos, aft, gd⟩ = some true := by exact rfl) : VS Tryz.prog n l0 (⟨some d, .call ⟨.value (.func f), args.toArray, ats⟩, ty, pos, aft, gd⟩ :: l) env m L Q := zg (z8 hcl hx hT hc hn hp hk) hw
theorem Cn (hcl : yX Tryz.prog f = true) (hx : Zb env args = some vs) (hc : ∀ {m'}, Vw Tryz.prog f vs m' [] post ppost) (hp : ∀ v L', ppost v L' -> QS Q (.panic (pan v)) env m (L' ++ L)) (hk : ∀ v L', post v L' -> VS Tryz.prog n l0 l ((d, v) :: env) m (L' ++ L) Q) (hn : Nat.blt d n = true := by exact rfl) (hw : wanted l0 env ⟨some d, .call ⟨.value (.func f), args.toArray, ats⟩, ty, pos, aft, gd⟩ = some true := by exact rfl) : VS Tryz.prog n l0 (⟨some d, .call ⟨.value (.func f), args.toArray, ats⟩, ty, pos, aft, gd⟩ :: l) env m L Q := zg (z8 hcl hx .nil (fun _ _ _ => hc) hn hp hk) hw
theorem C1 (hcl : yX Tryz.prog f = true) (hx : Zb env args = some vs) (hT : Tk L ee r) (hc : ∀ m', Le m m' -> HE r m' -> CS Tryz.prog f vs m' [ee] post) (hk : ∀ v L', post v L' -> VS Tryz.prog n l0 l ((d, v) :: env) m (L' ++ r) Q) (hn : Nat.blt d n = true := by exact rfl) (hw : wanted l0 env ⟨some d, .call ⟨.value (.func f), args.toArray, ats⟩, ty, pos, aft, gd⟩ = some true := by exact rfl) : VS Tryz.prog n l0 (⟨some d, .call ⟨.value (.func f), args.toArray, ats⟩, ty, pos, aft, gd⟩ :: l) env m L Q := zg (RN hcl hx hT hc hn hk) hw
theorem Cr (hcl : yX Tryz.prog f = true) (hx : Zb env args = some vs) (hc : ∀ m', Le m m' -> HE L m' -> CS Tryz.prog f vs m' [] fun v L' => R v /\ L' = []) (hk : ∀ v, R v -> VS Tryz.prog n l0 l ((d, v) :: env) m L Q) (hn : Nat.blt d n = true := by exact rfl) (hw : wanted l0 env ⟨some d, .call ⟨.value (.func f), args.toArray, ats⟩, ty, pos, aft, gd⟩ = some true := by exact rfl) : VS Tryz.prog n l0 (⟨some d, .call ⟨.value (.func f), args.toArray, ats⟩, ty, pos, aft, gd⟩ :: l) env m L Q := zg (xB hcl hx hc hn hk) hw
variable {o : Oper} {tB tB' : OB} {tT tT' : OT} {wild : Nat -> Bool}
theorem vB (k : Nat) (hk : Z1 Tryz.prog n l tB' env' m L Q) (h : dh tz n l k tB env = (tB', env') := by exact rfl) : Z1 Tryz.prog n l tB env m L Q := fQ gt k h hk
theorem Vb (k : Nat) (ho : fe l i = some o) (hr : yz Tryz.prog n o env v) (hk : Z1 Tryz.prog n l tB' env' m L Q) (hd : o.dst = some d := by exact rfl) (hn : Nat.blt d n = true := by exact rfl) (hw : wanted l env o = some true := by exact rfl) (h : dh tz n l k tB ((d, v) :: env) = (tB', env') := by exact rfl) : Z1 Tryz.prog n l (.step i true tB) env m L Q := KW ho hr hd hn hw (fQ gt k h hk)
theorem Vr (k : Nat) (ho : fe l i = some o) (hr : ∀ h, HS m [] h -> vj Tryz.prog n o env h v) (hk : Z1 Tryz.prog n l tB' env' m L Q) (hd : o.dst = some d := by exact rfl) (hn : Nat.blt d n = true := by exact rfl) (hw : wanted l env o = some true := by exact rfl) (h : dh tz n l k tB ((d, v) :: env) = (tB', env') := by exact rfl) : Z1 Tryz.prog n l (.step i true tB) env m L Q := OL ho hr hd hn hw (fQ gt k h hk)
theorem Ve (k : Nat) (ho : fe l i = some o) (hr : ∀ h, HS m L h -> vj Tryz.prog n o env h v) (hk : Z1 Tryz.prog n l tB' env' m L Q) (hd : o.dst = some d := by exact rfl) (hn : Nat.blt d n = true := by exact rfl) (hw : wanted l env o = some true := by exact rfl) (h : dh tz n l k tB ((d, v) :: env) = (tB', env') := by exact rfl) : Z1 Tryz.prog n l (.step i false tB) env m L Q := LJ ho hr hd hn hw (fQ gt k h hk)
theorem vt (k : Nat) (hk : ZZ Tryz.prog n l wild tT' env' m L Q) (h : Zm tz n l k tT env = (tT', env') := by exact rfl) : ZZ Tryz.prog n l wild tT env m L Q := ax gt k h hk
theorem Vt (k : Nat) (ho : fe l i = some o) (hr : yz Tryz.prog n o env v) (hk : ZZ Tryz.prog n l wild tT' env' m L Q) (hd : o.dst = some d := by exact rfl) (hn : Nat.blt d n = true := by exact rfl) (hw : wanted l env o = some true := by exact rfl) (h : Zm tz n l k tT ((d, v) :: env) = (tT', env') := by exact rfl) : ZZ Tryz.prog n l wild (.step i .pure tT) env m L Q := KV ho hr hd hn hw (ax gt k h hk)
theorem Vu (k : Nat) (ho : fe l i = some o) (hr : ∀ h, HS m L h -> vj Tryz.prog n o env h v) (hk : ZZ Tryz.prog n l wild tT' env' m L Q) (hd : o.dst = some d := by exact rfl) (hn : Nat.blt d n = true := by exact rfl) (hw : wanted l env o = some true := by exact rfl) (h : Zm tz n l k tT ((d, v) :: env) = (tT', env') := by exact rfl) : ZZ Tryz.prog n l wild (.step i .read tT) env m L Q := OJ ho hr hd hn hw (ax gt k h hk)
theorem Vn (k : Nat) [Reif Tryz.prog n Q fs Q0] (hk : vk Tryz.prog n g' fs' env' m L Q0) (h : jf tz n k (.exit .normal) fs env = (g', fs', env') := by exact rfl) : Z1 Tryz.prog n l .done env m L Q := RF (MJ gt k h hk)
theorem Vm (k : Nat) [Reif Tryz.prog n Q fs Q0] (hk : vk Tryz.prog n g' fs' env' m L Q0) (h : jf tz n k (.exit .normal) fs env = (g', fs', env') := by exact rfl) : ZZ Tryz.prog n l wild .done env m L Q := RC (MJ gt k h hk)
theorem qt (k : Nat) {c : Code} {ex : Exit} [Reif Tryz.prog n Q fs Q0] (hk : vk Tryz.prog n g' fs' env' m L Q0) (h : jf tz n k (.exit ex) (.thn c :: fs) env = (g', fs', env') := by exact rfl) : QS (uT Tryz.prog n c Q) ex env m L := MJ (Q := uT Tryz.prog n c Q) gt k h hk
theorem Db {id : Nat} (t : OB) (hv : Z1 Tryz.prog n l t env m L Q) (hQ : ∀ c env env' h, Q (.panic c) env h -> Q (.panic c) env' h := by exact fun _ _ _ _ hq => hq) (hck : G5 l t = true := by kernel_rfl) : TS Tryz.prog n (.region id l.toArray true) env m L Q := OS t mixed hck hQ hv
variable {p : Prop}
theorem y4 (k : Nat) {o : Oper} [r : Reif Tryz.prog n Q fs Q0] (hk : vk Tryz.prog n g' fs' env' m L Q0) (hc : QJ env o.op = some p := by exact rfl) (hp : p := by omega) (hd : o.dst = some d := by exact rfl) (hn : Nat.blt d n = true := by exact rfl) (hw : wanted l0 env o = some true := by exact rfl) (h : jf tz n k (.ops l0 l) fs ((d, .bool true) :: env) = (g', fs', env') := by exact rfl) : VS Tryz.prog n l0 (o :: l) env m L Q := dN gt k ((kG hc).1 hp) hk hd hn hw h
theorem yr (k : Nat) {o : Oper} [r : Reif Tryz.prog n Q fs Q0] (hk : vk Tryz.prog n g' fs' env' m L Q0) (hc : QJ env o.op = some p := by exact rfl) (hp : p := by assumption) (hd : o.dst = some d := by exact rfl) (hn : Nat.blt d n = true := by exact rfl) (hw : wanted l0 env o = some true := by exact rfl) (h : jf tz n k (.ops l0 l) fs ((d, .bool true) :: env) = (g', fs', env') := by exact rfl) : VS Tryz.prog n l0 (o :: l) env m L Q := dN gt k ((kG hc).1 hp) hk hd hn hw h
theorem xf (k : Nat) {o : Oper} [r : Reif Tryz.prog n Q fs Q0] (hk : vk Tryz.prog n g' fs' env' m L Q0) (hc : QJ env o.op = some p := by exact rfl) (hp : p := by exact rfl) (hd : o.dst = some d := by exact rfl) (hn : Nat.blt d n = true := by exact rfl) (hw : wanted l0 env o = some true := by exact rfl) (h : jf tz n k (.ops l0 l) fs ((d, .bool true) :: env) = (g', fs', env') := by exact rfl) : VS Tryz.prog n l0 (o :: l) env m L Q := dN gt k ((kG hc).1 hp) hk hd hn hw h
theorem zH (k : Nat) {o : Oper} [r : Reif Tryz.prog n Q fs Q0] (hk : vk Tryz.prog n g' fs' env' m L Q0) (hc : QJ env o.op = some p := by exact rfl) (hp : ¬ p := by omega) (hd : o.dst = some d := by exact rfl) (hn : Nat.blt d n = true := by exact rfl) (hw : wanted l0 env o = some true := by exact rfl) (h : jf tz n k (.ops l0 l) fs ((d, .bool false) :: env) = (g', fs', env') := by exact rfl) : VS Tryz.prog n l0 (o :: l) env m L Q := dN gt k ((kG hc).2 hp) hk hd hn hw h
theorem zF (k : Nat) {o : Oper} [r : Reif Tryz.prog n Q fs Q0] (hk : vk Tryz.prog n g' fs' env' m L Q0) (hc : QJ env o.op = some p := by exact rfl) (hp : ¬ p := by assumption) (hd : o.dst = some d := by exact rfl) (hn : Nat.blt d n = true := by exact rfl) (hw : wanted l0 env o = some true := by exact rfl) (h : jf tz n k (.ops l0 l) fs ((d, .bool false) :: env) = (g', fs', env') := by exact rfl) : VS Tryz.prog n l0 (o :: l) env m L Q := dN gt k ((kG hc).2 hp) hk hd hn hw h
theorem Vs (k : Nat) (ho : fe l i = some ⟨some d, .binOp .add t x y yt, ty, pos, aft, gd⟩) (hk : Z1 Tryz.prog n l tB' env' m L Q) (hx : ev env x = some (.string (bs s)) := by exact rfl) (hy : ev env y = some (.string (bs u)) := by exact rfl) (h1 : s.length + u.length <= 9223372036854775807 := by (simp <;> omega)) (hn : Nat.blt d n = true := by exact rfl) (hw : wanted l env ⟨some d, .binOp .add t x y yt, ty, pos, aft, gd⟩ = some true := by exact rfl) (h : dh tz n l k tB ((d, .string (bs (s ++ u))) :: env) = (tB', env') := by exact rfl) : Z1 Tryz.prog n l (.step i true tB) env m L Q := Vb k ho (Ik hx hy h1) hk rfl hn hw h
theorem Vl (k : Nat) (ho : fe l i = some ⟨some d, .load t x, ty, pos, aft, gd⟩) (ht : single Tryz.prog t = true) (hT : Tk L (cel b vl e) r) (hk : ZZ Tryz.prog n l wild tT' env' m L Q) (hx : ev env x = some (.pointer (some ⟨b, q, none⟩)) := by exact rfl) (hv : cF vl q = some v := by exact rfl) (hn : Nat.blt d n = true := by exact rfl) (hw : wanted l env ⟨some d, .load t x, ty, pos, aft, gd⟩ = some true := by exact rfl) (h : Zm tz n l k tT ((d, v) :: env) = (tT', env') := by exact rfl) : ZZ Tryz.prog n l wild (.step i .read tT) env m L Q := Vu k ho (yE ht hx hT hv) hk rfl hn hw h
end
end
section
abbrev n4 (op n who : Int) (K : Oa) (k kc : Nat) : Lv := [.int .i8 op, .int .i64 n, .int .i8 who, .slice K k kc]
abbrev c5 (op who : Int) (name : Bt) (A : Oa) (la ca : Nat) (B : Oa) (lb cb : Nat) : Lv := [.int .i8 op, .int .i8 who, .string (bs name), .slice A la ca, .slice B lb cb]
abbrev Vq (op who nop nn nwho : Int) (nA : Oa) (nl nc : Nat) (name : Bt) (cop cwho : Int) (cname : Bt) (cA : Oa) (cla cca : Nat) (cB : Oa) (clb ccb : Nat) (TA : Oa) (la ca : Nat) (EB : Oa) (lb cb : Nat) : Lv :=
 [.int .i8 op, .int .i8 who, .int .i8 nop, .int .i64 nn, .int .i8 nwho, .slice nA nl nc, .string (bs name), .int .i8 cop, .int .i8 cwho, .string (bs cname), .slice cA cla cca, .slice cB clb ccb, .slice TA la ca, .slice EB lb cb]
def qi (q : Prop) : Value -> List yb -> Prop := fun v L' => ((v = .bool true /\ q) \/ (v = .bool false /\ ¬ q)) /\ L' = []
end
namespace Wd
open Go Go.Eng
def QI (s : Bt) (i : Nat) : Bool := decide (i < s.length) && xI s i / 64 == 2
def rn (s : Bt) (p : Nat) : Option (Nat × Nat) :=
 if xI s p < 128 then some (xI s p, 1)
 else if xI s p / 32 == 6 && QI s (p + 1) then
  if xI s p % 32 * 64 + xI s (p + 1) % 64 ≥ 128 then some (xI s p % 32 * 64 + xI s (p + 1) % 64, 2) else none
 else if xI s p / 16 == 14 && QI s (p + 1) && QI s (p + 2) then
  if xI s p % 16 * 4096 + xI s (p + 1) % 64 * 64 + xI s (p + 2) % 64 ≥ 2048 && Utf8.valid (xI s p % 16 * 4096 + xI s (p + 1) % 64 * 64 + xI s (p + 2) % 64 : Nat) then
   some (xI s p % 16 * 4096 + xI s (p + 1) % 64 * 64 + xI s (p + 2) % 64, 3) else none
 else if xI s p / 8 == 30 && QI s (p + 1) && QI s (p + 2) && QI s (p + 3) then
  if xI s p % 8 * 262144 + xI s (p + 1) % 64 * 4096 + xI s (p + 2) % 64 * 64 + xI s (p + 3) % 64 ≥ 65536 && Utf8.valid (xI s p % 8 * 262144 + xI s (p + 1) % 64 * 4096 + xI s (p + 2) % 64 * 64 + xI s (p + 3) % 64 : Nat) then
   some (xI s p % 8 * 262144 + xI s (p + 1) % 64 * 4096 + xI s (p + 2) % 64 * 64 + xI s (p + 3) % 64, 4) else none
 else none
def gM (s : Bt) (p : Nat) : Nat × Nat := (rn s p).getD (65533, 1)
theorem TD (s : Bt) (i : Nat) : ((bs s).get! i).toNat = xI s i := by
 unfold xI
 have : (bs s).get! i = s.getD i 0 := by
  show (bs s).data[i]! = _;simp only [bs];rw [List.getD_eq_getElem?_getD, getElem!_def]
  simp
  cases s[i]? <;> rfl
 rw [this]
theorem Lk (c0 c1 c2 c3 d1 d2 d3 : Prop) [Decidable c0] [Decidable c1] [Decidable c2] [Decidable c3] [Decidable d1] [Decidable d2] [Decidable d3] (v0 v1 v2 v3 e : Nat × Nat) :
  (if c0 then v0 else if c1 then (if d1 then v1 else e) else if c2 then (if d2 then v2 else e) else if c3 then (if d3 then v3 else e) else e) =
  (if c0 then some v0 else if c1 then (if d1 then some v1 else none) else if c2 then (if d2 then some v2 else none) else if c3 then (if d3 then some v3 else none) else none).getD e := by
 by_cases h0 : c0 <;> by_cases h1 : c1 <;> by_cases h2 : c2 <;> by_cases h3 : c3 <;> by_cases k1 : d1 <;> by_cases k2 : d2 <;> by_cases k3 : d3 <;> simp [*]
theorem eW (s : Bt) (p : Nat) : Utf8.decode (bs s) p = gM s p := by
 have h0 : (bs s).size = s.length := jp s;have h1 : ∀ k, ((bs s).get! (p + k)).toNat = xI s (p + k) := fun k => TD s _;unfold Utf8.decode gM rn QI;rw [h0, show (fun k => ((bs s).get! (p + k)).toNat) = fun k => xI s (p + k) from funext h1];exact Lk _ _ _ _ _ _ _ _ _ _ _ _
theorem MR {c0 c1 c2 c3 d1 d2 d3 : Prop} [Decidable c0] [Decidable c1] [Decidable c2] [Decidable c3] [Decidable d1] [Decidable d2] [Decidable d3] {v0 v1 v2 v3 r : Nat × Nat} (h : (if c0 then some v0 else if c1 then (if d1 then some v1 else none) else if c2 then (if d2 then some v2 else none) else if c3 then (if d3 then some v3 else none) else none) = some r) :
  (c0 /\ v0 = r) \/ (¬ c0 /\ c1 /\ d1 /\ v1 = r) \/ (¬ c0 /\ ¬ c1 /\ c2 /\ d2 /\ v2 = r) \/ (¬ c0 /\ ¬ c1 /\ ¬ c2 /\ c3 /\ d3 /\ v3 = r) := by
 by_cases h0 : c0 <;> by_cases h1 : c1 <;> by_cases h2 : c2 <;> by_cases h3 : c3 <;> by_cases k1 : d1 <;> by_cases k2 : d2 <;> by_cases k3 : d3 <;> simp_all
variable {s : Bt}
theorem uZ {i : Nat} : QI s i = true ↔ i < s.length /\ xI s i / 64 = 2 := by simp [QI]
theorem bo (c : Nat) : Utf8.valid (c : Int) = true ↔ c < 55296 \/ (57344 <= c /\ c <= 1114111) := by simp [Utf8.valid]; omega
inductive OX (s : Bt) (p : Nat) : Nat -> Nat -> Prop
 | one (h : xI s p < 128) : OX s p (xI s p) 1
 | two (x : Nat) (h : xI s p / 32 = 6) (l1 : p + 1 < s.length) (k1 : xI s (p + 1) / 64 = 2) (hx : x = xI s p % 32 * 64 + xI s (p + 1) % 64) (h1 : 128 <= x) : OX s p x 2
 | three (x : Nat) (h : xI s p / 16 = 14) (l1 : p + 2 < s.length) (k1 : xI s (p + 1) / 64 = 2) (k2 : xI s (p + 2) / 64 = 2) (hx : x = xI s p % 16 * 4096 + xI s (p + 1) % 64 * 64 + xI s (p + 2) % 64) (h1 : 2048 <= x) (hv : x < 55296 \/ (57344 <= x /\ x <= 1114111)) : OX s p x 3
 | four (x : Nat) (h : xI s p / 8 = 30) (l1 : p + 3 < s.length) (k1 : xI s (p + 1) / 64 = 2) (k2 : xI s (p + 2) / 64 = 2) (k3 : xI s (p + 3) / 64 = 2)
   (hx : x = xI s p % 8 * 262144 + xI s (p + 1) % 64 * 4096 + xI s (p + 2) % 64 * 64 + xI s (p + 3) % 64) (h1 : 65536 <= x) (hv : x < 55296 \/ (57344 <= x /\ x <= 1114111)) : OX s p x 4
variable {k p x : Nat}
theorem bt (h : rn s p = some (x, k)) : OX s p x k := by
 unfold rn at h;rcases MR h with ⟨h0, e⟩ | ⟨h0, h1, h2, e⟩ | ⟨h0, h1, h2, h3, e⟩ | ⟨h0, h1, h2, h3, h4, e⟩
 ·injection e with e1 e2; subst e1 e2; exact .one h0
 ·obtain ⟨a, b⟩ := Bool.and_eq_true_iff.1 h1;obtain ⟨b1, b2⟩ := uZ.1 b
  injection e with e1 e2; subst e2; exact .two x (beq_iff_eq.1 a) b1 b2 e1.symm (e1 ▸ h2)
 ·obtain ⟨a, c⟩ := Bool.and_eq_true_iff.1 h2;obtain ⟨a, b⟩ := Bool.and_eq_true_iff.1 a;obtain ⟨b1, b2⟩ := uZ.1 b;obtain ⟨c1, c2⟩ := uZ.1 c;obtain ⟨d1, d2⟩ := Bool.and_eq_true_iff.1 h3
  injection e with e1 e2; subst e2; exact .three x (beq_iff_eq.1 a) c1 b2 c2 e1.symm (e1 ▸ of_decide_eq_true d1) (e1 ▸ (bo _).1 d2)
 ·obtain ⟨a, d⟩ := Bool.and_eq_true_iff.1 h3;obtain ⟨a, c⟩ := Bool.and_eq_true_iff.1 a;obtain ⟨a, b⟩ := Bool.and_eq_true_iff.1 a;obtain ⟨b1, b2⟩ := uZ.1 b;obtain ⟨c1, c2⟩ := uZ.1 c;obtain ⟨d1, d2⟩ := uZ.1 d;obtain ⟨f1, f2⟩ := Bool.and_eq_true_iff.1 h4
  injection e with e1 e2; subst e2; exact .four x (beq_iff_eq.1 a) d1 b2 c2 d2 e1.symm (e1 ▸ of_decide_eq_true f1) (e1 ▸ (bo _).1 f2)
theorem ue (h : rn s p = some (x, k)) : 1 <= k /\ k <= 4 /\ x <= 1114111 /\ (k = 1 -> x = xI s p /\ x < 128) /\ (2 <= k -> 128 <= x /\ 192 <= xI s p /\ p + k <= s.length) := by
 have b0 := Ov s p;cases bt h <;> omega
theorem bN (s : Bt) (p : Nat) : 1 <= (gM s p).2 /\ (gM s p).2 <= 4 /\ (gM s p).1 <= 1114111 := by
 unfold gM;cases h : rn s p with
 | none => simp
 | some r =>
   obtain ⟨x, k⟩ := r;have := ue h
   simp
   omega
end Wd
namespace Wd
open Go Go.Eng
variable {k p : Nat} {s : Bt} {x : Nat}
theorem kw (h : OX s p x k) : rn s p = some (x, k) := by
 have hl := Ov s p;unfold rn;cases h with
 | one h => rw [if_pos h]
 | two x h l1 k1 hx h1 =>
   rw [if_neg za, if_pos (by rw [Bool.and_eq_true_iff]; exact ⟨beq_iff_eq.2 h, uZ.2 ⟨l1, k1⟩⟩), if_pos za, hx]
 | three x h l1 k1 k2 hx h1 hv =>
   rw [if_neg za, if_neg (by rw [Bool.and_eq_true_iff]; rintro ⟨a, _⟩; have := beq_iff_eq.1 a; omega), if_pos (by rw [Bool.and_eq_true_iff, Bool.and_eq_true_iff]; exact ⟨⟨beq_iff_eq.2 h, uZ.2 ⟨by omega, k1⟩⟩, uZ.2 ⟨l1, k2⟩⟩), if_pos (by rw [Bool.and_eq_true_iff]; exact ⟨decide_eq_true za, (bo _).2 za⟩), hx]
 | four x h l1 k1 k2 k3 hx h1 hv =>
   rw [if_neg za, if_neg (by rw [Bool.and_eq_true_iff]; rintro ⟨a, _⟩; have := beq_iff_eq.1 a; omega), if_neg (by rw [Bool.and_eq_true_iff, Bool.and_eq_true_iff]; rintro ⟨⟨a, _⟩, _⟩; have := beq_iff_eq.1 a; omega),
    if_pos (by rw [Bool.and_eq_true_iff, Bool.and_eq_true_iff, Bool.and_eq_true_iff]; exact ⟨⟨⟨beq_iff_eq.2 h, uZ.2 ⟨by omega, k1⟩⟩, uZ.2 ⟨by omega, k2⟩⟩, uZ.2 ⟨l1, k3⟩⟩), if_pos (by rw [Bool.and_eq_true_iff]; exact ⟨decide_eq_true za, (bo _).2 za⟩), hx]
theorem Pz (h : ∀ x k, ¬ OX s p x k) : rn s p = none := by
 cases hr : rn s p with
 | none => rfl
 | some r => exact absurd (bt (x := r.1) (k := r.2) hr) (h _ _)
theorem wl (s : Bt) (a i : Nat) : xI (s.drop a) i = xI s (a + i) := by
 unfold xI
 simp [List.getD_eq_getElem?_getD, List.getElem?_drop]
theorem Ui {a : Nat} : OX (s.drop a) p x k ↔ OX s (a + p) x k := by
 constructor
 ·intro h;cases h with
  | one h => rw [wl] at h ⊢; exact .one h
  | two x h l1 k1 hx h1 => simp only [wl, List.length_drop] at *; exact .two x h za k1 hx h1
  | three x h l1 k1 k2 hx h1 hv => simp only [wl, List.length_drop] at *; exact .three x h za k1 k2 hx h1 hv
  | four x h l1 k1 k2 k3 hx h1 hv => simp only [wl, List.length_drop] at *; exact .four x h za k1 k2 k3 hx h1 hv
 ·intro h;cases h with
  | one h => rw [<- wl] at h ⊢; exact .one h
  | two x h l1 k1 hx h1 => exact .two x (by rw [wl]; exact h) (by rw [List.length_drop]; omega) (by rw [wl]; exact k1) (by rw [wl, wl]; exact hx) h1
  | three x h l1 k1 k2 hx h1 hv => exact .three x (by rw [wl]; exact h) (by rw [List.length_drop]; omega) (by rw [wl]; exact k1) (by rw [wl]; exact k2) (by rw [wl, wl, wl]; exact hx) h1 hv
  | four x h l1 k1 k2 k3 hx h1 hv => exact .four x (by rw [wl]; exact h) (by rw [List.length_drop]; omega) (by rw [wl]; exact k1) (by rw [wl]; exact k2) (by rw [wl]; exact k3) (by rw [wl, wl, wl, wl]; exact hx) h1 hv
theorem Zp (s : Bt) (a p : Nat) : rn (s.drop a) p = rn s (a + p) := by
 cases h : rn s (a + p) with
 | some r => exact kw (Ui.2 (bt (x := r.1) (k := r.2) h))
 | none => exact Pz fun x k hk => by rw [kw (Ui.1 hk)] at h; cases h
variable {e : Nat}
theorem vo {i : Nat} (h : i < e) : xI (s.take e) i = xI s i := by
 unfold xI
 simp [List.getD_eq_getElem?_getD, h]
theorem Py {e : Nat} (h : rn s p = some (x, k)) (he : p + k <= e) : rn (s.take e) p = some (x, k) := by
 refine kw ?_;cases bt h with
 | one hb => rw [<- vo (e := e) za] at hb ⊢; exact .one hb
 | two x hb l1 k1 hx h1 => exact .two x (by rw [vo za]; exact hb) (by rw [List.length_take]; omega) (by rw [vo za]; exact k1) (by rw [vo za, vo za]; exact hx) h1
 | three x hb l1 k1 k2 hx h1 hv => exact .three x (by rw [vo za]; exact hb) (by rw [List.length_take]; omega) (by rw [vo za]; exact k1) (by rw [vo za]; exact k2) (by rw [vo za, vo za, vo za]; exact hx) h1 hv
 | four x hb l1 k1 k2 k3 hx h1 hv => exact .four x (by rw [vo za]; exact hb) (by rw [List.length_take]; omega) (by rw [vo za]; exact k1) (by rw [vo za]; exact k2) (by rw [vo za]; exact k3) (by rw [vo za, vo za, vo za, vo za]; exact hx) h1 hv
def xN (x : Nat) : Bool := decide (97 <= x /\ x <= 122 \/ 65 <= x /\ x <= 90 \/ 192 <= x /\ x <= 591 /\ x ≠ 215 /\ x ≠ 247)
def vT (x : Nat) : Bool := decide (48 <= x /\ x <= 57)
def g8 (x : Nat) (first : Bool) : Bool := !xN x && (first || (!vT x && decide (x ≠ 39)))
def yZ (s : Bt) (p n : Nat) : Nat × Nat :=
 if p < s.length then
  match h : rn s p with
  | none => (p, n)
  | some (x, k) => if g8 x (n == 0) then (p, n) else yZ s (p + k) (n + 1)
 else (p, n)
termination_by s.length - p
decreasing_by have := ue h; omega
def wC (t : Bt) (i n : Nat) : Nat × Nat :=
 if i < t.length then
  if g8 (gM t i).1 (i == 0) then (i, n) else wC t (i + (gM t i).2) (n + 1)
 else (t.length, n)
termination_by t.length - i
decreasing_by have := bN t i; omega
def q6 (s : Bt) (q n : Nat) : Nat × Nat :=
 if q < s.length /\ vT (xI s q) then q6 s (q + 1) (min (n * 10 + (xI s q - 48)) 1000) else (q, n)
termination_by s.length - q
def k9 : List Bt := [[60, 61], [61, 61], [123], [125], [40], [41], [47], [44], [59], [43], [45], [42], [60]]
def WB (t : Bt) : Option Bt := k9.find? (·.isPrefixOf t)
def j3 (s : Bt) (p : Nat) : Nat ⊕ Nat :=
 if p < s.length /\ xI s p ≠ 10 then
  match h : rn s p with
  | none => .inl p
  | some (_, k) => j3 s (p + k)
 else .inr p
termination_by s.length - p
decreasing_by have := ue h; omega
structure yf where
 kind : Int
 text : Bt
 n : Int
 at_ : Int
deriving DecidableEq
def JD (s : Bt) (a b : Nat) : Bt := (s.drop a).take (b - a)
inductive St where
 | err (e : Int) (a : Nat)
 | next (q : Nat) (ws : List yf)
def ZF (x : Nat) : Bool := decide (x = 32 \/ x = 10 \/ x = 13 \/ x = 9)
def au (s : Bt) (p : Nat) (r : Nat × Nat) : St := if 24 < r.2 \/ 40 < r.1 - p then .err 3 p else .next r.1 [⟨1, JD s p r.1, 0, p⟩]
def ag (s : Bt) (p : Nat) (r : Nat × Nat) : St := if xI s p = 48 /\ p + 1 < r.1 then .err 110 p else if 999 < r.2 then .err 3 p else .next r.1 [⟨2, [], r.2, p⟩]
def eE (s : Bt) (p : Nat) : St := match WB (s.drop p) with
 | none => .err 110 p
 | some m => .next (p + m.length) [⟨3, m, 0, p⟩]
def wA (s : Bt) (p : Nat) : St :=
 match rn s p with
 | none => .err 110 p
 | some (x, _) =>
   if ZF x then .next (p + 1) []
   else if x = 35 then (match j3 s p with | .inl a => .err 110 a | .inr q => .next q [])
   else if xN x then au s p (yZ s p 0)
   else if vT x then ag s p (q6 s p 0)
   else eE s p
abbrev DM := Except (Int × Nat) (List yf)
def Xy (s : Bt) (p : Nat) (acc : List yf) : DM :=
 if p < s.length then
  match wA s p with
  | .err e a => .error (e, a)
  | .next q ws => if p < q then Xy s q (acc ++ ws) else .ok []
 else .ok (acc ++ [⟨0, [], 0, s.length⟩])
termination_by s.length - p
def X2 (s : Bt) (p : Nat) (x : Nat) : St ⊕ Bool :=
 if ZF x then .inr false
 else if x = 35 then .inr true
 else if xN x then .inl (let r := wC (s.drop p) 0 0; au s p (p + r.1, r.2))
 else if vT x then .inl (ag s p (q6 s p 0))
 else .inl (eE s p)
def VG (s : Bt) (p skip : Nat) (rem : Bool) (acc : List yf) : DM :=
 if p < s.length then
  if p < skip then VG s (p + (gM s p).2) skip rem acc
  else match rn s p with
   | none => .error (110, p)
   | some (x, _) =>
     if rem then VG s (p + (gM s p).2) skip (decide (x ≠ 10)) acc
     else match X2 s p x with
      | .inr b => VG s (p + (gM s p).2) skip b acc
      | .inl (.err e a) => .error (e, a)
      | .inl (.next q ws) => VG s (p + (gM s p).2) q false (acc ++ ws)
 else .ok (acc ++ [⟨0, [], 0, s.length⟩])
termination_by s.length - p
decreasing_by all_goals (have := bN s p; omega)
theorem eX (h : rn s p = some (x, k)) : gM s p = (x, k) := by simp [gM, h]
inductive gh (s : Bt) : Nat -> Nat -> Prop
 | refl (p : Nat) : gh s p p
 | step {p q x k : Nat} (h : rn s p = some (x, k)) (hp : p < s.length) (t : gh s (p + k) q) : gh s p q
variable {q : Nat}
theorem gh.le (h : gh s p q) : p <= q := by
 induction h with
 | refl => exact Nat.le_refl _
 | step h _ _ ih => have := ue h; omega
theorem gh.trans {r : Nat} (h : gh s p q) (k : gh s q r) : gh s p r := by
 induction h with
 | refl => exact k
 | step h hp _ ih => exact .step h hp (ih k)
theorem gh.len (h : gh s p q) (hp : p <= s.length) : q <= s.length := by
 induction h with
 | refl => exact hp
 | step h hlt _ ih =>
   exact ih (by have := ue h; omega)
theorem u6 (h : xI s p < 128) : rn s p = some (xI s p, 1) := kw (.one h)
theorem uI (s : Bt) (p n : Nat) : gh s p (yZ s p n).1 := by
 fun_induction yZ s p n with
 | case1 => exact .refl _
 | case2 => exact .refl _
 | case3 p n hp x k h hs ih => exact .step h hp ih
 | case4 => exact .refl _
theorem ZQ (h : vT x = true) : x < 128 := by simp [vT] at h; omega
theorem Xh (s : Bt) (q n : Nat) : gh s q (q6 s q n).1 := by
 fun_induction q6 s q n with
 | case1 q n h ih => exact .step (u6 (ZQ h.2)) h.1 ih
 | case2 => exact .refl _
theorem Y6 (h : j3 s p = .inr q) : gh s p q := by
 revert h
 fun_induction j3 s p with
 | case1 => intro h; cases h
 | case2 p hp x k h ih => intro h'; exact .step h hp.1 (ih h')
 | case3 => intro h; cases h; exact .refl _
end Wd
namespace Wd
open Go Go.Eng
variable {p q : Nat} {s : Bt}
theorem NJ (h : gh s p q) (acc : List yf) : VG s p q false acc = VG s q q false acc := by
 induction h with
 | refl => rfl
 | @step p q x k h hp t ih =>
   have h1 := t.le;have h2 := ue h;rw [VG, if_pos hp, if_pos za, eX h];exact ih
theorem qq {p : Nat} {ws : List yf} (hp : p < s.length) (h : wA s p = .next q ws) : p < q /\ gh s p q := by
 unfold wA at h
 split at h
 ·cases h
 ·rename_i x k hr
  have hpos := ue hr
  split at h
  ·rename_i hsp
   injection h with h1 h2
   subst h1;have hx : x < 128 := by simp [ZF] at hsp; omega
   have hk : k = 1 := by omega
   subst hk;exact ⟨by omega, .step hr hp (.refl _)⟩
  ·split at h
   ·rename_i hx
    split at h
    ·cases h
    ·rename_i q' hq
     injection h with h1 h2
     subst h1;have hk : k = 1 := by omega
     subst hk;refine ⟨?_, Y6 hq⟩;rw [j3, if_pos ⟨hp, by omega⟩] at hq
     split at hq
     ·cases hq
     ·rename_i x' k' hr'
      have := (Y6 hq).le;have := ue hr';omega
   ·split at h
    ·rename_i hl
     unfold au at h
     split at h
     ·cases h
     ·injection h with h1 h2
      subst h1;refine ⟨?_, uI _ _ _⟩;rw [yZ, if_pos hp]
      split
      ·rename_i hn; rw [hn] at hr; cases hr
      ·rename_i x' k' hr'
       rw [hr] at hr'
       injection hr' with e
       injection e with e1 e2
       subst e1 e2;rw [if_neg (by simp [g8, hl])];have := (uI s (p + k) (0 + 1)).le;omega
    ·split at h
     ·rename_i hl hd
      unfold ag at h
      split at h
      ·cases h
      ·split at h
       ·cases h
       ·injection h with h1 h2
        subst h1;refine ⟨?_, Xh _ _ _⟩;have hlt := ZQ hd;have hx : x = xI s p := by omega
        rw [q6, if_pos ⟨hp, by rw [<- hx]; exact hd⟩];have := (Xh s (p + 1) (min (0 * 10 + (xI s p - 48)) 1000)).le;omega
     ·unfold eE at h
      split at h
      ·cases h
      ·rename_i m hm
       injection h with h1 h2
       subst h1;unfold WB at hm;have hmem := List.mem_of_find?_eq_some hm;have hpre : m.isPrefixOf (s.drop p) = true := List.find?_some (p := fun (m : Bt) => m.isPrefixOf (s.drop p)) hm;have hpre := List.isPrefixOf_iff_prefix.1 hpre;obtain ⟨t, ht⟩ := hpre
       have hb : ∀ i, i < m.length -> xI s (p + i) = (m.getD i 0).toNat := fun i hi => by
        rw [<- wl, <- ht];unfold xI
        simp [List.getD_eq_getElem?_getD, List.getElem?_append_left hi]
       have hlen : p + m.length <= s.length := by
        have := congrArg List.length ht
        simp at this
        omega
       simp only [k9, List.mem_cons, List.not_mem_nil, or_false] at hmem
       have one : ∀ j, p <= j -> j < p + m.length -> xI s j < 128 := fun j h1 h2 => by
        have := hb (j - p) za;rw [show p + (j - p) = j by omega] at this;rw [this];have hj : j - p < m.length := by omega
        rcases hmem with rfl | rfl | rfl | rfl | rfl | rfl | rfl | rfl | rfl | rfl | rfl | rfl | rfl
        all_goals
         simp only [List.length_cons, List.length_nil] at hj
         first
          | (have e : j - p = 0 := by omega
             rw [e]; decide)
          | (rcases (show j - p = 0 \/ j - p = 1 by omega) with e | e <;> rw [e] <;> decide)
       have hm1 : 1 <= m.length := by
        rcases hmem with rfl | rfl | rfl | rfl | rfl | rfl | rfl | rfl | rfl | rfl | rfl | rfl | rfl <;> decide
       have key : ∀ d j, j + d = p + m.length -> p <= j -> gh s j (p + m.length) := by
        intro d
        induction d with
        | zero => intro j hj _; rw [show j = p + m.length by omega]; exact .refl _
        | succ d ih => intro j hj hpj; exact .step (u6 (one j hpj za)) za (ih (j + 1) za za)
       exact ⟨by omega, key m.length p za (Nat.le_refl _)⟩
end Wd
namespace Wd
open Go Go.Eng
variable {k n p : Nat} {s : Bt}
theorem wW {x : Nat} (hp : p < s.length) (h : rn s p = some (x, k)) : yZ s p n = if g8 x (n == 0) then (p, n) else yZ s (p + k) (n + 1) := by
 rw [yZ, if_pos hp]
 split
 ·rename_i hn; rw [hn] at h; cases h
 ·rename_i x' k' hr'
  rw [h] at hr'; injection hr' with e; injection e with e1 e2; subst e1 e2; rfl
theorem jL (hp : p < s.length) (h : rn s p = none) : yZ s p n = (p, n) := by
 rw [yZ, if_pos hp]
 split
 ·rfl
 ·rename_i x' k' hr'
  rw [h] at hr'; cases hr'
theorem J4 (s : Bt) (a : Nat) : ∀ (d i n : Nat), (s.drop a).length - i = d -> i <= (s.drop a).length -> (i = 0 ↔ n = 0) ->
  (a + (wC (s.drop a) i n).1, (wC (s.drop a) i n).2) = (if a <= s.length then yZ s (a + i) n else (a, n)) := by
 intro d
 induction d using Nat.strongRecOn with
 | _ d ih =>
   intro i n hd hi hin;rw [List.length_drop] at hd hi;by_cases ha : a <= s.length
   ·rw [if_pos ha];rw [wC];rw [List.length_drop];by_cases hlt : i < s.length - a
    ·rw [if_pos hlt];have hdr := Zp s a i;have hdec : gM (s.drop a) i = gM s (a + i) := by unfold gM; rw [hdr]
     rw [hdec];cases h : rn s (a + i) with
     | none =>
       rw [jL za h]
       have : g8 (gM s (a + i)).1 (i == 0) = true := by
        simp only [gM, h, Option.getD_none];cases hi0 : (i == 0) <;> rfl
       rw [if_pos this]
     | some r =>
       obtain ⟨x, k⟩ := r;rw [wW za h]
       have hb : (i == 0) = (n == 0) := by
        rw [Bool.eq_iff_iff]; simp [hin]
       have h2 := ue h;rw [eX h, hb]
       split
       ·rfl
       ·have h3 : i + k <= s.length - a := by omega
        have := ih (s.length - a - (i + k)) za (i + k) (n + 1) (by rw [List.length_drop]) (by rw [List.length_drop]; omega) za;rw [if_pos ha, <- Nat.add_assoc] at this;exact this
    ·rw [if_neg hlt, yZ, if_neg (show ¬ a + i < s.length by omega)];have : i = s.length - a := by omega
     subst this
     rfl
   ·rw [if_neg ha];have h0 : s.drop a = [] := List.drop_eq_nil_of_le za;rw [h0, wC]
    simp
theorem Qh (hp : p <= s.length) : (p + (wC (s.drop p) 0 0).1, (wC (s.drop p) 0 0).2) = yZ s p 0 := by
 have := J4 s p _ 0 0 rfl (Nat.zero_le _) Iff.rfl;rwa [if_pos hp, Nat.add_zero] at this
variable {acc : List yf}
theorem aQ {q : Nat} {ws : List yf} (hp : p < s.length) (h : wA s p = .next q ws) : Xy s p acc = Xy s q (acc ++ ws) := by
 rw [Xy, if_pos hp, h];simp only;rw [if_pos (qq hp h).1]
theorem Qo {a : Nat} {e : Int} (hp : p < s.length) (h : wA s p = .err e a) : Xy s p acc = .error (e, a) := by
 rw [Xy, if_pos hp, h]
theorem Qp (hp : ¬ p < s.length) : Xy s p acc = .ok (acc ++ [⟨0, [], 0, s.length⟩]) := by
 rw [Xy, if_neg hp]
theorem Qs {b : Bool} (hp : ¬ p < s.length) : VG s p k b acc = .ok (acc ++ [⟨0, [], 0, s.length⟩]) := by
 rw [VG, if_neg hp]
theorem P1 (s : Bt) : ∀ (d p skip : Nat) (acc : List yf), s.length - p = d -> skip <= p ->
  (VG s p skip false acc = Xy s p acc) /\ (VG s p skip true acc = match j3 s p with | .inl a => .error (110, a) | .inr q => Xy s q acc) := by
 intro d
 induction d using Nat.strongRecOn with
 | _ d ih =>
   intro p skip acc hd hsk;by_cases hp : p < s.length
   ·have hpos := bN s p;have hns : ¬ p < skip := by omega
    constructor
    ·rw [VG, if_pos hp, if_neg hns]
     split
     ·rename_i hr
      have : wA s p = .err 110 p := by unfold wA; rw [hr]
      rw [Qo hp this]
     ·rename_i x k hr
      rw [eX hr] at hpos ⊢;simp only at hpos ⊢;have hpos2 := ue hr;rw [if_neg yA]
      have hstep : wA s p = if ZF x then .next (p + 1) [] else if x = 35 then (match j3 s p with | .inl a => .err 110 a | .inr q => .next q []) else if xN x then au s p (yZ s p 0) else if vT x then ag s p (q6 s p 0) else eE s p := by
       unfold wA; rw [hr]
      unfold X2;by_cases h1 : ZF x = true
      ·rw [if_pos h1] at hstep;rw [if_pos h1];have hk : k = 1 := by simp [ZF] at h1; omega
       subst hk;simp only;rw [aQ hp hstep, List.append_nil];exact (ih _ za (p + 1) skip acc rfl za).1
      ·rw [if_neg h1] at hstep;rw [if_neg h1];by_cases h2 : x = 35
       ·rw [if_pos h2] at hstep;rw [if_pos h2];have hk : k = 1 := by omega
        subst hk;simp only;rw [(ih _ za (p + 1) skip acc rfl za).2]
        have hrem : j3 s p = j3 s (p + 1) := by
         rw [j3, if_pos ⟨hp, by omega⟩]
         split
         ·rename_i hn; rw [hn] at hr; cases hr
         ·rename_i x' k' hr'
          rw [hr] at hr'; injection hr' with e; injection e with e1 e2; subst e2; rfl
        rw [<- hrem]
        split
        ·rename_i a ha
         rw [ha] at hstep;rw [Qo hp hstep]
        ·rename_i q hq
         rw [hq] at hstep;rw [aQ hp hstep, List.append_nil]
       ·rw [if_neg h2] at hstep;rw [if_neg h2]
        have fin : ∀ st : St, wA s p = st -> (match (Sum.inl st : St ⊕ Bool) with
          | .inr b => VG s (p + k) skip b acc
          | .inl (.err e a) => Except.error (e, a)
          | .inl (.next q ws) => VG s (p + k) q false (acc ++ ws)) = Xy s p acc := by
         intro st hst;cases st with
         | err e a => simp only; rw [Qo hp hst]
         | next q ws =>
           simp only;rw [aQ hp hst];obtain ⟨g1, g2⟩ := qq hp hst;cases g2 with
           | refl => omega
           | step h' hp' t =>
             rw [hr] at h'; injection h' with e; injection e with e1 e2; subst e2
             rw [NJ t];exact (ih _ za q q _ rfl (Nat.le_refl _)).1
        by_cases h3 : xN x = true
        ·rw [if_pos h3] at hstep;rw [if_pos h3];refine fin _ ?_;simp only;rw [hstep, <- Qh za]
        ·rw [if_neg h3] at hstep;rw [if_neg h3];by_cases h4 : vT x = true
         ·rw [if_pos h4] at hstep;rw [if_pos h4];exact fin _ hstep
         ·rw [if_neg h4] at hstep;rw [if_neg h4];exact fin _ hstep
    ·rw [VG, if_pos hp, if_neg hns]
     split
     ·rename_i hr
      have h10 : xI s p ≠ 10 := by
       intro e;have := u6 (s := s) (p := p) za;rw [hr] at this;cases this
      have hrem : j3 s p = .inl p := by
       rw [j3, if_pos ⟨hp, h10⟩]
       split
       ·rfl
       ·rename_i hr'; rw [hr] at hr'; cases hr'
      rw [hrem]
     ·rename_i x k hr
      rw [eX hr] at hpos ⊢;simp only at hpos ⊢;have hpos2 := ue hr;rw [if_pos trivial];by_cases h10 : x = 10
      ·have hk : k = 1 := by omega
       subst hk;rw [decide_eq_false za, (ih _ za (p + 1) skip acc rfl za).1, j3, if_neg za];simp only
       have hst : wA s p = .next (p + 1) [] := by
        unfold wA;rw [hr];simp only;rw [if_pos (by simp [ZF, h10])]
       rw [aQ hp hst, List.append_nil]
      ·rw [decide_eq_true h10, (ih _ za (p + k) skip acc rfl za).2]
       have hb : xI s p ≠ 10 := by
        intro e;have := u6 (s := s) (p := p) za;rw [hr] at this
        injection this with e'
        injection e' with e1 e2
        omega
       have : j3 s p = j3 s (p + k) := by
        rw [j3, if_pos ⟨hp, hb⟩]
        split
        ·rename_i hn; rw [hn] at hr; cases hr
        ·rename_i x' k' hr'
         rw [hr] at hr'; injection hr' with e; injection e with e1 e2; subst e2; rfl
       rw [this]
   ·constructor
    ·rw [Qs hp, Qp hp]
    ·rw [Qs hp, j3, if_neg za];simp only;rw [Qp hp]
def gN (s : Bt) : DM := if 65536 < s.length then .error (3, 0) else Xy s 0 []
theorem T4 (s : Bt) : VG s 0 0 false [] = Xy s 0 [] := (P1 s _ 0 0 [] rfl (Nat.le_refl _)).1
end Wd
section
open Wd
abbrev vQ (w : Value) : Value -> List yb -> Prop := fun v L' => v = w /\ L' = []
variable {m : Mp}
theorem bH (x : Nat) : CS Tryz.prog 71 [.int .i32 x] m [] (vQ (.bool (xN x))) := by
 refine yQ [.tmp 2] Tryz.func71 rfl rfl rfl ?_;refine tr 11 ?_;refine jk (kh rfl rfl) rfl rfl rfl (fun hc1 => ?_) (fun hc1 => ?_);refine vr 2 ?_;refine jk (Xn rfl rfl) rfl rfl rfl (fun hc2 => ?_) (fun hc2 => ?_);refine vr 16 ?_
 (exact xE zj ⟨congrArg Value.bool (by simp [xN] <;> omega), rfl⟩)
 refine vr 7 ?_;refine y4 2 ?_;refine zH 9 ?_;refine jk (y3 rfl rfl) rfl rfl rfl (fun hc3 => ?_) (fun hc3 => ?_);refine vr 15 ?_
 (exact xE zj ⟨congrArg Value.bool (by simp [xN] <;> omega), rfl⟩)
 refine vr 6 ?_;refine jk (y3 rfl rfl) rfl rfl rfl (fun hc4 => ?_) (fun hc4 => ?_);refine vr 12 ?_
 (exact xE zj ⟨congrArg Value.bool (by simp [xN] <;> omega), rfl⟩)
 refine vr 10 ?_;refine jk (kh rfl rfl) rfl rfl rfl (fun hc5 => ?_) (fun hc5 => ?_);refine vr 2 ?_;refine jk (Xn rfl rfl) rfl rfl rfl (fun hc6 => ?_) (fun hc6 => ?_);refine vr 5 ?_
 (exact xE zj ⟨congrArg Value.bool (by simp [xN] <;> omega), rfl⟩)
 refine vr 5 ?_
 (exact xE zj ⟨congrArg Value.bool (by simp [xN] <;> omega), rfl⟩)
 refine vr 8 ?_
 (exact xE zj ⟨congrArg Value.bool (by simp [xN] <;> omega), rfl⟩)
 refine vr 10 ?_;refine jk (kh rfl rfl) rfl rfl rfl (fun hc2 => ?_) (fun hc2 => ?_);refine vr 2 ?_;refine jk (Xn rfl rfl) rfl rfl rfl (fun hc3 => ?_) (fun hc3 => ?_);refine vr 13 ?_
 (exact xE zj ⟨congrArg Value.bool (by simp [xN] <;> omega), rfl⟩)
 refine vr 9 ?_;refine zH 6 ?_;refine zH 10 ?_;refine zH 8 ?_
 (exact xE zj ⟨congrArg Value.bool (by simp [xN] <;> omega), rfl⟩)
 refine vr 12 ?_;refine zH 6 ?_;refine zH 10 ?_;refine zH 8 ?_
 (exact xE zj ⟨congrArg Value.bool (by simp [xN] <;> omega), rfl⟩)
theorem fA (x : Nat) : CS Tryz.prog 73 [.int .i32 x] m [] (vQ (.bool (vT x))) := by
 refine yQ [.tmp 2] Tryz.func73 rfl rfl rfl ?_;refine tr 8 ?_;refine jk (kh rfl rfl) rfl rfl rfl (fun hc1 => ?_) (fun hc1 => ?_);refine vr 2 ?_;refine jk (Xn rfl rfl) rfl rfl rfl (fun hc2 => ?_) (fun hc2 => ?_);refine vr 5 ?_
 (exact xE zj ⟨congrArg Value.bool (by simp [vT] <;> omega), rfl⟩)
 refine vr 5 ?_
 (exact xE zj ⟨congrArg Value.bool (by simp [vT] <;> omega), rfl⟩)
 refine vr 8 ?_
 (exact xE zj ⟨congrArg Value.bool (by simp [vT] <;> omega), rfl⟩)
end
section
open Wd
def Ec (r : Nat × Nat) : Value := .tuple [.int .i64 r.1, .int .i64 r.2].toArray
inductive DN : Nat -> Nat -> Nat -> Nat -> Prop
 | one {b : Nat} (h : b < 128) : DN b 1 b 0
 | two {b : Nat} (h : b / 32 = 6) : DN b 2 (b % 32) 128
 | three {b : Nat} (h : b / 16 = 14) : DN b 3 (b % 16) 2048
 | four {b : Nat} (h : b / 8 = 30) : DN b 4 (b % 8) 65536
end
section
open Wd
variable {i n : Nat} {t : Bt}
theorem Qi (h : ¬ i < t.length) : wC t i n = (t.length, n) := by rw [wC, if_neg h]
theorem J5 (h : i < t.length) : wC t i n = if g8 (gM t i).1 (i == 0) then (i, n) else wC t (i + (gM t i).2) (n + 1) := by rw [wC, if_pos h]
theorem N3 (h : i < t.length) : i + (gM t i).2 <= t.length := by
 unfold gM;cases hr : rn t i with
 | none => simp; omega
 | some r => obtain ⟨x, k⟩ := r; have := ue hr; simp; omega
variable {m : Mp}
theorem Yk (hs : t.length <= 140737488355328) : CS Tryz.prog 72 [.string (bs t)] m [] (vQ (Ec (wC t 0 0))) := by
 refine yQ [.tmp 2, .tmp 3] Tryz.func72 rfl rfl rfl ?_;refine tr 10 ?_;refine zg (XT ei rfl rfl (fun b1 => ?_)) rfl;refine vr 3 ?_
 refine yv (fun y : Nat × Nat => [(0, .string (bs t)), (7, .pointer (some ⟨b1, 0, none⟩)), (3, .int .i64 (y.2 : Nat))]) (fun y => [db b1 t y.1]) (fun y => y.1 <= t.length /\ y.2 <= y.1 /\ wC t y.1 y.2 = wC t 0 0) (fun y => t.length - y.1) (0, 0)
  YV zx ⟨Nat.zero_le _, Nat.zero_le _, rfl⟩ ?_
 rintro ⟨i, n⟩ ⟨hq, hnq, he⟩;simp only at hq hnq he ⊢;by_cases hlt : i < t.length
 ·rw [J5 hlt] at he;have hp := bN t i;have hl2 := N3 hlt;have hdq := eW t i;refine tr 2 ?_;refine zg (Z3 rfl (by first | assumption | omega) xi .here rfl ?_) rfl;refine vr 20 ?_;generalize gM t i = r at *;obtain ⟨x, k⟩ := r;simp only at hp hl2 he ⊢;refine Cr Rj rfl (fun m' hm he => (bH x)) ?_;rintro _ rfl;cases hl : xN x with
  | true =>
    rw [if_neg (by simp [g8, hl])] at he;refine vr 21 ?_;refine Pa 3 ?_;exact QR (i + k, n + 1) zx ⟨by simp only; omega, by simp only; omega, he⟩ (by simp only; omega)
  | false =>
    by_cases hn0 : i = 0
    ·rw [if_pos (by simp [g8, hl, hn0])] at he;refine vr 3 ?_;refine y4 24 ?_;refine zu ?_;refine zp ?_;refine zD ?_;exact yn [_, _] vv [] ya ⟨by rw [<- he]; rfl, rfl⟩
    ·refine vr 3 ?_;refine zH 2 ?_;refine Cr G4 rfl (fun m' hm he => (fA x)) ?_;rintro _ rfl;cases hd : vT x with
     | true =>
       rw [if_neg (by simp [g8, hl, hd, hn0])] at he;refine vr 14 ?_;refine Pa 3 ?_;exact QR (i + k, n + 1) zx ⟨by simp only; omega, by simp only; omega, he⟩ (by simp only; omega)
     | false =>
       by_cases h39 : x = 39
       ·rw [if_neg (by simp [g8, hl, hd, hn0, h39])] at he;refine vr 3 ?_;refine zH 10 ?_;refine Pa 3 ?_;exact QR (i + k, n + 1) zx ⟨by simp only; omega, by simp only; omega, he⟩ (by simp only; omega)
       ·rw [if_pos (by simp [g8, hl, hd, hn0, h39])] at he;refine vr 3 ?_;refine y4 17 ?_;refine zu ?_;refine zp ?_;refine zD ?_;exact yn [_, _] vv [] ya ⟨by rw [<- he]; rfl, rfl⟩
 ·rw [Qi hlt] at he;refine tr 2 ?_;refine zg (YQ rfl (by first | assumption | omega) .here rfl ?_) rfl;refine vr 7 ?_;refine zm ?_;refine zk ?_;refine qt 4 ?_;refine pe 6 (yT rfl ei) ?_;exact yn [_, _] vv [] ya ⟨by rw [<- he]; rfl, rfl⟩
variable {s : Bt}
theorem Kc (h : t.length <= s.length) : decide (s.take t.length = t) = t.isPrefixOf s := by
 rw [Bool.eq_iff_iff, decide_eq_true_eq, List.isPrefixOf_iff_prefix, List.prefix_iff_eq_take];exact ⟨fun h => h.symm, fun h => h.symm⟩
theorem HU (h : ¬ t.length <= s.length) : t.isPrefixOf s = false := by
 cases hp : t.isPrefixOf s with
 | false => rfl
 | true => exact absurd (List.IsPrefix.length_le (List.isPrefixOf_iff_prefix.1 hp)) h
theorem VF : CS Tryz.prog 138 [.string (bs s), .string (bs t)] m [] (vQ (.bool (t.isPrefixOf s))) := by
 refine yQ [.tmp 4] Tryz.func138 rfl rfl rfl ?_;by_cases h : t.length <= s.length
 ·rw [<- Kc h];refine tr 8 ?_;refine pe 1 (yT rfl ei) ?_;refine pe 0 (yT rfl ei) ?_;refine y4 3 ?_;refine pe 0 (yT rfl ei) ?_;refine pe 1 (Ii _ ei rfl rfl rfl za) ?_;refine pe 5 ((YR rfl rfl)) ?_;exact xE zj ⟨rfl, rfl⟩
 ·rw [HU h];refine tr 8 ?_;refine pe 1 (yT rfl ei) ?_;refine pe 0 (yT rfl ei) ?_;refine zH 12 ?_;exact xE zj ⟨rfl, rfl⟩
theorem Qn : CS Tryz.prog 113 [.string (bs s), .string (bs t)] m [] (vQ (.bool (t.isPrefixOf s))) := by
 refine yQ [.tmp 4] Tryz.func113 rfl rfl rfl ?_;refine tr 9 ?_;refine Cr E3 rfl (fun m' hm he => VF) ?_;rintro _ rfl;refine vr 4 ?_;exact xE zj ⟨rfl, rfl⟩
def xm (s : Bt) : Value := .string (bs s)
theorem GP (h : i < k9.length) : (k9.drop i).find? (·.isPrefixOf t) = if k9[i].isPrefixOf t then some k9[i] else (k9.drop (i + 1)).find? (·.isPrefixOf t) := by
 rw [List.drop_eq_getElem_cons h, List.find?_cons]
 split <;> simp [*]
theorem PQ (h : i < k9.length) : cF (k9.map xm) (((i : Nat) : Int).toNat * 1) = some (xm k9[i]) := by
 rw [<- cE]
 simp [h]
theorem PP : CS Tryz.prog 74 [.string (bs t)] m [] (vQ (xm ((WB t).getD []))) := by
 refine yQ [.tmp 2] Tryz.func74 rfl rfl rfl ?_;refine tr 8 ?_;refine pe 4 (uR SJ FQ rfl rfl) ?_
 refine yv (fun i : Nat => [(0, .string (bs t)), (5, .agg (k9.map xm).toArray), (6, .int .i64 (i : Nat))]) (fun _ => []) (fun i => i <= 13 /\ WB t = (k9.drop i).find? (·.isPrefixOf t)) (fun i => 13 - i) 0
  YV zx ⟨Nat.zero_le _, rfl⟩ ?_
 rintro i ⟨hi, he⟩;by_cases hlt : i < 13
 ·have hl : i < k9.length := hlt;have hm := PQ hl;rw [GP hl] at he;refine tr 2 ?_;refine y4 10 ?_;refine pe 7 ((ub SJ Fl rfl rfl za za hm)) ?_;refine Cr De rfl (fun m' hm he => Qn) ?_;rintro _ rfl;cases hp : (k9[i]'hl).isPrefixOf t with
  | true =>
    rw [hp, if_pos rfl] at he;refine vr 12 ?_;refine zu ?_;refine zp ?_;refine zD ?_;exact xE zj ⟨by rw [he]; rfl, rfl⟩
  | false =>
    rw [hp, if_neg yA] at he;refine vr 7 ?_;refine Pa 2 ?_;exact QR (i + 1) zx ⟨by omega, he⟩ za
 ·have : i = 13 := by omega
  subst this;refine tr 2 ?_;refine zH 6 ?_;refine zm ?_;refine zk ?_;refine qt 7 ?_;exact xE zj ⟨by rw [he]; rfl, rfl⟩
end
end Go.Proofs.YtgohljjedlpccaaGreatDoor
namespace Go.Proofs
open Go.Shelf
def Tryz.laysM157_ren : Go.Shelf.Ren := ⟨fun | 157 => 146 | 229 => 162 | 199 => 163 | 261 => 176 | 311 => 182 | 312 => 183 | n => n, fun | 9 => 9 | 31 => 38 | 3 => 3 | 5 => 5 | 4 => 4 | 119 => 190 | 0 => 0 | 40 => 133 | 152 => 237 | 21 => 21 | 154 => 239 | 51 => 231 | 141 => 241 | 196 => 248 | 193 => 245 | 198 => 251 | 49 => 249 | 194 => 246 | 201 => 254 | 226 => 258 | 46 => 191 | 227 => 259 | n => n, fun | 0 => 2 | 6 => 5 | n => n⟩
theorem Tryz.laysM157 : Go.Proofs.LaysM.n157 Tryz.prog Tryz.laysM157_ren := {
 mixed := by kernel_rfl
 f157 := Tryz.func146.trans (congrArg some (by kernel_rfl))
 f199 := Tryz.func163.trans (congrArg some (by kernel_rfl))
 f229 := Tryz.func162.trans (congrArg some (by kernel_rfl))
 f261 := Tryz.func176.trans (congrArg some (by kernel_rfl))
 f311 := Tryz.func182.trans (congrArg some (by kernel_rfl))
 f312 := Tryz.func183.trans (congrArg some (by kernel_rfl))
 t0 := Tryz.underlying0
 a0 := Tryz.isAgg0
 z0 := Tryz.sizeOf0
 v0 := Tryz.zeroValue0
 t3 := Tryz.underlying3
 a3 := Tryz.isAgg3
 z3 := Tryz.sizeOf3
 v3 := Tryz.zeroValue3
 t4 := Tryz.underlying4
 a4 := Tryz.isAgg4
 z4 := Tryz.sizeOf4
 v4 := Tryz.zeroValue4
 t5 := Tryz.underlying5
 a5 := Tryz.isAgg5
 z5 := Tryz.sizeOf5
 v5 := Tryz.zeroValue5
 t9 := Tryz.underlying9
 a9 := Tryz.isAgg9
 z9 := Tryz.sizeOf9
 v9 := Tryz.zeroValue9
 t21 := Tryz.underlying21
 a21 := Tryz.isAgg21
 z21 := Tryz.sizeOf21
 v21 := Tryz.zeroValue21
 t31 := Tryz.underlying38
 a31 := Tryz.isAgg38
 z31 := Tryz.sizeOf38
 v31 := Tryz.zeroValue38
 t40 := Tryz.underlying133
 a40 := Tryz.isAgg133
 z40 := Tryz.sizeOf133
 v40 := Tryz.zeroValue133
 t46 := Tryz.underlying191
 a46 := Tryz.isAgg191
 z46 := Tryz.sizeOf191
 v46 := Tryz.zeroValue191
 t49 := Tryz.underlying249
 a49 := Tryz.isAgg249
 z49 := Tryz.sizeOf249
 v49 := Tryz.zeroValue249
 t51 := Tryz.underlying231
 a51 := Tryz.isAgg231
 z51 := Tryz.sizeOf231
 v51 := Tryz.zeroValue231
 t119 := Tryz.underlying190
 a119 := Tryz.isAgg190
 z119 := Tryz.sizeOf190
 t141 := Tryz.underlying241
 a141 := Tryz.isAgg241
 z141 := Tryz.sizeOf241
 v141 := Tryz.zeroValue241
 t152 := Tryz.underlying237
 a152 := Tryz.isAgg237
 z152 := Tryz.sizeOf237
 v152 := Tryz.zeroValue237
 t154 := Tryz.underlying239
 a154 := Tryz.isAgg239
 z154 := Tryz.sizeOf239
 v154 := Tryz.zeroValue239
 t193 := Tryz.underlying245
 a193 := Tryz.isAgg245
 z193 := Tryz.sizeOf245
 v193 := Tryz.zeroValue245
 t194 := Tryz.underlying246
 a194 := Tryz.isAgg246
 z194 := Tryz.sizeOf246
 v194 := Tryz.zeroValue246
 t196 := Tryz.underlying248
 a196 := Tryz.isAgg248
 z196 := Tryz.sizeOf248
 v196 := Tryz.zeroValue248
 t198 := Tryz.underlying251
 a198 := Tryz.isAgg251
 z198 := Tryz.sizeOf251
 v198 := Tryz.zeroValue251
 t201 := Tryz.underlying254
 a201 := Tryz.isAgg254
 z201 := Tryz.sizeOf254
 v201 := Tryz.zeroValue254
 t226 := Tryz.underlying258
 a226 := Tryz.isAgg258
 z226 := Tryz.sizeOf258
 v226 := Tryz.zeroValue258
 t227 := Tryz.underlying259
 a227 := Tryz.isAgg259
 z227 := Tryz.sizeOf259
 v227 := Tryz.zeroValue259
 g0 := by kernel_rfl
 g6 := by kernel_rfl
 i0 := by kernel_rfl
 i3 := by kernel_rfl
 i4 := by kernel_rfl
 i5 := by kernel_rfl
 i9 := by kernel_rfl
 i21 := by kernel_rfl
 i31 := by kernel_rfl
 i40 := by kernel_rfl
 i46 := by kernel_rfl
 i49 := by kernel_rfl
 i51 := by kernel_rfl
 i141 := by kernel_rfl
 i152 := by kernel_rfl
 i154 := by kernel_rfl
 i193 := by kernel_rfl
 i194 := by kernel_rfl
 i196 := by kernel_rfl
 i198 := by kernel_rfl
 i201 := by kernel_rfl
 i226 := by kernel_rfl
 i227 := by kernel_rfl
 m0 := by kernel_rfl
 m6 := by kernel_rfl }
open Go.RowKit Go.Lib in
theorem Tryz.strings_Fields_laid (s : ByteArray) (w : World) (hs : s.size < 4294967281) (hascii : ∀ (j : Nat) b, s.data.toList[j]? = some b -> b.toNat < 128) (htab : Lib.TabIs Tryz.prog w "strings.asciiSpace" .u8 Lib.asciiSpaceTab) :
  Calls Tryz.prog 146 #[.string s] w fun e w' =>
   e = .returned (.slice (some ⟨w.heap.size, 0, none⟩) (Lib.fields s.data.toList).length (Lib.fields s.data.toList).length) /\ w' = w.alloc (.cells ((Lib.fields s.data.toList).map fun l => Value.string ⟨l.toArray⟩).toArray 9) := Any.strings_Fields_laid Tryz.laysM157 s w hs hascii htab
def Tryz.lays197_ren : Go.Shelf.Ren := ⟨fun | 197 => 70 | 260 => 112 | n => n, fun | 9 => 9 | 21 => 21 | 3 => 3 | 4 => 4 | 5 => 5 | 105 => 131 | 119 => 190 | 0 => 0 | 46 => 191 | 139 => 194 | 138 => 193 | n => n, fun | 3 => 0 | 4 => 1 | n => n⟩
theorem Tryz.lays197 : Go.Proofs.Lays.n197 Tryz.prog Tryz.lays197_ren := {
 mixed := by kernel_rfl
 f197 := Tryz.func70.trans (congrArg some (by kernel_rfl))
 f260 := Tryz.func112.trans (congrArg some (by kernel_rfl))
 t0 := Tryz.underlying0
 a0 := Tryz.isAgg0
 z0 := Tryz.sizeOf0
 v0 := Tryz.zeroValue0
 t3 := Tryz.underlying3
 a3 := Tryz.isAgg3
 z3 := Tryz.sizeOf3
 v3 := Tryz.zeroValue3
 t4 := Tryz.underlying4
 a4 := Tryz.isAgg4
 z4 := Tryz.sizeOf4
 v4 := Tryz.zeroValue4
 t5 := Tryz.underlying5
 a5 := Tryz.isAgg5
 z5 := Tryz.sizeOf5
 v5 := Tryz.zeroValue5
 t9 := Tryz.underlying9
 a9 := Tryz.isAgg9
 z9 := Tryz.sizeOf9
 v9 := Tryz.zeroValue9
 t21 := Tryz.underlying21
 a21 := Tryz.isAgg21
 z21 := Tryz.sizeOf21
 v21 := Tryz.zeroValue21
 t46 := Tryz.underlying191
 a46 := Tryz.isAgg191
 z46 := Tryz.sizeOf191
 v46 := Tryz.zeroValue191
 t105 := Tryz.underlying131
 a105 := Tryz.isAgg131
 z105 := Tryz.sizeOf131
 v105 := Tryz.zeroValue131
 t119 := Tryz.underlying190
 a119 := Tryz.isAgg190
 z119 := Tryz.sizeOf190
 t138 := Tryz.underlying193
 a138 := Tryz.isAgg193
 z138 := Tryz.sizeOf193
 v138 := Tryz.zeroValue193
 t139 := Tryz.underlying194
 a139 := Tryz.isAgg194
 z139 := Tryz.sizeOf194
 v139 := Tryz.zeroValue194
 g3 := by kernel_rfl
 g4 := by kernel_rfl }
open Go.RowKit Go.Lib in
theorem Tryz.utf8_DecodeRuneInString (s : ByteArray) (w : World) (hT : Lib.Utf8Tabs 0 1 w) :
  Calls Tryz.prog 70 #[.string s] w fun e w' => e = .returned (.tuple #[.int .i32 (Lib.decodeGo s).1, .int .i64 (Lib.decodeGo s).2]) /\ Below w.heap.size w w' := Any.utf8_DecodeRuneInString Tryz.lays197 s w hT
end Go.Proofs
namespace Go.Proofs.YtgohljjedlpccaaGreatDoor
open  Go.Eng
section
open Wd Go.RowKit
def xU (m : Mp) : Prop := ∀ w : World, Le m (mp w.heap) -> Lib.TabIs Tryz.prog w "strings.asciiSpace" .u8 Lib.asciiSpaceTab /\ Lib.Utf8Tabs 0 1 w
variable {m : Mp}
theorem xU.mono {m' : Mp} (h : xU m) (hl : Le m m') : xU m' := fun w hw => h w (hl.trans hw)
theorem UQ {P : Program} {f : FuncId} {args : Array Value} {h : yB} {v : Value} (hc : ∀ w : World, w.heap = h -> Calls P f args w fun e w' => e = .returned v /\ Below w.heap.size w w') :
  C P f args h fun u h' => u = v /\ Le (mp h) (mp h') := fun x d => by
 refine (hc (W x h d) rfl).mono ?_;rintro e w' ⟨rfl, hb⟩;refine ⟨v, w'.heap, w'.drawn, rfl, ?_, rfl, fun k o hk => ?_⟩
 ·show w' = ⟨w'.heap, x.tape, w'.drawn, x.os, x.out⟩;have h1 := hb.os;have h2 := hb.tape;have h3 := hb.output;simp only [W] at h1 h2 h3;rw [<- h1, <- h2, <- h3]
 ·have h4 := hb.block k (qN hk);show w'.heap[k]? = some o;rw [h4];exact hk
theorem G2 {t : Bt} (hT : xU m) (h0 : 0 < t.length) : CS Tryz.prog 70 [.string (bs t)] m [] (vQ (.tuple [.int .i32 (gM t 0).1, .int .i64 (gM t 0).2].toArray)) := fun h hs => by
 refine (UQ (v := .tuple [.int .i32 (gM t 0).1, .int .i64 (gM t 0).2].toArray) fun w hw => ?_).mono fun v h' ⟨h1, h2⟩ => ⟨[], ⟨h1, rfl⟩, HS.nil (hs.base.trans h2)⟩;subst hw;have := Tryz.utf8_DecodeRuneInString (bs t) w (hT w hs.base).2
 have e : Lib.decodeGo (bs t) = gM t 0 := by
  unfold Lib.decodeGo;rw [if_neg (by rw [jp]; omega), eW]
 rw [e] at this;exact this
theorem Lf {s : Bt} (hT : xU m) (hl : s.length < 4294967281) (ha : ∀ b ∈ s, b.toNat < 128) :
  CS Tryz.prog 146 [.string (bs s)] m [] fun v L' => ∃ b, v = .slice (some ⟨b, 0, none⟩) (Lib.fields s).length (Lib.fields s).length /\ L' = [cel b ((Lib.fields s).map xm) 9] := fun h hs x d => by
 have := Tryz.strings_Fields_laid (bs s) (W x h d) (by rw [jp]; exact hl) (fun j b hj => ha b (List.mem_of_getElem? (by simpa [bs] using hj))) (hT _ hs.base).1;refine this.mono ?_;rintro e w' ⟨rfl, rfl⟩;refine ⟨_, h.push (.cells ((Lib.fields s).map xm).toArray 9), d, rfl, rfl, _, ⟨h.size, rfl, rfl⟩, ?_⟩
 exact hs.new (e' := cel h.size ((Lib.fields s).map xm) 9) (fT h _) (uA h _) (fun k hk => by have := QH hk; subst this; exact bG h)
end
namespace Wd
open Go Go.Eng
def Qc : Bt := [99, 97, 114, 100, 32, 117, 110, 105, 116, 32, 99, 104, 97, 114, 109, 32, 102, 111, 114, 109, 97, 116, 32, 112, 108, 97, 121, 101, 100, 32, 100, 101, 97, 100, 32, 100, 97, 119, 110, 32, 97, 117, 114, 97, 32, 115, 104, 105, 101, 108, 100, 32, 104, 97, 114, 109, 32, 109, 101, 110, 100, 32, 100, 114, 97, 119, 32, 103, 97, 105, 110, 32, 100, 114, 111, 112, 32, 108, 111, 111, 107, 32, 115, 104, 111, 119, 32, 115, 117, 109, 109, 111, 110, 32, 105, 102, 32, 101, 108, 115, 101, 32, 109, 101, 32, 102, 111, 101, 32, 116, 97, 114, 103, 101, 116, 32, 108, 105, 102, 101, 32, 104, 97, 110, 100, 32, 100, 101, 99, 107, 32, 117, 110, 105, 116, 115, 32, 109, 97, 110, 97, 32, 99, 111, 115, 116, 32, 116, 111, 112, 32, 112, 111, 119, 101, 114, 32, 109, 105, 110, 32, 109, 97, 120, 32, 110, 111, 116, 32, 97, 110, 100, 32, 111, 114, 32, 104, 111, 108, 100, 115, 32, 108, 101, 97, 115, 116, 32, 109, 111, 115, 116, 32, 99, 111, 112, 105, 101, 115, 32, 98, 97, 110, 110, 101, 100, 32, 115, 105, 110, 103, 108, 101]
def kq : List Bt := [[99, 97, 114, 100], [117, 110, 105, 116], [99, 104, 97, 114, 109], [102, 111, 114, 109, 97, 116], [112, 108, 97, 121, 101, 100], [100, 101, 97, 100], [100, 97, 119, 110], [97, 117, 114, 97], [115, 104, 105, 101, 108, 100], [104, 97, 114, 109], [109, 101, 110, 100], [100, 114, 97, 119], [103, 97, 105, 110], [100, 114, 111, 112], [108, 111, 111, 107], [115, 104, 111, 119], [115, 117, 109, 109, 111, 110], [105, 102], [101, 108, 115, 101], [109, 101], [102, 111, 101], [116, 97, 114, 103, 101, 116], [108, 105, 102, 101], [104, 97, 110, 100], [100, 101, 99, 107], [117, 110, 105, 116, 115], [109, 97, 110, 97], [99, 111, 115, 116], [116, 111, 112], [112, 111, 119, 101, 114], [109, 105, 110], [109, 97, 120], [110, 111, 116], [97, 110, 100], [111, 114], [104, 111, 108, 100, 115], [108, 101, 97, 115, 116], [109, 111, 115, 116], [99, 111, 112, 105, 101, 115], [98, 97, 110, 110, 101, 100], [115, 105, 110, 103, 108, 101]]
theorem Kb : Lib.fields Qc = kq := zt
theorem HR : ∀ b ∈ Qc, b.toNat < 128 := zt
theorem Nw : ∀ i : Fin 41, kq.getD i.val [] ∉ kq.take i.val := zt
def JR (s : Bt) : Bool := decide (s ∈ kq)
def fM (l : List Bt) : List (Bt × Value) := l.map fun k => (k, .bool true)
variable {k : Bt}
theorem fy : ∀ (l : List Bt) (i : Nat), k ∉ l -> vb k i (fM l) = none
 | [], _, _ => rfl
 | a :: r, i, h => by
   have h1 : k ≠ a := fun e => h (by simp [e]);have h2 := fy r (i + 1) (fun e => h (List.mem_cons_of_mem _ e));simp only [fM, List.map_cons] at h2 ⊢;rw [vb, if_neg h1];exact h2
theorem MV {i : Nat} (hi : i < 41) : gK (fM (kq.take i)) (kq.getD i []) (.bool true) = fM (kq.take (i + 1)) := by
 have h := Nw ⟨i, hi⟩;unfold gK;rw [fy _ _ h];have hl : i < kq.length := hi;simp only;rw [List.take_succ_eq_append_getElem hl];simp only [fM, List.map_append, List.map_cons, List.map_nil]
 congr 3
 simp [List.getD_eq_getElem?_getD, hl]
theorem cX : ∀ (l : List Bt) (i : Nat), k ∈ l -> ∃ j, vb k i (fM l) = some (j, .bool true)
 | [], _, h => by cases h
 | a :: r, i, h => by
   simp only [fM, List.map_cons];rw [vb];by_cases h1 : k = a
   ·exact ⟨i, by rw [if_pos h1]⟩
   ·rw [if_neg h1];exact cX r (i + 1) (by rcases List.mem_cons.1 h with h | h; exact absurd h h1; exact h)
theorem NK (s : Bt) : (gv (fM kq) s).getD (.bool false) = .bool (JR s) := by
 unfold gv JR;by_cases h : s ∈ kq
 ·obtain ⟨j, hj⟩ := cX kq 0 h;rw [hj, decide_eq_true h]
  rfl
 ·rw [fy _ _ h, decide_eq_false h]
  rfl
end Wd
namespace Wd
def yL (s : Bt) : Bool := decide (1 <= (yZ s 0 0).2 /\ (yZ s 0 0).2 <= 24 /\ (yZ s 0 0).1 = s.length /\ s.length <= 40) && !JR s
end Wd
section
open Wd Go.RowKit
theorem Ty {i : Nat} (h : i < 41) : (kq.map xm)[i]? = some (xm (kq.getD i [])) := by
 have hl : i < kq.length := h
 simp [List.getD_eq_getElem?_getD, hl]
variable {m : Mp}
theorem Te (hT : xU m) : CS Tryz.prog 128 [] m [] fun v L' => ∃ b, v = .map (some b) /\ L' = [uF b (fM kq)] := by
 refine yQ [.tmp 0] Tryz.func128 rfl rfl rfl ?_;refine tr 7 ?_;refine zg (qT rfl (fun b1 => ?_)) rfl;refine vr 6 ?_;have F := fun m' (hm : Le m m') => Lf (s := Qc) (hT.mono hm) zt HR;rw [Kb, show kq.length = 41 from rfl] at F;refine zg ((yK E1 rfl (fun m' hm he => F m' hm) rfl ?_)) rfl;rintro _ _ ⟨b2, rfl, rfl⟩
 refine vr 5 ?_
 refine yv (fun i : Nat => [(1, .map (some b1)), (5, .slice (some ⟨b2, 0, none⟩) 41 41), (6, .int .i64 (41 : Nat)), (7, .int .i64 (i : Nat))]) (fun i => [cel b2 (kq.map xm) 9, uF b1 (fM (kq.take i))]) (fun i => i <= 41) (fun i => 41 - i) 0
  de zx (Nat.zero_le _) ?_
 rintro i hi;by_cases hlt : i < 41
 ·have hk := Ty hlt;have hput := MV hlt;refine tr 2 ?_;refine y4 10 ?_;refine pe 0 ((zw ql rfl rfl rfl za)) ?_;refine lr 6 (XU yI rfl .here hk) ?_;refine zg (wY qZ rfl rfl rfl .h1 ?_) rfl;refine vr 4 ?_;refine Pa 2 ?_;exact QR (i + 1) (by rw [<- hput]; exact zN.refl _) za za
 ·have : i = 41 := by omega
  subst this;refine tr 2 ?_;refine zH 6 ?_;refine zm ?_;refine zk ?_;refine qt 8 ?_;exact yn [_] zj _ (zN.cons .h1 ya) ⟨b1, rfl, rfl⟩
theorem Im (hT : xU m) (s : Bt) : CS Tryz.prog 100 [.string (bs s)] m [] (vQ (.bool (JR s))) := by
 refine yQ [.tmp 2] Tryz.func100 rfl rfl rfl ?_;refine tr 7 ?_;refine zg ((yK E6 rfl (fun m' hm he => Te (hT.mono hm)) rfl ?_)) rfl;rintro _ _ ⟨b2, rfl, rfl⟩;refine vr 1 ?_;refine lr 4 (cr qZ rfl rfl .here al) ?_;rw [NK];skip;exact xE zj ⟨rfl, rfl⟩
theorem qU (hT : xU m) {s : Bt} (hs : s.length <= 140737488355328) : CS Tryz.prog 56 [.string (bs s)] m [] (vQ (.bool (yL s))) := by
 refine yQ [.tmp 2] Tryz.func56 rfl rfl rfl ?_;have e : wC s 0 0 = yZ s 0 0 := by have := Qh (s := s) (p := 0) (Nat.zero_le _); simpa using this
 have hle := (uI s 0 0).len (Nat.zero_le _);unfold yL;by_cases hall : 1 <= (yZ s 0 0).2 /\ (yZ s 0 0).2 <= 24 /\ (yZ s 0 0).1 = s.length /\ s.length <= 40
 ·obtain ⟨a1, a2, a3, a4⟩ := hall;refine tr 8 ?_;refine Cr Fc rfl (fun m' hm he => (e ▸ Yk hs)) ?_;rintro _ rfl;refine vr 10 ?_;refine y4 2 ?_;refine y4 4 ?_;refine pe 0 (yT rfl ei) ?_;refine y4 3 ?_;refine y4 3 ?_;refine Cr Om rfl (fun m' hm he => (Im (hT.mono hm) s)) ?_;rintro _ rfl;refine vr 6 ?_
  exact xE zj ⟨by rw [decide_eq_true ⟨a1, a2, a3, a4⟩]; rfl, rfl⟩
 ·refine tr 8 ?_;refine Cr Fc rfl (fun m' hm he => (e ▸ Yk hs)) ?_;rintro _ rfl;refine vr 10 ?_;refine jk (dy rfl rfl) rfl rfl rfl (fun hc1 => ?_) (fun hc1 => ?_);refine vr 2 ?_;refine jk (Xn rfl rfl) rfl rfl rfl (fun hc2 => ?_) (fun hc2 => ?_);refine vr 4 ?_;refine pe 0 (yT rfl ei) ?_;refine jk (y3 rfl rfl) rfl rfl rfl (fun hc3 => ?_) (fun hc3 => ?_)
  refine vr 3 ?_;refine zH 10 ?_
  (exact xE zj ⟨by rw [decide_eq_false hall]; rfl, rfl⟩)
  refine vr 14 ?_
  (exact xE zj ⟨by rw [decide_eq_false hall]; rfl, rfl⟩)
  refine vr 20 ?_
  (exact xE zj ⟨by rw [decide_eq_false hall]; rfl, rfl⟩)
  refine vr 23 ?_
  (exact xE zj ⟨by rw [decide_eq_false hall]; rfl, rfl⟩)
end
section
open Wd Go.RowKit
def wV (w : yf) : Lv := [.int .i8 w.kind, .string (bs w.text), .int .i64 w.n, .int .i64 w.at_]
def Ya (ws : List yf) : Lv := ws.flatMap wV
theorem Jl (ws : List yf) (w : yf) : Ya (ws ++ [w]) = Ya ws ++ wV w := by simp [Ya]
theorem UR (ws : List yf) : (Ya ws).length = ws.length * 4 := by
 induction ws with
 | nil => rfl
 | cons w r ih => simp only [Ya, List.flatMap_cons, List.length_append, List.length_cons] at ih ⊢; rw [ih]; simp [wV]; omega
theorem eJ (A : Oa) (c : Nat) (acc : List yf) (w : yf) : own 101 4 A (acc ++ [w]).length c (Ya (acc ++ [w])) = own 101 4 A (acc.length + 1) c (Ya acc ++ wV w) := by rw [Jl]; simp
theorem uW (acc : List yf) (w : yf) : (acc ++ [w]).length = acc.length + 1 := by simp
def xb (e a : Int) : Value := .agg [.int .i64 e, .int .i64 a].toArray
def R1 : DM -> Value -> List yb -> Prop
 | .error (e, a), v, L' => v = .tuple [.slice none 0 0, xb e a].toArray /\ L' = []
 | .ok ws, v, L' => ∃ A c, v = .tuple [.slice A ws.length c, xb 0 0].toArray /\ L' = [own 101 4 A ws.length c (Ya ws)]
variable {s : Bt}
theorem HL {p : Nat} : rn s p = none ↔ (gM s p).1 = 65533 /\ (gM s p).2 = 1 := by
 unfold gM;cases h : rn s p with
 | none => simp
 | some r =>
   obtain ⟨x, k⟩ := r;have := ue h
   simp
   omega
theorem Kp (s : Bt) (p : Nat) : gM (s.drop p) 0 = gM s p := by unfold gM; rw [Zp, Nat.add_zero]
theorem Pg {m : Mp} (hT : xU m) {s : Bt} (hs : s.length <= 9223372036854775807) : CS Tryz.prog 48 [.string (bs s)] m [] (R1 (gN s)) := by
 refine yQ [.tmp 2, .cell 3 31] Tryz.func48 rfl rfl rfl ?_;by_cases hlong : 65536 < s.length
 ·have e : gN s = .error (3, 0) := by rw [gN, if_pos hlong]
  rw [e];refine tr 3 ?_;refine Al 6 wR fun b1 => ?_;refine pe 0 (yT rfl ei) ?_;refine y4 5 ?_;refine pe 1 (zA wR kx rfl rfl) ?_;refine Sg 4 y5 .here ?_;exact yn [.slice none 0 0, xb 3 0] ⟨rfl, ⟨b1, _, _, _, rfl, .here, .inr ⟨y5, rfl⟩⟩, trivial⟩ [] ya ⟨rfl, rfl⟩
 ·have e : gN s = VG s 0 0 false [] := by rw [gN, if_neg hlong, T4]
  rw [e];refine tr 3 ?_;refine Al 6 wR fun b1 => ?_;refine pe 0 (yT rfl ei) ?_;refine zH 20 ?_;refine zg (XT ei rfl rfl (fun b2 => ?_)) rfl;refine vr 3 ?_;refine jS 101 4 ?_
  refine yv (fun y : (Nat × Nat × Bool) × List yf × Oa × Nat => [(0, .string (bs s)), (3, .pointer (some ⟨b1, 0, none⟩)), (4, .slice y.2.2.1 y.2.1.length y.2.2.2), (5, .int .i64 (y.1.2.1 : Nat)), (6, .bool y.1.2.2), (21, .pointer (some ⟨b2, 0, none⟩))])
   (fun y => [own 101 4 y.2.2.1 y.2.1.length y.2.2.2 (Ya y.2.1), db b2 s y.1.1, cel b1 [.int .i64 0, .int .i64 0] 31])
   (fun y => y.1.1 <= s.length /\ y.1.2.1 <= s.length /\ y.2.1.length <= y.1.1 /\ VG s y.1.1 y.1.2.1 y.1.2.2 y.2.1 = VG s 0 0 false []) (fun y => s.length - y.1.1) ((0, 0, false), [], none, 0)
   gB zx ⟨Nat.zero_le _, Nat.zero_le _, Nat.zero_le _, rfl⟩ ?_
  rintro ⟨⟨p, skip, rem⟩, acc, A, c⟩ ⟨hp, hsk, hacc, he⟩;simp only at hp hsk hacc he ⊢;generalize VG s 0 0 false [] = FIN at *;by_cases hlt : p < s.length
  ·have hdp := bN s p;have hdl := N3 hlt;have hdq := eW s p;rw [VG, if_pos hlt] at he;refine tr 2 ?_;refine zg (Z3 rfl (by first | assumption | omega) xi .h1 rfl ?_) rfl;refine vr 23 ?_
   refine ac (fun y : Unit => [(0, .string (bs s)), (3, .pointer (some ⟨b1, 0, none⟩)), (4, .slice A acc.length c), (5, .int .i64 (skip : Nat)), (6, .bool rem), (7, .int .i64 (p : Nat)), (8, .int .i32 ((gM s p).1 : Nat)), (9, .bool (rn s p).isNone), (21, .pointer (some ⟨b2, 0, none⟩))])
    (fun y => [own 101 4 A acc.length c (Ya acc), db b2 s (p + (gM s p).2), cel b1 [.int .i64 0, .int .i64 0] 31]) (fun _ => True) ?_ ?_
   ·have hsl := HL (s := s) (p := p);have hd0 := Kp s p;generalize gM s p = r at *;obtain ⟨x, k⟩ := r;simp only at hdp hdl hsl ⊢;by_cases hx : x = 65533
    ·refine tr 2 ?_;refine y4 7 ?_;refine pe 0 (ae _ ei rfl rfl rfl za) ?_
     have F : ∀ m', Le m m' -> CS Tryz.prog 70 [.string (bs (s.drop p))] m' [] (vQ (.tuple [.int .i32 (x : Nat), .int .i64 (k : Nat)].toArray)) := fun m' hm => by
      have := G2 (t := s.drop p) (hT.mono hm) (by simp; omega);rw [hd0] at this;exact this
     refine Cr Cq rfl (fun m' hm he => (F m' hm)) ?_;rintro _ rfl;by_cases hk : k = 1
     ·have hn : (rn s p).isNone = true := by rw [hsl.2 ⟨hx, hk⟩]; rfl
      rw [hn];refine vr 9 ?_;refine y4 2 ?_;exact QR () zx trivial Nat.zero_lt_one
     ·have hn : (rn s p).isNone = false := by cases hr : rn s p with | none => exact absurd (hsl.1 hr).2 hk | some _ => rfl
      rw [hn];refine vr 9 ?_;refine zH 2 ?_;exact QR () zx trivial Nat.zero_lt_one
    ·have hn : (rn s p).isNone = false := by cases hr : rn s p with | none => exact absurd (hsl.1 hr).1 hx | some _ => rfl
     rw [hn];refine tr 2 ?_;refine zH 4 ?_;exact QR () zx trivial Nat.zero_lt_one
   ·rintro _ _;by_cases hps : p < skip
    ·rw [if_pos hps] at he;refine tr 5 ?_;refine y4 7 ?_;exact QR ((p + (gM s p).2, skip, rem), acc, A, c) zx ⟨hdl, hsk, by simp only; omega, he⟩ (by simp only; omega)
    ·rw [if_neg hps] at he;cases hr : rn s p with
     | none =>
       rw [hr] at he;simp only at he;subst he;refine tr 5 ?_;refine zH 14 ?_;refine pe 1 (zA wR kx rfl rfl) ?_;refine Sg 5 y5 .h2 ?_;refine zu ?_;refine zp ?_;refine zD ?_;exact yn [.slice none 0 0, xb 110 p] ⟨rfl, ⟨b1, _, _, _, rfl, .h2, .inr ⟨y5, rfl⟩⟩, trivial⟩ [] ya ⟨rfl, rfl⟩
     | some r =>
       obtain ⟨x, k⟩ := r;have hpos := ue hr;rw [hr] at he;rw [eX hr] at hdp hdl he ⊢;simp only at he hdp hdl ⊢;cases rem with
       | true =>
         rw [if_pos rfl] at he;by_cases h10 : x = 10
         ·rw [decide_eq_false za] at he;refine tr 5 ?_;refine zH 20 ?_;refine zH 4 ?_;exact QR ((p + k, skip, false), acc, A, c) zx ⟨by simp only; omega, hsk, by simp only; omega, he⟩ (by simp only; omega)
         ·rw [decide_eq_true h10] at he;refine tr 5 ?_;refine zH 20 ?_;refine y4 4 ?_;exact QR ((p + k, skip, true), acc, A, c) zx ⟨by simp only; omega, hsk, by simp only; omega, he⟩ (by simp only; omega)
       | false =>
         rw [if_neg yA] at he;by_cases hsp : ZF x = true
         ·simp only [X2, if_pos hsp] at he;have hx4 : x = 32 \/ x = 10 \/ x = 13 \/ x = 9 := of_decide_eq_true hsp;refine tr 5 ?_;refine zH 21 ?_;refine jk (y3 rfl rfl) rfl rfl rfl (fun hc1 => ?_) (fun hc1 => ?_);refine vr 19 ?_
          (exact QR ((p + k, skip, false), acc, A, c) zx ⟨by simp only; omega, hsk, by simp only; omega, he⟩ (by simp only; omega))
          refine vr 2 ?_;refine jk (y3 rfl rfl) rfl rfl rfl (fun hc2 => ?_) (fun hc2 => ?_);refine vr 16 ?_
          (exact QR ((p + k, skip, false), acc, A, c) zx ⟨by simp only; omega, hsk, by simp only; omega, he⟩ (by simp only; omega))
          refine vr 3 ?_;refine jk (y3 rfl rfl) rfl rfl rfl (fun hc3 => ?_) (fun hc3 => ?_);refine vr 12 ?_
          (exact QR ((p + k, skip, false), acc, A, c) zx ⟨by simp only; omega, hsk, by simp only; omega, he⟩ (by simp only; omega))
          refine vr 3 ?_;refine y4 8 ?_
          (exact QR ((p + k, skip, false), acc, A, c) zx ⟨by simp only; omega, hsk, by simp only; omega, he⟩ (by simp only; omega))
         ·have hx4 : ¬ (x = 32 \/ x = 10 \/ x = 13 \/ x = 9) := fun h => hsp (decide_eq_true h);by_cases h35 : x = 35
          ·simp only [X2, if_neg hsp, if_pos h35] at he;refine tr 5 ?_;refine zH 21 ?_;refine zH 2 ?_;refine zH 3 ?_;refine zH 3 ?_;refine zH 8 ?_;refine y4 9 ?_;exact QR ((p + k, skip, true), acc, A, c) zx ⟨by simp only; omega, hsk, by simp only; omega, he⟩ (by simp only; omega)
          ·cases hl : xN x with
           | true =>
             simp only [X2, if_neg hsp, if_neg h35, if_pos hl] at he;have hne := Qh (s := s) (p := p) hp;have hnl := (uI s p 0).len hp;rw [<- hne] at hnl;simp only at hnl;refine tr 5 ?_;refine zH 21 ?_;refine zH 2 ?_;refine zH 3 ?_;refine zH 3 ?_;refine zH 8 ?_;refine zH 7 ?_;refine Cr Rj rfl (fun m' hm he => (bH x)) ?_;rintro _ rfl;rw [hl];refine vr 8 ?_
             refine pe 0 (ae _ ei rfl rfl rfl za) ?_;refine Cr Fc rfl (fun m' hm he => (Yk (t := s.drop p) (by simp; omega))) ?_;rintro _ rfl;generalize wC (s.drop p) 0 0 = r at *;obtain ⟨q, k2⟩ := r;simp only [au] at he hnl;by_cases hbad : 24 < k2 \/ 40 < p + q - p
             ·rw [if_pos hbad] at he;simp only at he;subst he;refine vr 11 ?_;refine jk (dy rfl rfl) rfl rfl rfl (fun hc1 => ?_) (fun hc1 => ?_);refine vr 10 ?_;refine pe 1 (zA wR kx rfl rfl) ?_;refine Sg 6 y5 .h2 ?_;refine zu ?_;refine zp ?_;refine zD ?_
              (exact yn [.slice none 0 0, xb 3 p] ⟨rfl, ⟨b1, _, _, _, rfl, .h2, .inr ⟨y5, rfl⟩⟩, trivial⟩ [] ya ⟨rfl, rfl⟩)
              refine vr 2 ?_;refine y4 7 ?_;refine pe 1 (zA wR kx rfl rfl) ?_;refine Sg 6 y5 .h2 ?_;refine zu ?_;refine zp ?_;refine zD ?_
              (exact yn [.slice none 0 0, xb 3 p] ⟨rfl, ⟨b1, _, _, _, rfl, .h2, .inr ⟨y5, rfl⟩⟩, trivial⟩ [] ya ⟨rfl, rfl⟩)
             ·rw [if_neg hbad] at he;simp only at he;refine vr 11 ?_;refine zH 2 ?_;refine zH 13 ?_;refine pe 0 (xK rfl rfl za) ?_;refine pe 1 (K4 _ _ ei rfl rfl rfl rfl rfl za za) ?_;refine pe 0 (zA uS Wk rfl rfl) ?_;refine Bs 0 Zf fun b3 => ?_
              refine zg (xQ Zf rfl rfl rfl rfl .here (fun _ _ => .h1) rfl rfl (by first | omega | (simp only [maxLen]; omega)) za rfl (fun A1 c1 => ?_)) rfl;refine vr 6 ?_;refine pe 4 (xK rfl rfl za) ?_
              exact xD ((p + k, p + q, false), acc ++ [⟨1, JD s p (p + q), 0, p⟩], A1, c1) ⟨rfl, rfl, by simp only [uW]; rfl, rfl, rfl, rfl, trivial⟩ (by simp only [eJ]; exact zN.drop) ⟨by simp only; omega, by simp only; omega, by simp only [uW]; omega, he⟩ (by simp only; omega)
           | false =>
             cases hd : vT x with
             | true =>
               have hx8 := ZQ hd;have hk1 : k = 1 := by omega
               subst hk1;have hxb : x = xI s p := by omega
               simp only [X2, if_neg hsp, if_neg h35, hl, hd, Bool.false_eq_true, if_false, if_true] at he;refine tr 5 ?_;refine zH 21 ?_;refine zH 2 ?_;refine zH 3 ?_;refine zH 3 ?_;refine zH 8 ?_;refine zH 7 ?_;refine Cr Rj rfl (fun m' hm he => (bH x)) ?_;rintro _ rfl;rw [hl];refine vr 7 ?_;refine Cr G4 rfl (fun m' hm he => (fA x)) ?_;rintro _ rfl;rw [hd];refine vr 17 ?_
               refine yv (fun y : Nat × Nat => [(0, .string (bs s)), (3, .pointer (some ⟨b1, 0, none⟩)), (4, .slice A acc.length c), (5, .int .i64 (y.1 : Nat)), (6, .bool false), (7, .int .i64 (p : Nat)), (8, .int .i32 (x : Nat)), (14, .int .i64 (y.2 : Nat)), (21, .pointer (some ⟨b2, 0, none⟩))])
                (fun _ => [own 101 4 A acc.length c (Ya acc), db b2 s (p + 1), cel b1 [.int .i64 0, .int .i64 0] 31]) (fun y => p <= y.1 /\ y.1 <= s.length /\ y.2 <= 1000 /\ q6 s y.1 y.2 = q6 s p 0) (fun y => s.length - y.1) (p, 0)
                F1 zx ⟨Nat.le_refl _, hp, Nat.zero_le _, rfl⟩ ?_
               rintro ⟨q, n⟩ ⟨hpq, hq, hn, hdg⟩;simp only at hpq hq hn hdg ⊢;have hbq := Ov s q;have fin : ¬ (q < s.length /\ vT (xI s q) = true) -> q6 s p 0 = (q, n) := fun h => by rw [<- hdg, q6, if_neg h]
               by_cases hql : q < s.length
               ·cases hdq2 : vT (xI s q) with
                | true =>
                  have hb2 : 48 <= xI s q /\ xI s q <= 57 := of_decide_eq_true hdq2;rw [q6, if_pos ⟨hql, hdq2⟩] at hdg;have hmin : ((min (n * 10 + (xI s q - 48)) 1000 : Nat) : Int) = min ((n : Int) * 10 + ((xI s q - 48 : Nat) : Int)) 1000 := by omega
                  refine tr 5 ?_;refine pe 0 (yT rfl ei) ?_;refine y4 3 ?_;refine pe 0 (cx rfl rfl ei za) ?_;refine pe 0 (Z7 FY PZ rfl (DI za za)) ?_;refine Cr G4 rfl (fun m' hm he => (fA (xI s q))) ?_;rintro _ rfl;rw [hdq2];refine vr 10 ?_;refine pe 2 (Dy rfl rfl (fK za za)) ?_
                  refine pe 0 (cx rfl rfl ei za) ?_;refine pe 0 ((bd rfl rfl (show IntKind.u8.wrap ((xI s q : Nat) - 48) = ((xI s q - 48 : Nat) : Int) by rw [DG za za]; omega))) ?_;refine pe 0 (Z7 FY ND rfl (fK za za)) ?_;refine Pa 0 ?_;refine pe 6 (RQ rfl rfl) ?_;refine Pa 2 ?_
                  exact xD (q + 1, min (n * 10 + (xI s q - 48)) 1000) ⟨rfl, rfl, rfl, rfl, rfl, rfl, rfl, by rw [hmin]; rfl, rfl, trivial⟩ zx ⟨by simp only; omega, by simp only; omega, by simp only; omega, hdg⟩ (by simp only; omega)
                | false =>
                  have hf := fin (by rw [hdq2]; simp);rw [hf] at he;simp only [ag] at he;by_cases hz : xI s p = 48 /\ p + 1 < q
                  ·rw [if_pos hz] at he;simp only at he;subst he;refine tr 5 ?_;refine pe 0 (yT rfl ei) ?_;refine y4 3 ?_;refine pe 0 (cx rfl rfl ei za) ?_;refine pe 0 (Z7 FY PZ rfl (DI za za)) ?_;refine Cr G4 rfl (fun m' hm he => (fA (xI s q))) ?_;rintro _ rfl;rw [hdq2];refine vr 6 ?_;refine zm ?_;refine zk ?_
                   refine qt 6 ?_;refine y4 3 ?_;refine Pa 0 ?_;refine y4 8 ?_;refine pe 1 (zA wR kx rfl rfl) ?_;refine Sg 7 y5 .h2 ?_;refine zu ?_;refine zp ?_;refine zD ?_;exact yn [.slice none 0 0, xb 110 p] ⟨rfl, ⟨b1, _, _, _, rfl, .h2, .inr ⟨y5, rfl⟩⟩, trivial⟩ [] ya ⟨rfl, rfl⟩
                  ·rw [if_neg hz] at he;by_cases h9 : 999 < n
                   ·rw [if_pos h9] at he;simp only at he;subst he;refine tr 5 ?_;refine pe 0 (yT rfl ei) ?_;refine y4 3 ?_;refine pe 0 (cx rfl rfl ei za) ?_;refine pe 0 (Z7 FY PZ rfl (DI za za)) ?_;refine Cr G4 rfl (fun m' hm he => (fA (xI s q))) ?_;rintro _ rfl;rw [hdq2];refine vr 6 ?_;refine zm ?_;refine zk ?_
                    refine qt 6 ?_;refine jk (y3 rfl rfl) rfl rfl rfl (fun hc1 => ?_) (fun hc1 => ?_);refine vr 3 ?_;refine Pa 0 ?_;refine zH 8 ?_;refine y4 7 ?_;refine pe 1 (zA wR kx rfl rfl) ?_;refine Sg 7 y5 .h2 ?_;refine zu ?_;refine zp ?_;refine zD ?_
                    (exact yn [.slice none 0 0, xb 3 p] ⟨rfl, ⟨b1, _, _, _, rfl, .h2, .inr ⟨y5, rfl⟩⟩, trivial⟩ [] ya ⟨rfl, rfl⟩)
                    refine vr 13 ?_;refine y4 7 ?_;refine pe 1 (zA wR kx rfl rfl) ?_;refine Sg 7 y5 .h2 ?_;refine zu ?_;refine zp ?_;refine zD ?_
                    (exact yn [.slice none 0 0, xb 3 p] ⟨rfl, ⟨b1, _, _, _, rfl, .h2, .inr ⟨y5, rfl⟩⟩, trivial⟩ [] ya ⟨rfl, rfl⟩)
                   ·rw [if_neg h9] at he;simp only at he;refine tr 5 ?_;refine pe 0 (yT rfl ei) ?_;refine y4 3 ?_;refine pe 0 (cx rfl rfl ei za) ?_;refine pe 0 (Z7 FY PZ rfl (DI za za)) ?_;refine Cr G4 rfl (fun m' hm he => (fA (xI s q))) ?_;rintro _ rfl;rw [hdq2];refine vr 6 ?_;refine zm ?_;refine zk ?_;refine qt 6 ?_
                    refine jk (y3 rfl rfl) rfl rfl rfl (fun hc1 => ?_) (fun hc1 => ?_);refine vr 3 ?_;refine Pa 0 ?_;refine zH 8 ?_;refine zH 11 ?_;refine pe 0 (zA uS Wk rfl rfl) ?_;refine Bs 0 Zf fun b3 => ?_;refine zg (xQ Zf rfl rfl rfl rfl .here (fun _ _ => .h1) rfl rfl (by first | omega | (simp only [maxLen]; omega)) za rfl (fun A1 c1 => ?_)) rfl
                    refine vr 4 ?_
                    (exact xD ((p + 1, q, false), acc ++ [⟨2, [], n, p⟩], A1, c1) ⟨rfl, rfl, by simp only [uW]; rfl, rfl, rfl, rfl, trivial⟩ (by simp only [eJ]; exact zN.drop) ⟨by simp only; omega, by simp only; omega, by simp only [uW]; omega, he⟩ (by simp only; omega))
                    refine vr 13 ?_;refine zH 11 ?_;refine pe 0 (zA uS Wk rfl rfl) ?_;refine Bs 0 Zf fun b3 => ?_;refine zg (xQ Zf rfl rfl rfl rfl .here (fun _ _ => .h1) rfl rfl (by first | omega | (simp only [maxLen]; omega)) za rfl (fun A1 c1 => ?_)) rfl;refine vr 4 ?_
                    (exact xD ((p + 1, q, false), acc ++ [⟨2, [], n, p⟩], A1, c1) ⟨rfl, rfl, by simp only [uW]; rfl, rfl, rfl, rfl, trivial⟩ (by simp only [eJ]; exact zN.drop) ⟨by simp only; omega, by simp only; omega, by simp only [uW]; omega, he⟩ (by simp only; omega))
               ·have hf := fin za;rw [hf] at he;simp only [ag] at he;by_cases hz : xI s p = 48 /\ p + 1 < q
                ·rw [if_pos hz] at he;simp only at he;subst he;refine tr 5 ?_;refine pe 0 (yT rfl ei) ?_;refine zH 12 ?_;refine zm ?_;refine zk ?_;refine qt 6 ?_;refine y4 3 ?_;refine Pa 0 ?_;refine y4 8 ?_;refine pe 1 (zA wR kx rfl rfl) ?_;refine Sg 7 y5 .h2 ?_;refine zu ?_;refine zp ?_;refine zD ?_
                 exact yn [.slice none 0 0, xb 110 p] ⟨rfl, ⟨b1, _, _, _, rfl, .h2, .inr ⟨y5, rfl⟩⟩, trivial⟩ [] ya ⟨rfl, rfl⟩
                ·rw [if_neg hz] at he;by_cases h9 : 999 < n
                 ·rw [if_pos h9] at he;simp only at he;subst he;refine tr 5 ?_;refine pe 0 (yT rfl ei) ?_;refine zH 12 ?_;refine zm ?_;refine zk ?_;refine qt 6 ?_;refine jk (y3 rfl rfl) rfl rfl rfl (fun hc1 => ?_) (fun hc1 => ?_);refine vr 3 ?_;refine Pa 0 ?_;refine zH 8 ?_;refine y4 7 ?_;refine pe 1 (zA wR kx rfl rfl) ?_;refine Sg 7 y5 .h2 ?_
                  refine zu ?_;refine zp ?_;refine zD ?_
                  (exact yn [.slice none 0 0, xb 3 p] ⟨rfl, ⟨b1, _, _, _, rfl, .h2, .inr ⟨y5, rfl⟩⟩, trivial⟩ [] ya ⟨rfl, rfl⟩)
                  refine vr 13 ?_;refine y4 7 ?_;refine pe 1 (zA wR kx rfl rfl) ?_;refine Sg 7 y5 .h2 ?_;refine zu ?_;refine zp ?_;refine zD ?_
                  (exact yn [.slice none 0 0, xb 3 p] ⟨rfl, ⟨b1, _, _, _, rfl, .h2, .inr ⟨y5, rfl⟩⟩, trivial⟩ [] ya ⟨rfl, rfl⟩)
                 ·rw [if_neg h9] at he;simp only at he;refine tr 5 ?_;refine pe 0 (yT rfl ei) ?_;refine zH 12 ?_;refine zm ?_;refine zk ?_;refine qt 6 ?_;refine jk (y3 rfl rfl) rfl rfl rfl (fun hc1 => ?_) (fun hc1 => ?_);refine vr 3 ?_;refine Pa 0 ?_;refine zH 8 ?_;refine zH 11 ?_;refine pe 0 (zA uS Wk rfl rfl) ?_;refine Bs 0 Zf fun b3 => ?_
                  refine zg (xQ Zf rfl rfl rfl rfl .here (fun _ _ => .h1) rfl rfl (by first | omega | (simp only [maxLen]; omega)) za rfl (fun A1 c1 => ?_)) rfl;refine vr 4 ?_
                  (exact xD ((p + 1, q, false), acc ++ [⟨2, [], n, p⟩], A1, c1) ⟨rfl, rfl, by simp only [uW]; rfl, rfl, rfl, rfl, trivial⟩ (by simp only [eJ]; exact zN.drop) ⟨by simp only; omega, by simp only; omega, by simp only [uW]; omega, he⟩ (by simp only; omega))
                  refine vr 13 ?_;refine zH 11 ?_;refine pe 0 (zA uS Wk rfl rfl) ?_;refine Bs 0 Zf fun b3 => ?_;refine zg (xQ Zf rfl rfl rfl rfl .here (fun _ _ => .h1) rfl rfl (by first | omega | (simp only [maxLen]; omega)) za rfl (fun A1 c1 => ?_)) rfl;refine vr 4 ?_
                  (exact xD ((p + 1, q, false), acc ++ [⟨2, [], n, p⟩], A1, c1) ⟨rfl, rfl, by simp only [uW]; rfl, rfl, rfl, rfl, trivial⟩ (by simp only [eJ]; exact zN.drop) ⟨by simp only; omega, by simp only; omega, by simp only [uW]; omega, he⟩ (by simp only; omega))
             | false =>
               simp only [X2, if_neg hsp, if_neg h35, hl, hd, Bool.false_eq_true, if_false] at he;refine tr 5 ?_;refine zH 21 ?_;refine zH 2 ?_;refine zH 3 ?_;refine zH 3 ?_;refine zH 8 ?_;refine zH 7 ?_;refine Cr Rj rfl (fun m' hm he => (bH x)) ?_;rintro _ rfl;rw [hl];refine vr 7 ?_;refine Cr G4 rfl (fun m' hm he => (fA x)) ?_;rintro _ rfl;rw [hd];refine vr 8 ?_
               refine pe 0 (ae _ ei rfl rfl rfl za) ?_;refine Cr Co rfl (fun m' hm he => (PP (t := s.drop p))) ?_;rintro _ rfl;unfold eE at he;cases hmk : WB (s.drop p) with
               | none =>
                 rw [hmk] at he;simp only at he;subst he;simp only [Option.getD_none];refine vr 7 ?_;refine xf 6 ?_;refine pe 1 (zA wR kx rfl rfl) ?_;refine Sg 6 y5 .h2 ?_;refine zu ?_;refine zp ?_;refine zD ?_;exact yn [.slice none 0 0, xb 110 p] ⟨rfl, ⟨b1, _, _, _, rfl, .h2, .inr ⟨y5, rfl⟩⟩, trivial⟩ [] ya ⟨rfl, rfl⟩
               | some mk =>
                 rw [hmk] at he
                 have hst : wA s p = .next (p + mk.length) [⟨3, mk, 0, p⟩] := by
                  unfold wA;rw [hr];simp only [if_neg hsp, if_neg h35, hl, hd, Bool.false_eq_true, if_false];unfold eE;rw [hmk]
                 obtain ⟨g1, g2⟩ := qq hlt hst;have g3 := g2.len hp;have hne : ¬ mk = [] := by rintro rfl; simp at g1
                 simp only at he;simp only [Option.getD_some];refine vr 7 ?_;refine pe 10 ((df (YR rfl rfl) hne)) ?_;refine pe 0 (zA uS Wk rfl rfl) ?_;refine Bs 0 Zf fun b3 => ?_;refine zg (xQ Zf rfl rfl rfl rfl .here (fun _ _ => .h1) rfl rfl (by first | omega | (simp only [maxLen]; omega)) za rfl (fun A1 c1 => ?_)) rfl;refine vr 6 ?_
                 refine pe 0 (yT rfl ei) ?_;refine pe 4 (xK rfl rfl za) ?_;exact xD ((p + k, p + mk.length, false), acc ++ [⟨3, mk, 0, p⟩], A1, c1) ⟨rfl, rfl, by simp only [uW]; rfl, rfl, rfl, rfl, trivial⟩ (by simp only [eJ]; exact zN.drop) ⟨by simp only; omega, by simp only; omega, by simp only [uW]; omega, he⟩ (by simp only; omega)
  ·rw [Qs hlt] at he;subst he;refine tr 2 ?_;refine zg (YQ rfl (by first | assumption | omega) .h1 rfl ?_) rfl;refine vr 7 ?_;refine zm ?_;refine zk ?_;refine qt 5 ?_;refine pe 0 (yT rfl ei) ?_;refine pe 0 (zA uS Wk rfl rfl) ?_;refine Bs 0 Zf fun b3 => ?_
   refine zg (xQ Zf rfl rfl rfl rfl .here (fun _ _ => .h1) rfl rfl (by first | omega | (simp only [maxLen]; omega)) za rfl (fun A1 c1 => ?_)) rfl;refine pe 1 (zA wR kx rfl rfl) ?_;refine Sg 3 y5 .h3 ?_
   refine yn [.slice A1 (acc.length + 1) c1, xb 0 0] ⟨rfl, ⟨b1, _, _, _, rfl, .h3, .inr ⟨y5, rfl⟩⟩, trivial⟩ [own 101 4 A1 (acc.length + 1) c1 (Ya acc ++ wV ⟨0, [], 0, s.length⟩)] (zN.cons .h1 ya) ⟨A1, c1, ?_, ?_⟩
   ·simp [ao]
   ·rw [Jl]; simp
end
namespace Tp
open Go Go.Eng Wd
abbrev jd : Bt := [43]
abbrev uc : Bt := [45]
abbrev wo : Bt := [42]
abbrev zL : Bt := [40]
abbrev zz : Bt := [41]
abbrev y9 : Bt := [44]
abbrev jZ : Bt := [47]
abbrev yg : Bt := [59]
abbrev gp : Bt := [123]
abbrev jv : Bt := [125]
abbrev X9 : Bt := [60]
abbrev Wa : Bt := [60, 61]
abbrev Wb : Bt := [61, 61]
abbrev YZ : Bt := [108, 105, 102, 101]
abbrev Y0 : Bt := [104, 97, 110, 100]
abbrev Y4 : Bt := [100, 101, 99, 107]
abbrev aw : Bt := [117, 110, 105, 116, 115]
abbrev X8 : Bt := [109, 97, 110, 97]
abbrev We : Bt := [99, 111, 115, 116]
abbrev dH : Bt := [112, 111, 119, 101, 114]
abbrev Xs : Bt := [109, 105, 110]
abbrev Xt : Bt := [109, 97, 120]
abbrev ar : Bt := [109, 101]
abbrev fL : Bt := [102, 111, 101]
abbrev Gq : Bt := [116, 111, 112]
abbrev xX : Bt := [116, 97, 114, 103, 101, 116]
abbrev el : Bt := [110, 111, 116]
abbrev gJ : Bt := [97, 110, 100]
abbrev JF : Bt := [111, 114]
abbrev q9 : Bt := [104, 111, 108, 100, 115]
abbrev Zk : Bt := [104, 97, 114, 109]
abbrev Zj : Bt := [109, 101, 110, 100]
abbrev Y3 : Bt := [100, 114, 97, 119]
abbrev Y1 : Bt := [103, 97, 105, 110]
abbrev YY : Bt := [108, 111, 111, 107]
abbrev Y2 : Bt := [100, 114, 111, 112]
abbrev YX : Bt := [115, 104, 111, 119]
abbrev jn : Bt := [115, 117, 109, 109, 111, 110]
abbrev HO : Bt := [105, 102]
abbrev je : Bt := [101, 108, 115, 101]
abbrev V7 : Bt := [117, 110, 105, 116]
abbrev dI : Bt := [99, 104, 97, 114, 109]
abbrev xu : Bt := [112, 108, 97, 121, 101, 100]
abbrev uj : Bt := [100, 101, 97, 100]
abbrev uy : Bt := [100, 97, 119, 110]
abbrev j0 : Bt := [97, 117, 114, 97]
abbrev vm : Bt := [115, 104, 105, 101, 108, 100]
abbrev ud : Bt := [108, 101, 97, 115, 116]
abbrev jG : Bt := [109, 111, 115, 116]
abbrev vn : Bt := [99, 111, 112, 105, 101, 115]
abbrev wP : Bt := [98, 97, 110, 110, 101, 100]
abbrev vK : Bt := [115, 105, 110, 103, 108, 101]
abbrev fa : Bt := [99, 97, 114, 100]
abbrev vY : Bt := [102, 111, 114, 109, 97, 116]
structure y6 where
 name : Bt
 least : Int
 most : Int
 copies : Int
 banned : List Bt
 single : List Bt
 at_ : Int
structure ew where
 cards : List zP
 fmts : List y6
inductive R (α : Type) where
 | ok (x : α) (ts : List yf)
 | bad (e : Int) (a : Int)
 | out
def R.bind {α β : Type} : R α -> (α -> List yf -> R β) -> R β
 | .ok x ts, f => f x ts
 | .bad e a, _ => .bad e a
 | .out, _ => .out
def hd (ts : List yf) : yf := ts.headD ⟨0, [], 0, 0⟩
def isW (s : Bt) (ts : List yf) : Bool := (decide ((hd ts).kind = 1) || decide ((hd ts).kind = 3)) && decide ((hd ts).text = s)
def fail {α : Type} (e : Int) (ts : List yf) : R α := .bad e (hd ts).at_
def wi (s : Bt) (ts : List yf) : R Unit := if isW s ts then .ok () ts.tail else fail 120 ts
def eM : List Bt -> List yf -> R Unit
 | [], ts => .ok () ts
 | s :: r, ts => (wi s ts).bind fun _ ts => eM r ts
def xY (ts : List yf) : R Int := if (hd ts).kind = 2 then .ok (hd ts).n ts.tail else fail 120 ts
def kn (ts : List yf) : R Bt := if (hd ts).kind = 1 /\ JR (hd ts).text = false then .ok (hd ts).text ts.tail else fail 120 ts
def j4 (ts : List yf) : R Int := if isW ar ts then .ok 0 ts.tail else if isW fL ts then .ok 1 ts.tail else fail 120 ts
def Xu (ts : List yf) : R Int := if isW xX ts then .ok 2 ts.tail else j4 ts
def Wl (d : Nat) (ts : List yf) : R Unit := if 8 < d + 1 then fail 121 ts else .ok () ts
def vz (op : Int) (a b : zY) : zY := .mk op 0 0 [a, b]
def qL (op : Int) (a b : zI) : zI := .mk op 0 [] [] [a, b]
def qs (op n who : Int) : zY := .mk op n who []
def wM {α : Type} (one : List yf -> R α) (signs : List (Bt × Int)) (put : Int -> α -> α -> α) : Nat -> α -> List yf -> R α
 | 0, _, _ => .out
 | n + 1, x, ts => match signs.find? fun s => isW s.1 ts with
   | none => .ok x ts
   | some s => (one ts.tail).bind fun y ts => wM one signs put n (put s.2 x y) ts
def qk {α : Type} (one : List yf -> R α) (signs : List (Bt × Int)) (put : Int -> α -> α -> α) (n : Nat) (ts : List yf) : R α :=
 (one ts).bind fun x ts => wM one signs put n x ts
def JQ (sum : Nat -> List yf -> R zY) (two : Bool) (d : Nat) (ts : List yf) : R (zY × zY) :=
 if isW zL ts then
  (Wl d ts).bind fun _ ts => (wi zL ts).bind fun _ ts => (sum (d + 1) ts).bind fun a ts =>
   if two then (wi y9 ts).bind fun _ ts => (sum (d + 1) ts).bind fun b ts => (wi zz ts).bind fun _ ts => .ok (a, b) ts
   else (wi zz ts).bind fun _ ts => .ok (a, qs 0 0 0) ts
 else fail 120 ts
def gX : List (Bt × Int) := [(YZ, 1), (Y0, 2), (Y4, 3), (aw, 4)]
def ja (sum : Nat -> List yf -> R zY) (d : Nat) (ts : List yf) : R zY :=
 if isW zL ts then (JQ sum false d ts).bind fun x ts => .ok x.1 ts
 else if (hd ts).kind = 2 then .ok (qs 0 (hd ts).n 0) ts.tail
 else match gX.find? fun s => isW s.1 ts with
 | some s => (wi zL ts.tail).bind fun _ ts => (j4 ts).bind fun w ts => (wi zz ts).bind fun _ ts => .ok (qs s.2 0 w) ts
 | none =>
   if isW X8 ts then (eM [zL, ar, zz] ts.tail).bind fun _ ts => .ok (qs 5 0 0) ts
   else if isW We ts then (eM [zL, Gq, zL, ar, zz, zz] ts.tail).bind fun _ ts => .ok (qs 6 0 0) ts
   else if isW dH ts then (eM [zL, xX, zz] ts.tail).bind fun _ ts => .ok (qs 7 0 0) ts
   else if isW Xs ts then (JQ sum true d ts.tail).bind fun x ts => .ok (vz 11 x.1 x.2) ts
   else if isW Xt ts then (JQ sum true d ts.tail).bind fun x ts => .ok (vz 12 x.1 x.2) ts
   else fail 120 ts
def qo : List (Bt × Int) := [(jd, 8), (uc, 9)]
def wj : List (Bt × Int) := [(wo, 10)]
def ai (sum : Nat -> List yf -> R zY) (n d : Nat) (ts : List yf) : R zY := qk (ja sum d) wj vz n ts
def xa : Nat -> Nat -> List yf -> R zY
 | 0, _, _ => .out
 | n + 1, d, ts => qk (ai (xa n) (n + 1) d) qo vz (n + 1) ts
def uk : Int -> List yf -> Bool
 | _, [] => true
 | d, w :: r =>
   if w.kind ≠ 3 then uk d r
   else
    let d' : Int := if w.text = zL then d + 1 else if w.text = zz then d - 1 else d
    if 0 < d' then uk d' r
    else if (hd r).kind ≠ 3 then true
    else !decide ((hd r).text ∈ [X9, Wa, Wb, jd, uc, wo])
def yy : List (Bt × Int) := [(X9, 0), (Wa, 1), (Wb, 2)]
def wL (sum : Nat -> List yf -> R zY) (cond : Nat -> List yf -> R zI) : Nat -> Nat -> List yf -> R zI
 | 0, _, _ => .out
 | n + 1, d, ts =>
   if isW el ts then (Wl d ts).bind fun _ ts => (wL sum cond n (d + 1) ts.tail).bind fun k ts => .ok (.mk 3 0 [] [] [k]) ts
   else if isW zL ts && uk 0 ts then (Wl d ts).bind fun _ ts => (cond (d + 1) ts.tail).bind fun x ts => (wi zz ts).bind fun _ ts => .ok x ts
   else if isW q9 ts then (wi zL ts.tail).bind fun _ ts => (j4 ts).bind fun w ts => (wi y9 ts).bind fun _ ts => (kn ts).bind fun s ts => (wi zz ts).bind fun _ ts => .ok (.mk 6 w s [] []) ts
   else (sum d ts).bind fun a ts => match yy.find? fun s => isW s.1 ts with
    | some s => (sum d ts.tail).bind fun b ts => .ok (.mk s.2 0 [] [a, b] []) ts
    | none => fail 120 ts
def wE : List (Bt × Int) := [(gJ, 4)]
def kP : List (Bt × Int) := [(JF, 5)]
def aj (cond : Nat -> List yf -> R zI) (n d : Nat) (ts : List yf) : R zI := qk (wL (xa n) cond n d) wE qL n ts
def xL : Nat -> Nat -> List yf -> R zI
 | 0, _, _ => .out
 | n + 1, d, ts => qk (aj (xL n) (n + 1) d) kP qL (n + 1) ts
def aF : zY := .mk 0 0 0 []
def UB : zI := .mk 0 0 [] [] []
def qm (op who : Int) (n : zY) (name : Bt) : zW := .mk op who n name UB [] []
def v6 (x : zW) (ts : List yf) : R zW := (wi yg ts).bind fun _ ts => .ok x ts
def ky (blk : Nat -> List yf -> R (List zW)) (n d : Nat) (ts : List yf) : R zW :=
 if isW Zk ts then (Xu ts.tail).bind fun w ts => (xa n d ts).bind fun x ts => v6 (qm 0 w x []) ts
 else if isW Zj ts then (Xu ts.tail).bind fun w ts => (xa n d ts).bind fun x ts => v6 (qm 1 w x []) ts
 else if isW Y3 ts then (j4 ts.tail).bind fun w ts => (xa n d ts).bind fun x ts => v6 (qm 2 w x []) ts
 else if isW Y1 ts then (xa n d ts.tail).bind fun x ts => v6 (qm 3 0 x []) ts
 else if isW YY ts then (xa n d ts.tail).bind fun x ts => v6 (qm 5 0 x []) ts
 else if isW Y2 ts then (j4 ts.tail).bind fun w ts => v6 (qm 4 w aF []) ts
 else if isW YX ts then (j4 ts.tail).bind fun w ts => v6 (qm 6 w aF []) ts
 else if isW jn ts then (kn ts.tail).bind fun s ts => v6 (qm 7 0 aF s) ts
 else if isW HO ts then
  (Wl d ts).bind fun _ ts => (xL n (d + 1) ts.tail).bind fun c ts => (blk (d + 1) ts).bind fun t ts => (wi je ts).bind fun _ ts => (blk (d + 1) ts).bind fun e ts => .ok (.mk 8 0 aF [] c t e) ts
 else fail 120 ts
def fR {α : Type} (one : List yf -> R α) : Nat -> List α -> List yf -> R (List α)
 | 0, _, _ => .out
 | n + 1, acc, ts => if isW jv ts then .ok acc ts.tail else (one ts).bind fun x ts => fR one n (acc ++ [x]) ts
def xo : Nat -> Nat -> List yf -> R (List zW)
 | 0, _, _ => .out
 | n + 1, d, ts => (wi gp ts).bind fun _ ts => fR (ky (xo n) (n + 1) d) (n + 1) [] ts
def wU {σ : Type} (keys : List Bt) (read : Bt -> σ -> List yf -> R σ) (parts : σ -> Nat) : Nat -> List Bt -> σ -> List yf -> R σ
 | 0, _, _, _ => .out
 | n + 1, seen, c, ts =>
   if isW jv ts then (if 200 < parts c then fail 3 ts else .ok c ts.tail)
   else if (hd ts).kind = 1 /\ (hd ts).text ∈ keys then
    (if (hd ts).text ∈ seen then fail 101 ts else (read (hd ts).text c ts.tail).bind fun c ts' => wU keys read parts n (seen ++ [(hd ts).text]) c ts')
   else fail 120 ts
def cg : List Bt := [xu, uj, uy, j0, vm]
def xp (n : Nat) (s : Bt) (c : zP) (ts : List yf) : R zP :=
 if s = xu then (xo n 0 ts).bind fun l ts => .ok { c with played := l } ts
 else if s = uj then (xo n 0 ts).bind fun l ts => .ok { c with dead := l } ts
 else if s = uy then (xo n 0 ts).bind fun l ts => .ok { c with dawn := l } ts
 else if s = j0 then (xY ts).bind fun a ts => (wi jZ ts).bind fun _ ts => (xY ts).bind fun b ts => (wi yg ts).bind fun _ ts => .ok { c with apow := a, aheal := b } ts
 else (xY ts).bind fun a ts => (wi yg ts).bind fun _ ts => .ok { c with shield := a } ts
def fd (parts : zP -> Nat) (n : Nat) (at_ : Int) (ts : List yf) : R zP :=
 (kn ts).bind fun s ts =>
  (if isW V7 ts then (xY ts.tail).bind fun c ts => (xY ts).bind fun p ts => (wi jZ ts).bind fun _ ts => (xY ts).bind fun h ts => .ok (⟨s, true, c, p, h, 0, 0, 0, [], [], [], at_⟩ : zP) ts
   else (wi dI ts).bind fun _ ts => (xY ts).bind fun c ts => .ok ⟨s, false, c, 0, 0, 0, 0, 0, [], [], [], at_⟩ ts).bind fun c ts =>
  (wi gp ts).bind fun _ ts => wU cg (xp n) parts n [] c ts
def uH : Nat -> List Bt -> List yf -> R (List Bt)
 | 0, _, _ => .out
 | n + 1, acc, ts => (kn ts).bind fun s ts => if isW y9 ts then uH n (acc ++ [s]) ts.tail else .ok (acc ++ [s]) ts
def jo : List Bt := [ud, jG, vn, wP, vK]
def xJ (n : Nat) (s : Bt) (f : y6) (ts : List yf) : R y6 :=
 if s = ud then (xY ts).bind fun a ts => (wi yg ts).bind fun _ ts => .ok { f with least := a } ts
 else if s = jG then (xY ts).bind fun a ts => (wi yg ts).bind fun _ ts => .ok { f with most := a } ts
 else if s = vn then (xY ts).bind fun a ts => (wi yg ts).bind fun _ ts => .ok { f with copies := a } ts
 else if s = wP then (uH n [] ts).bind fun l ts => (wi yg ts).bind fun _ ts => .ok { f with banned := l } ts
 else (uH n [] ts).bind fun l ts => (wi yg ts).bind fun _ ts => .ok { f with single := l } ts
def Yf (n : Nat) (at_ : Int) (ts : List yf) : R y6 :=
 (kn ts).bind fun s ts => (wi gp ts).bind fun _ ts => wU jo (xJ n) (fun _ => 0) n [] ⟨s, 0, 0, 0, [], [], at_⟩ ts
def jJ (parts : zP -> Nat) (n0 : Nat) : Nat -> List zP -> List y6 -> List yf -> R ew
 | 0, _, _, _ => .out
 | n + 1, cs, fs, ts =>
   if (hd ts).kind = 0 then .ok ⟨cs, fs⟩ ts
   else if isW fa ts /\ fs.length = 0 then (if cs.length = 240 then fail 3 ts else (fd parts n0 (hd ts).at_ ts.tail).bind fun c ts => jJ parts n0 n (cs ++ [c]) fs ts)
   else if isW vY ts then (if fs.length = 240 then fail 3 ts else (Yf n0 (hd ts).at_ ts.tail).bind fun f ts => jJ parts n0 n cs (fs ++ [f]) ts)
   else fail 120 ts
end Tp
namespace Kd
open Go Go.Eng
def sV (s : Bt) : Value := .string (bs s)
def iV (n : Int) : Value := .int .i64 n
def U0 : Value := .tuple #[]
abbrev vQ (w : Value) : Value -> List yb -> Prop := fun v L' => v = w /\ L' = []
def yU (op : Int) : Bool := decide (op = 0) || decide (op = 1) || decide (op = 2) || decide (op = 3) || decide (op = 5)
def jD (w : Int) : Bool := decide (w = 0) || decide (w = 1)
inductive xq where
 | eff (x : zW)
 | num (x : zY)
 | cond (x : zI)
def uD : xq -> List xq
 | .eff (.mk op _ n _ c t e) => (if yU op then [.num n] else []) ++ (if op = 8 then .cond c :: (t.map .eff ++ e.map .eff) else [])
 | .num (.mk _ _ _ k) => k.map .num
 | .cond (.mk _ _ _ ns k) => ns.map .num ++ k.map .cond
inductive kj : xq -> List xq -> Prop
 | mk {p : xq} {ls : List (List xq)} (hl : ls.length = (uD p).length) (hk : ∀ (i : Nat) (h : i < (uD p).length), kj (uD p)[i] (ls[i]'(by omega))) : kj p (p :: ls.flatten)
def Ga (ps : List xq) (l : List xq) : Prop := ∃ ls : List (List xq), ∃ hl : ls.length = ps.length, (∀ (i : Nat) (h : i < ps.length), kj ps[i] (ls[i]'(by omega))) /\ l = ls.flatten
theorem Xj {ps : List xq} (h : ∀ (i : Nat) (hi : i < ps.length), ∃ l, kj ps[i] l) : ∃ ls : List (List xq), ∃ hl : ls.length = ps.length, ∀ (i : Nat) (h : i < ps.length), kj ps[i] (ls[i]'(by omega)) := by
 induction ps with
 | nil => exact ⟨[], rfl, fun i h => by cases h⟩
 | cons p r ih =>
   obtain ⟨l, hl⟩ := h 0 yA;obtain ⟨ls, e, hls⟩ := ih fun i hi => h (i + 1) (by simpa using hi);refine ⟨l :: ls, by simp [e], fun i hi => ?_⟩;cases i with
   | zero => exact hl
   | succ i => exact hls i (by simpa using hi)
theorem kj.ex {p : xq} (h : ∀ (i : Nat) (hi : i < (uD p).length), ∃ l, kj (uD p)[i] l) : ∃ l, kj p l := by
 obtain ⟨ls, e, hls⟩ := Xj h;exact ⟨_, .mk e hls⟩
variable {cs : Lv} {m : Mp}
theorem kj.num {x : zY} (h : xr m cs x) : ∃ l, kj (.num x) l := by
 induction h with
 | mk ho hln hm hr hv _ ih =>
   refine kj.ex fun i hi => ?_;simp only [uD, List.length_map] at hi;simp only [uD, List.getElem_map];exact ih i hi
theorem kj.cond {x : zI} (h : yP m cs x) : ∃ l, kj (.cond x) l := by
 induction h with
 | mk ho hw hn hla hma hra hva hka hlb hmb hrb hvb _ ih =>
   refine kj.ex fun i hi => ?_;simp only [uD, List.length_append, List.length_map] at hi;simp only [uD, List.getElem_append, List.length_map, List.getElem_map]
   split
   ·exact kj.num (hka _ za)
   ·exact ih _ za
theorem kj.eff {x : zW} (h : un m cs x) : ∃ l, kj (.eff x) l := by
 induction h with
 | @mk op who n name cond thn els ns cs A B la ca lb cb vs us ho hw hn hnm hc hla hma hra hva _ hlb hmb hrb hvb _ ih1 ih2 =>
   refine kj.ex fun i hi => ?_
   have key : ∀ p ∈ uD (.eff (.mk op who n name cond thn els)), ∃ l, kj p l := by
    intro p hp;simp only [uD, List.mem_append] at hp;rcases hp with hp | hp
    ·split at hp
     ·rw [List.mem_singleton.1 hp]; exact kj.num hn
     ·cases hp
    ·split at hp
     ·rcases List.mem_cons.1 hp with rfl | hp
      ·exact kj.cond hc
      ·rcases List.mem_append.1 hp with hp | hp
       ·obtain ⟨x, hx, rfl⟩ := List.mem_map.1 hp;obtain ⟨j, hj, rfl⟩ := List.getElem_of_mem hx;exact ih1 j hj
       ·obtain ⟨x, hx, rfl⟩ := List.mem_map.1 hp;obtain ⟨j, hj, rfl⟩ := List.getElem_of_mem hx;exact ih2 j hj
     ·cases hp
   exact key _ (List.getElem_mem hi)
def cV {σ : Type} (f : xq -> σ -> σ × Bool) : List xq -> σ -> σ × Bool
 | [], s => (s, true)
 | p :: r, s => if (f p s).2 then cV f r (f p s).1 else ((f p s).1, false)
variable {σ : Type} {f : xq -> σ -> σ × Bool}
theorem Qq : ∀ {a b : List xq} {s : σ}, cV f (a ++ b) s = if (cV f a s).2 then cV f b (cV f a s).1 else ((cV f a s).1, false)
 | [], b, s => by simp [cV]
 | p :: r, b, s => by
   simp only [List.cons_append, cV]
   split
   ·exact Qq
   ·simp
variable {i : Nat} {ls : List (List xq)}
theorem ZJ (hi : i < ls.length) (s : σ) (h : (cV f (ls.take i).flatten s).2 = true) : cV f (ls.take (i + 1)).flatten s = cV f ls[i] (cV f (ls.take i).flatten s).1 := by
 rw [List.take_add_one, List.getElem?_eq_getElem hi, Option.toList_some, List.flatten_append, Qq, if_pos h]
 simp
theorem ZI (s : σ) (h : (cV f (ls.take i).flatten s).2 = false) : cV f ls.flatten s = cV f (ls.take i).flatten s := by
 conv => lhs; rw [<- List.take_append_drop i ls]
 rw [List.flatten_append, Qq, h];generalize cV f (ls.take i).flatten s = q at h;obtain ⟨a, b⟩ := q;dsimp only at h;subst h
 rfl
theorem ZK {I : σ -> Prop} (hI : ∀ p s, I s -> (f p s).2 = true -> I (f p s).1) : ∀ {l : List xq} {s : σ}, I s -> (cV f l s).2 = true -> I (cV f l s).1
 | [], s, h, _ => h
 | p :: r, s, h, h2 => by
   unfold cV at h2 ⊢
   split
   ·rename_i h3
    rw [if_pos h3] at h2;exact ZK hI (hI p s h h3) h2
   ·rename_i h3
    rw [if_neg h3] at h2;cases h2
def Ky (_ : xq) (s : Int) : Int × Bool := (s + 1, decide (s + 1 < 1073741824))
theorem Oc (p : xq) (s : Int) (h : 0 <= s /\ s < 1073741824) (h2 : (Ky p s).2 = true) : 0 <= (Ky p s).1 /\ (Ky p s).1 < 1073741824 := by
 have h3 : s + 1 < 1073741824 := of_decide_eq_true h2;show 0 <= s + 1 /\ s + 1 < 1073741824;omega
theorem I0 : ∀ {l : List xq} {s : Int}, s + l.length < 1073741824 -> cV Ky l s = (s + l.length, true)
 | [], s, _ => by simp [cV]
 | p :: r, s, h => by
   simp only [List.length_cons] at h;have h1 : (Ky p s).2 = true := decide_eq_true za;show (if (Ky p s).2 = true then cV Ky r (s + 1) else _) = _;rw [if_pos h1, I0 za];simp only [List.length_cons, Prod.mk.injEq, and_true];omega
end Kd
namespace Kd
open Go Go.Eng
def zV : zY -> Nat
 | .mk _ _ _ k => 1 + (k.attach.map fun x => zV x.1).sum
termination_by x => SizeOf.sizeOf x
decreasing_by
 have := List.sizeOf_lt_of_mem x.2;simp only [zY.mk.sizeOf_spec];omega
theorem fS (op n who : Int) (k : List zY) : zV (.mk op n who k) = 1 + (k.map zV).sum := by
 rw [zV, List.attach_map_val (f := zV)]
def zX : zI -> Nat
 | .mk _ _ _ ns k => 1 + (ns.map zV).sum + (k.attach.map fun x => zX x.1).sum
termination_by x => SizeOf.sizeOf x
decreasing_by
 have := List.sizeOf_lt_of_mem x.2;simp only [zI.mk.sizeOf_spec];omega
theorem vH (op who : Int) (name : Bt) (ns : List zY) (k : List zI) : zX (.mk op who name ns k) = 1 + (ns.map zV).sum + (k.map zX).sum := by
 rw [zX, List.attach_map_val (f := zX)]
def vA : zW -> Nat
 | .mk op _ n _ c t e => 1 + (if yU op then zV n else 0) + (if op = 8 then zX c + (t.attach.map fun x => vA x.1).sum + (e.attach.map fun x => vA x.1).sum else 0)
termination_by x => SizeOf.sizeOf x
decreasing_by
 all_goals
  have := List.sizeOf_lt_of_mem x.2;simp only [zW.mk.sizeOf_spec];omega
theorem gL (op who : Int) (n : zY) (name : Bt) (c : zI) (t e : List zW) : vA (.mk op who n name c t e) = 1 + (if yU op then zV n else 0) + (if op = 8 then zX c + (t.map vA).sum + (e.map vA).sum else 0) := by
 rw [vA, List.attach_map_val (f := vA), List.attach_map_val (f := vA)]
def yM (l : List zW) : Nat := (l.map vA).sum
def aC : xq -> Nat
 | .eff x => vA x
 | .num x => zV x
 | .cond x => zX x
theorem Zw (l : List zW) : (l.map xq.eff).map aC = l.map vA := by rw [List.map_map]; rfl
theorem IN (l : List zY) : (l.map xq.num).map aC = l.map zV := by rw [List.map_map]; rfl
theorem Nj (l : List zI) : (l.map xq.cond).map aC = l.map zX := by rw [List.map_map]; rfl
theorem M1 (p : xq) : aC p = 1 + ((uD p).map aC).sum := by
 cases p with
 | eff x =>
   obtain ⟨op, who, n, name, c, t, e⟩ := x;show vA _ = _;rw [gL];unfold uD;rw [List.map_append, List.sum_append]
   have h1 : ((if yU op then [xq.num n] else []).map aC).sum = if yU op then zV n else 0 := by
    split <;> simp [aC]
   have h2 : ((if op = 8 then xq.cond c :: (t.map .eff ++ e.map .eff) else []).map aC).sum = if op = 8 then zX c + (t.map vA).sum + (e.map vA).sum else 0 := by
    split
    ·rw [List.map_cons, List.map_append, Zw, Zw, List.sum_cons, List.sum_append];show zX c + _ = _;omega
    ·rfl
   rw [h1, h2];omega
 | num x =>
   obtain ⟨op, n, who, k⟩ := x;show zV _ = _;unfold uD;rw [fS, IN]
 | cond x =>
   obtain ⟨op, who, name, ns, k⟩ := x;show zX _ = _;unfold uD;rw [vH, List.map_append, IN, Nj, List.sum_append];omega
variable {l : List xq}
theorem NU {p : xq} (h : kj p l) : l.length = aC p := by
 induction h with
 | @mk p ls hl hk ih =>
   rw [M1, List.length_cons, List.length_flatten]
   have : ls.map List.length = (uD p).map aC := by
    apply List.ext_getElem
    ·simp [hl]
    ·intro i h1 h2;simp only [List.getElem_map];simp only [List.length_map] at h2;exact ih i h2
   rw [this];omega
theorem Ld {ps : List xq} (h : Ga ps l) : l.length = (ps.map aC).sum := by
 obtain ⟨ls, hl, hk, rfl⟩ := h;rw [List.length_flatten]
 congr 1
 apply List.ext_getElem
 ·simp [hl]
 ·intro i h1 h2;simp only [List.getElem_map];simp only [List.length_map] at h2;exact NU (hk i h2)
theorem Mx {α : Type} (f : α -> Nat) {l : List α} {i : Nat} (h : i < l.length) : ((l.take (i + 1)).map f).sum = ((l.take i).map f).sum + f l[i] := by
 rw [List.take_add_one, List.getElem?_eq_getElem h, List.map_append, List.sum_append]
 simp
end Kd
namespace Tp
open Go Go.Eng Wd Kd
variable {s : Bt} {ts : List yf}
theorem NC (h : isW s ts = true) : ∃ w r, ts = w :: r := by
 cases ts with
 | nil => simp [isW, hd] at h
 | cons w r => exact ⟨w, r, rfl⟩
theorem yG (h : isW s ts = true) : ts.tail.length + 1 = ts.length := by
 obtain ⟨w, r, rfl⟩ := NC h
 rfl
theorem ZD (h : (hd ts).kind ≠ 0) : ts.tail.length + 1 = ts.length := by
 cases ts with
 | nil => exact absurd rfl h
 | cons w r => rfl
def Ends {α : Type} (r : R α) (w : α -> Nat) (n : Nat) : Prop := r ≠ .out /\ ∀ x ts', r = .ok x ts' -> w x + ts'.length <= n
variable {n : Nat} {α : Type} {w : α -> Nat}
theorem Ends.fail {e : Int} : Ends (fail e ts) w n := ⟨(fun h => by cases h), fun x ts' h => by cases h⟩
theorem Ends.ok {x : α} (h : w x + ts.length <= n) : Ends (.ok x ts) w n := ⟨(fun h => by cases h), fun y ts' e => by cases e; exact h⟩
variable {n' : Nat} {r : R α}
theorem Ends.mono (h : Ends r w n) (hn : n <= n') : Ends r w n' := ⟨h.1, fun x ts e => Nat.le_trans (h.2 x ts e) hn⟩
variable {β : Type}
theorem Ends.bind {f : α -> List yf -> R β} {w' : β -> Nat} (h : Ends r w n) (hf : ∀ x ts, w x + ts.length <= n -> Ends (f x ts) w' n') : Ends (r.bind f) w' n' := by
 cases r with
 | ok x ts => exact hf x ts (h.2 x ts rfl)
 | bad e a => exact ⟨(fun h => by cases h), fun x ts' h => by cases h⟩
 | out => exact absurd rfl h.1
theorem Ends.ite {c : Prop} [Decidable c] {a b : R α} (h1 : c -> Ends a w n) (h2 : ¬ c -> Ends b w n) : Ends (if c then a else b) w n := by
 split
 ·exact h1 ‹_›
 ·exact h2 ‹_›
abbrev w0 {α : Type} : α -> Nat := fun _ => 0
theorem zK : Ends (wi s ts) (fun _ => 1) ts.length := Ends.ite (fun h => Ends.ok (by have := yG h; omega)) fun _ => Ends.fail
theorem fh : ∀ {l : List Bt} {ts : List yf}, Ends (eM l ts) (fun _ => l.length) ts.length
 | [], ts => Ends.ok yA
 | s :: r, ts => zK.bind fun _ ts' h => ⟨(fh (l := r)).1, fun x ts2 e => by have := (fh (l := r)).2 x ts2 e; simp only [List.length_cons] at *; omega⟩
theorem yY {ts : List yf} : Ends (xY ts) (fun _ => 1) ts.length := Ends.ite (fun h => Ends.ok (by have := ZD (ts := ts) za; omega)) fun _ => Ends.fail
theorem uq {ts : List yf} : Ends (kn ts) (fun _ => 1) ts.length := Ends.ite (fun h => Ends.ok (by have := ZD (ts := ts) za; omega)) fun _ => Ends.fail
theorem vU : Ends (j4 ts) (fun _ => 1) ts.length := Ends.ite (fun h => Ends.ok (by have := yG h; omega)) fun _ => Ends.ite (fun h => Ends.ok (by have := yG h; omega)) fun _ => Ends.fail
theorem Ze : Ends (Xu ts) (fun _ => 1) ts.length := Ends.ite (fun h => Ends.ok (by have := yG h; omega)) fun _ => vU
variable {d : Nat}
theorem XJ {f : Unit -> List yf -> R β} {w : β -> Nat} (h : d + 1 <= 8 -> Ends (f () ts) w n) : Ends ((Wl d ts).bind f) w n := by
 unfold Wl
 split
 ·exact Ends.fail
 ·exact h za
variable {signs : List (Bt × Int)}
theorem WP {s : Bt × Int} (h : (signs.find? fun s => isW s.1 ts) = some s) : isW s.1 ts = true := List.find?_some (p := fun s : Bt × Int => isW s.1 ts) h
variable {k : Nat} {one : List yf -> R α} {put : Int -> α -> α -> α}
theorem V8 (ho : ∀ ts, ts.length < k -> Ends (one ts) w ts.length) (hw : ∀ op a b, w (put op a b) = 1 + w a + w b) :
  ∀ (n : Nat) (x : α) (ts : List yf), ts.length < n -> ts.length < k -> Ends (wM one signs put n x ts) w (w x + ts.length)
 | 0, _, ts, h, _ => by cases h
 | n + 1, x, ts, h, hk => by
   unfold wM
   split
   ·exact Ends.ok (Nat.le_refl _)
   ·rename_i s hs
    have hl := yG (WP hs);refine (ho ts.tail za).bind fun y ts' h1 => ?_;refine (V8 ho hw n _ ts' za za).mono ?_;rw [hw];omega
theorem eG (ho : ∀ ts, ts.length < k -> Ends (one ts) w ts.length) (hw : ∀ op a b, w (put op a b) = 1 + w a + w b) (n : Nat) (ts : List yf) (h : ts.length < n) (hk : ts.length < k) : Ends (qk one signs put n ts) w ts.length := by
 unfold qk;exact (ho ts hk).bind fun x ts' h1 => (V8 ho hw n x ts' za za).mono h1
theorem Zu (x : zY) : 1 <= zV x := by obtain ⟨op, n, who, k⟩ := x; rw [fS]; omega
theorem vC (x : zI) : 1 <= zX x := by obtain ⟨op, w, s, n, k⟩ := x; rw [vH]; omega
theorem k7 (op : Int) (a b : zY) : zV (vz op a b) = 1 + zV a + zV b := by unfold vz; rw [fS]; simp; omega
theorem ug (op n who : Int) : zV (qs op n who) = 1 := by unfold qs; rw [fS]; rfl
theorem bP (op : Int) (a b : zI) : zX (qL op a b) = 1 + zX a + zX b := by unfold qL; rw [vH]; simp; omega
variable {sum : Nat -> List yf -> R zY}
theorem QL {two : Bool} (hs : ∀ d ts, ts.length < k -> Ends (sum d ts) zV ts.length) (ts : List yf) (h : ts.length < k + 1) :
  Ends (JQ sum two d ts) (fun x => zV x.1 + 1 + if two then zV x.2 else 0) ts.length := by
 unfold JQ;refine Ends.ite (fun _ => XJ fun _ => zK.bind fun _ ts2 h2 => (hs _ ts2 za).bind fun a ts3 h3 => ?_) fun _ => Ends.fail;cases two with
 | false =>
   rw [if_neg zb];exact zK.bind fun _ ts4 h4 => Ends.ok (by simp only [if_neg (by decide : ¬ false = true)]; omega)
 | true =>
   rw [if_pos rfl];exact zK.bind fun _ ts4 h4 => (hs _ ts4 za).bind fun b ts5 h5 => zK.bind fun _ ts6 h6 => Ends.ok (by simp only [if_pos]; omega)
theorem Wm (hs : ∀ d ts, ts.length < k -> Ends (sum d ts) zV ts.length) (ts : List yf) (h : ts.length < k + 1) : Ends (ja sum d ts) zV ts.length := by
 unfold ja;refine Ends.ite (fun _ => (QL (two := false) hs ts h).bind fun x ts1 h1 => Ends.ok (by simp at h1; omega)) fun _ => Ends.ite (fun hk => Ends.ok (by have := ZD (ts := ts) za; rw [ug]; omega)) fun _ => ?_
 split
 ·rename_i s hf
  have hl := yG (WP hf);exact zK.bind fun _ ts1 h1 => vU.bind fun w ts2 h2 => zK.bind fun _ ts3 h3 => Ends.ok (by rw [ug]; omega)
 ·refine Ends.ite (fun hw => fh.bind fun _ ts1 h1 => Ends.ok (by have := yG hw; rw [ug]; omega)) fun _ => Ends.ite (fun hw => fh.bind fun _ ts1 h1 => Ends.ok (by have := yG hw; rw [ug]; omega)) fun _ =>
   Ends.ite (fun hw => fh.bind fun _ ts1 h1 => Ends.ok (by have := yG hw; rw [ug]; omega)) fun _ => ?_
  refine Ends.ite (fun hw => ?_) fun _ => Ends.ite (fun hw => ?_) fun _ => Ends.fail
  ·have hl := yG hw;exact (QL (two := true) hs ts.tail za).bind fun x ts1 h1 => Ends.ok (by rw [k7]; simp at h1; omega)
  ·have hl := yG hw;exact (QL (two := true) hs ts.tail za).bind fun x ts1 h1 => Ends.ok (by rw [k7]; simp at h1; omega)
theorem uo : ∀ (n d : Nat) (ts : List yf), ts.length < n -> Ends (xa n d ts) zV ts.length
 | 0, _, _, h => by cases h
 | n + 1, d, ts, h => by
   show Ends (qk (ai (xa n) (n + 1) d) qo vz (n + 1) ts) zV ts.length;refine eG (k := n + 1) (fun ts h => ?_) k7 (n + 1) ts h h;exact eG (k := n + 1) (fun ts h => Wm (uo n) ts h) k7 (n + 1) ts h h
theorem bp {cond : Nat -> List yf -> R zI} (hs : ∀ d ts, ts.length < k + 1 -> Ends (sum d ts) zV ts.length) (hc : ∀ d ts, ts.length < k -> Ends (cond d ts) zX ts.length) :
  ∀ (n d : Nat) (ts : List yf), ts.length < n -> ts.length < k + 1 -> Ends (wL sum cond n d ts) zX ts.length
 | 0, _, _, h, _ => by cases h
 | n + 1, d, ts, h, hk => by
   unfold wL;refine Ends.ite (fun hw => XJ fun _ => ?_) fun _ => Ends.ite (fun hw => XJ fun _ => ?_) fun _ => Ends.ite (fun hw => ?_) fun _ => ?_
   ·have hl := yG hw;exact (bp hs hc n (d + 1) ts.tail za za).bind fun x ts1 h1 => Ends.ok (by rw [vH]; simp; omega)
   ·have hl := yG (Bool.and_eq_true_iff.1 hw).1;exact (hc (d + 1) ts.tail za).bind fun x ts1 h1 => zK.bind fun _ ts2 h2 => Ends.ok za
   ·have hl := yG hw;exact zK.bind fun _ ts1 h1 => vU.bind fun w ts2 h2 => zK.bind fun _ ts3 h3 => uq.bind fun s ts4 h4 => zK.bind fun _ ts5 h5 => Ends.ok (by rw [vH]; simp; omega)
   ·refine (hs d ts hk).bind fun a ts1 h1 => ?_
    split
    ·rename_i s hf
     have hl := yG (WP hf);exact (hs d _ za).bind fun b ts2 h2 => Ends.ok (by rw [vH]; simp; omega)
    ·exact Ends.fail
theorem eY : ∀ (n d : Nat) (ts : List yf), ts.length < n -> Ends (xL n d ts) zX ts.length
 | 0, _, _, h => by cases h
 | n + 1, d, ts, h => by
   show Ends (qk (aj (xL n) (n + 1) d) kP qL (n + 1) ts) zX ts.length;refine eG (k := n + 1) (fun ts h => ?_) bP (n + 1) ts h h;exact eG (k := n + 1) (fun ts h => bp (uo (n + 1)) (eY n) (n + 1) d ts h h) bP (n + 1) ts h h
theorem cY (op who : Int) (n : zY) (name : Bt) (h : op ≠ 8) : vA (qm op who n name) = 1 + if yU op then zV n else 0 := by
 unfold qm;rw [gL, if_neg h]
 rfl
theorem jF {op who : Int} {n : zY} {name : Bt} (h : op ≠ 8) : Ends (v6 (qm op who n name) ts) vA (1 + (if yU op then zV n else 0) + ts.length) := by
 unfold v6;exact zK.bind fun _ ts1 h1 => Ends.ok (by rw [cY _ _ _ _ h]; omega)
theorem Kn {blk : Nat -> List yf -> R (List zW)} (hk : k < n) (hb : ∀ d ts, ts.length < k -> Ends (blk d ts) yM ts.length) (ts : List yf) (h : ts.length < k + 1) : Ends (ky blk n d ts) vA ts.length := by
 have hs : ∀ d ts, ts.length < k + 1 -> Ends (xa n d ts) zV ts.length := fun d ts h => uo n d ts za;unfold ky
 refine Ends.ite (fun hw => ?_) fun _ => Ends.ite (fun hw => ?_) fun _ => Ends.ite (fun hw => ?_) fun _ => Ends.ite (fun hw => ?_) fun _ => Ends.ite (fun hw => ?_) fun _ => Ends.ite (fun hw => ?_) fun _ => Ends.ite (fun hw => ?_) fun _ => Ends.ite (fun hw => ?_) fun _ => Ends.ite (fun hw => ?_) fun _ => Ends.fail
 all_goals have hl := yG hw
 ·exact Ze.bind fun w ts1 h1 => (hs d ts1 za).bind fun x ts2 h2 => (jF zb).mono (by simp [yU]; omega)
 ·exact Ze.bind fun w ts1 h1 => (hs d ts1 za).bind fun x ts2 h2 => (jF zb).mono (by simp [yU]; omega)
 ·exact vU.bind fun w ts1 h1 => (hs d ts1 za).bind fun x ts2 h2 => (jF zb).mono (by simp [yU]; omega)
 ·exact (hs d _ za).bind fun x ts2 h2 => (jF zb).mono (by simp [yU]; omega)
 ·exact (hs d _ za).bind fun x ts2 h2 => (jF zb).mono (by simp [yU]; omega)
 ·exact vU.bind fun w ts1 h1 => (jF zb).mono (by simp [yU]; omega)
 ·exact vU.bind fun w ts1 h1 => (jF zb).mono (by simp [yU]; omega)
 ·exact uq.bind fun w ts1 h1 => (jF zb).mono (by simp [yU]; omega)
 ·refine XJ fun _ => (eY n (d + 1) ts.tail za).bind fun c ts1 h1 => ?_;have hc := vC c
  exact (hb (d + 1) ts1 za).bind fun t ts2 h2 => zK.bind fun _ ts3 h3 => (hb (d + 1) ts3 za).bind fun e ts4 h4 => Ends.ok (by
   rw [gL]; unfold yM at h2 h4; simp [yU]; omega)
theorem Uf (ho : ∀ ts, ts.length < k -> Ends (one ts) w ts.length) (hw : ∀ x, 1 <= w x) : ∀ (n : Nat) (acc : List α) (ts : List yf), ts.length < n -> ts.length < k ->
  Ends (fR one n acc ts) (fun l => (l.map w).sum + 1) ((acc.map w).sum + ts.length)
 | 0, _, _, h, _ => by cases h
 | n + 1, acc, ts, h, hk => by
   unfold fR;refine Ends.ite (fun hw => Ends.ok (by have := yG hw; omega)) fun _ => (ho ts hk).bind fun x ts1 h1 => ?_;have hx := hw x;refine (Uf ho hw n (acc ++ [x]) ts1 za za).mono ?_
   simp
   omega
theorem uY (x : zW) : 1 <= vA x := by obtain ⟨op, w, n, s, c, t, e⟩ := x; rw [gL]; omega
theorem uL : ∀ (n d : Nat) (ts : List yf), ts.length < n -> Ends (xo n d ts) yM ts.length
 | 0, _, _, h => by cases h
 | n + 1, d, ts, h => by
   show Ends ((wi gp ts).bind fun _ ts => fR (ky (xo n) (n + 1) d) (n + 1) [] ts) yM ts.length;refine zK.bind fun _ ts1 h1 => ?_;have := Uf (one := ky (xo n) (n + 1) d) (w := vA) (k := n + 1) (fun ts h => Kn (k := n) za (uL n) ts h) uY (n + 1) [] ts1 za za
   exact ⟨this.1, fun x ts' e => by have := this.2 x ts' e; unfold yM; simp at this ⊢; omega⟩
def yD (x : zP) : Nat := yM x.played + yM x.dead + yM x.dawn
theorem dL {σ : Type} {keys : List Bt} {read : Bt -> σ -> List yf -> R σ} {parts : σ -> Nat} (hr : ∀ s c ts, ts.length < k -> Ends (read s c ts) (fun _ => 0) ts.length) :
  ∀ (n : Nat) (seen : List Bt) (c : σ) (ts : List yf), ts.length < n -> ts.length < k + 1 -> Ends (wU keys read parts n seen c ts) (fun _ => 1) ts.length
 | 0, _, _, _, h, _ => by cases h
 | n + 1, seen, c, ts, h, hk => by
   unfold wU;refine Ends.ite (fun hw => Ends.ite (fun _ => Ends.fail) fun _ => Ends.ok (by have := yG hw; omega)) fun _ => Ends.ite (fun hw => Ends.ite (fun _ => Ends.fail) fun _ => ?_) fun _ => Ends.fail;have hl := ZD (ts := ts) za;exact (hr _ c ts.tail za).bind fun c2 ts1 h1 => (dL hr n _ c2 ts1 za za).mono za
theorem VN {c : zP} (h : ts.length < n) : Ends (xp n s c ts) (fun _ => 0) ts.length := by
 unfold xp;refine Ends.ite (fun _ => ?_) fun _ => Ends.ite (fun _ => ?_) fun _ => Ends.ite (fun _ => ?_) fun _ => Ends.ite (fun _ => ?_) fun _ => ?_
 ·exact (uL n 0 ts h).bind fun l ts1 h1 => Ends.ok za
 ·exact (uL n 0 ts h).bind fun l ts1 h1 => Ends.ok za
 ·exact (uL n 0 ts h).bind fun l ts1 h1 => Ends.ok za
 ·exact yY.bind fun a ts1 h1 => zK.bind fun _ ts2 h2 => yY.bind fun b ts3 h3 => zK.bind fun _ ts4 h4 => Ends.ok za
 ·exact yY.bind fun a ts1 h1 => zK.bind fun _ ts2 h2 => Ends.ok za
variable {at_ : Int}
theorem UD {parts : zP -> Nat} {n : Nat} (h : ts.length < n) : Ends (fd parts n at_ ts) (fun _ => 1) ts.length := by
 unfold fd;refine uq.bind fun s ts1 h1 => Ends.bind (w := fun _ => 0) (n := ts1.length) (Ends.ite (fun hw => ?_) fun _ => ?_) fun c ts2 h2 => zK.bind fun _ ts3 h3 => (dL (k := n) (fun s c ts h => VN h) n [] c ts3 za za).mono za
 ·have hl := yG hw;exact yY.bind fun a ts2 h2 => yY.bind fun b ts3 h3 => zK.bind fun _ ts4 h4 => yY.bind fun c ts5 h5 => Ends.ok za
 ·exact zK.bind fun _ ts4 h4 => yY.bind fun c ts5 h5 => Ends.ok za
theorem fg : ∀ (n : Nat) (acc : List Bt) (ts : List yf), ts.length < n -> Ends (uH n acc ts) (fun _ => 0) ts.length
 | 0, _, _, h => by cases h
 | n + 1, acc, ts, h => by
   unfold uH;exact uq.bind fun s ts1 h1 => Ends.ite (fun hw => (fg n _ ts1.tail (by have := yG hw; omega)).mono (by have := yG hw; omega)) fun _ => Ends.ok za
theorem Qv {c : y6} (h : ts.length < n) : Ends (xJ n s c ts) (fun _ => 0) ts.length := by
 unfold xJ;refine Ends.ite (fun _ => ?_) fun _ => Ends.ite (fun _ => ?_) fun _ => Ends.ite (fun _ => ?_) fun _ => Ends.ite (fun _ => ?_) fun _ => ?_
 ·exact yY.bind fun a ts1 h1 => zK.bind fun _ ts2 h2 => Ends.ok za
 ·exact yY.bind fun a ts1 h1 => zK.bind fun _ ts2 h2 => Ends.ok za
 ·exact yY.bind fun a ts1 h1 => zK.bind fun _ ts2 h2 => Ends.ok za
 ·exact (fg n [] ts h).bind fun a ts1 h1 => zK.bind fun _ ts2 h2 => Ends.ok za
 ·exact (fg n [] ts h).bind fun a ts1 h1 => zK.bind fun _ ts2 h2 => Ends.ok za
theorem ZM (h : ts.length < n) : Ends (Yf n at_ ts) (fun _ => 1) ts.length := by
 unfold Yf;exact uq.bind fun s ts1 h1 => zK.bind fun _ ts3 h3 => (dL (k := n) (fun s c ts h => Qv h) n [] _ ts3 za za).mono za
end Tp
section
open Wd Tp Kd
def bj (t : Bt) : Prop := ∀ b ∈ t, b.toNat < 128
variable {t : Bt}
theorem Ow (h : bj t) (i : Nat) : xI t i < 128 := by
 unfold xI;by_cases hi : i < t.length
 ·rw [List.getD_eq_getElem?_getD, List.getElem?_eq_getElem hi];exact h _ (List.getElem_mem hi)
 ·rw [List.getD_eq_getElem?_getD, List.getElem?_eq_none za]
  decide
variable {p : Nat}
theorem Uu (h : xI t p < 128) : gM t p = (xI t p, 1) := eX (u6 h)
variable {s : Bt}
theorem Lj (h : (gM s p).1 < 128) : gM s p = (xI s p, 1) /\ xI s p < 128 := by
 unfold gM at h ⊢;cases hr : rn s p with
 | none => rw [hr] at h; simp at h
 | some r =>
   obtain ⟨x, k⟩ := r;rw [hr] at h
   simp at h
   obtain ⟨h1, h2, h3, h4, h5⟩ := ue hr
   have hk : k = 1 := by
    by_cases hk : k = 1
    ·exact hk
    ·have := (h5 za).1; omega
   subst hk;obtain ⟨rfl, h6⟩ := h4 rfl;exact ⟨rfl, h6⟩
theorem UX (hs : p < s.length) (ht : p < t.length) (h : s.take p = t.take p) (hb : xI s p = xI t p) : s.take (p + 1) = t.take (p + 1) := by
 have e : s[p] = t[p] := by
  have h1 : (s.getD p 0).toNat = (t.getD p 0).toNat := hb;rw [List.getD_eq_getElem?_getD, List.getD_eq_getElem?_getD, List.getElem?_eq_getElem hs, List.getElem?_eq_getElem ht] at h1;exact UInt8.toNat_inj.1 h1
 rw [List.take_succ_eq_append_getElem hs, List.take_succ_eq_append_getElem ht, h, e]
theorem MH {m : Mp} {s : Bt} (ha : bj t) (hl : t.length <= 1000) : CS Tryz.prog 75 [.string (bs s), .string (bs t)] m [] (vQ (.bool (decide (s = t)))) := by
 refine yQ [.tmp 4] Tryz.func75 rfl rfl rfl ?_;by_cases hlen : s.length = t.length
 rotate_left
 ·have hne : s ≠ t := fun e => hlen (by rw [e]);rw [decide_eq_false hne];have hlen' : ¬ ((s.length : Nat) : Int) = (t.length : Nat) := by omega
  refine tr 9 ?_;refine pe 1 (yT rfl ei) ?_;refine pe 0 (yT rfl ei) ?_;refine yr 10 ?_;exact xE zj ⟨rfl, rfl⟩
 refine tr 9 ?_;refine pe 1 (yT rfl ei) ?_;refine pe 0 (yT rfl ei) ?_;refine zH 9 ?_;refine zg (XT ei rfl rfl (fun b1 => ?_)) rfl;refine vr 3 ?_
 refine yv (α := Nat) (fun p => [(0, .string (bs s)), (1, .string (bs t)), (15, .pointer (some ⟨b1, 0, none⟩))]) (fun p => [db b1 s p]) (fun p => p <= s.length /\ s.take p = t.take p) (fun p => s.length - p) 0 YV zx ⟨Nat.zero_le _, rfl⟩ ?_;rintro p ⟨hp, he⟩
 try dsimp only at hp he
 try dsimp only
 by_cases hlt : p < s.length
 rotate_left
 ·have hpe : p = s.length := by omega
  subst hpe;rw [List.take_length, hlen, List.take_length] at he;subst he;rw [decide_eq_true rfl];refine tr 2 ?_;refine zg (YQ rfl (by first | assumption | omega) .here rfl ?_) rfl;refine vr 7 ?_;refine zm ?_;refine zk ?_;refine qt 7 ?_;exact xE zj ⟨rfl, rfl⟩
 have hd1 := eW s p;have hd2 := eW (t.drop p) 0;have hbt := Ow ha p;have hd3 : gM (t.drop p) 0 = (xI t p, 1) := by rw [Kp]; exact Uu hbt
 rw [hd3] at hd2;have hdl : 0 < (t.drop p).length := by rw [List.length_drop]; omega
 have hx := bN s p;refine tr 2 ?_;refine zg (Z3 rfl (by first | assumption | omega) xi .here rfl ?_) rfl;refine vr 20 ?_;refine pe 0 (ae _ ei rfl rfl rfl za) ?_;refine zg (XT ei rfl rfl (fun b2 => ?_)) rfl;refine vr 3 ?_
 refine yv (α := Unit) (fun _ => [(0, .string (bs s)), (1, .string (bs t)), (15, .pointer (some ⟨b1, 0, none⟩)), (6, .int .i32 ((gM s p).1 : Nat)), (23, .pointer (some ⟨b2, 0, none⟩))]) (fun _ => [db b2 (t.drop p) 0, db b1 s (p + (gM s p).2)]) (fun _ => True) (fun _ => 0) () vX zx trivial ?_;rintro ⟨⟩ -;by_cases hr : (gM s p).1 = xI t p
 ·obtain ⟨e1, e2⟩ := Lj (s := s) (p := p) za;have e3 : p + (gM s p).2 = p + 1 := by rw [e1]
  have e4 : xI s p = xI t p := by rw [e1] at hr; exact hr
  refine tr 2 ?_;refine zg (Z3 rfl (by first | assumption | omega) xi .here rfl ?_) rfl;refine vr 19 ?_;refine zH 7 ?_;refine zm ?_;refine zk ?_;refine qD ?_;exact QR (p + 1) (by rw [<- e3]; exact .cons .h1 (.nil _)) ⟨by omega, UX hlt za he e4⟩ za
 ·have hne : s ≠ t := fun e => hr (by rw [e, Uu hbt]);have hr' : ¬ (((gM s p).1 : Nat) : Int) = (xI t p : Nat) := by omega
  rw [decide_eq_false hne];refine tr 2 ?_;refine zg (Z3 rfl (by first | assumption | omega) xi .here rfl ?_) rfl;refine vr 19 ?_;refine yr 11 ?_;refine zu ?_;refine zp ?_;refine zp ?_;refine zu ?_;refine zp ?_;refine zD ?_;exact xE zj ⟨rfl, rfl⟩
end
section
open Wd Tp Kd
theorem US : ∀ {ws : List yf} {i : Nat} (h : i < ws.length), ((Ya ws).drop (i * 4)).take 4 = wV ws[i]
 | w :: r, 0, _ => by simp [Ya, wV]
 | w :: r, i + 1, h => by
   have ih := US (ws := r) (i := i) (by simpa using h)
   have : (Ya (w :: r)).drop ((i + 1) * 4) = (Ya r).drop (i * 4) := by
    simp only [Ya, List.flatMap_cons];rw [show (i + 1) * 4 = (wV w).length + i * 4 by simp [wV]; omega, <- List.drop_drop, List.drop_left]
   rw [this, ih]
   rfl
inductive gm : List yf -> Prop
 | last {w : yf} (h : w.kind = 0) : gm [w]
 | cons {w : yf} {r : List yf} (h : w.kind ≠ 0) (h2 : (w.kind = 3 -> w.text ∈ k9) /\ (w.kind = 1 -> w.text ≠ zL)) (ht : w.text.length <= 65536) (hr : gm r) : gm (w :: r)
theorem gm.ne {ts : List yf} (h : gm ts) : ts ≠ [] := by cases h <;> simp
theorem gm.tail {ts : List yf} (h : gm ts) (hk : (hd ts).kind ≠ 0) : gm ts.tail := by
 cases h with
 | last h => exact absurd h hk
 | cons _ _ _ hr => exact hr
theorem gm.text {ts : List yf} (h : gm ts) (hk : (hd ts).kind ≠ 0) : (hd ts).text.length <= 65536 := by
 cases h with
 | last h => exact absurd h hk
 | cons _ _ ht _ => exact ht
theorem gm.mark {ts : List yf} (h : gm ts) (hk : (hd ts).kind = 3) : (hd ts).text ∈ k9 := by
 cases h with
 | @last w h =>
   have h3 : w.kind = 3 := hk;omega
 | cons _ hm _ _ => exact hm.1 hk
theorem gm.open {ts : List yf} (h : gm ts) (hk : isW zL ts = true) : (hd ts).kind = 3 /\ (hd ts).text = zL := by
 unfold isW at hk;simp only [Bool.and_eq_true, Bool.or_eq_true, decide_eq_true_eq] at hk;obtain ⟨h1, h2⟩ := hk;refine ⟨?_, h2⟩;rcases h1 with h1 | h1
 ·exfalso
  cases h with
  | @last w h =>
    have : w.kind = 1 := h1;omega
  | cons _ hm _ _ => exact hm.2 h1 h2
 ·exact h1
structure jT (ws : List yf) (at_ : Nat) (ts : List yf) : Prop where
 eq : ws.drop at_ = ts
 good : gm ts
 small : ws.length <= 65537
theorem jT.lt {ws ts : List yf} {at_ : Nat} (h : jT ws at_ ts) : at_ < ws.length := by
 have h1 := h.good.ne;have h2 := h.eq;by_cases hl : at_ < ws.length
 ·exact hl
 ·rw [List.drop_eq_nil_of_le za] at h2;exact absurd h2.symm h1
theorem jT.hdEq {ws ts : List yf} {at_ : Nat} (h : jT ws at_ ts) : ws[at_]'h.lt = hd ts := by
 have h3 : hd (ws.drop at_) = ws[at_]'h.lt := by rw [List.drop_eq_getElem_cons h.lt]; rfl
 rw [<- h3, h.eq]
theorem jT.next {ws ts : List yf} {at_ : Nat} (h : jT ws at_ ts) (hk : (hd ts).kind ≠ 0) : jT ws (at_ + 1) ts.tail := by
 refine ⟨?_, h.good.tail hk, h.small⟩;have h2 := h.eq;rw [List.drop_eq_getElem_cons h.lt] at h2;rw [<- h2]
 rfl
theorem jT.len {ws ts : List yf} {at_ : Nat} (h : jT ws at_ ts) : at_ + ts.length = ws.length := by
 have := h.lt;rw [<- h.eq, List.length_drop];omega
theorem NB {s : Bt} {ts : List yf} (h : isW s ts = true) : (hd ts).kind ≠ 0 := by
 unfold isW at h;simp only [Bool.and_eq_true, Bool.or_eq_true, decide_eq_true_eq] at h;omega
theorem jT.isW {ws ts : List yf} {at_ : Nat} {s : Bt} (h : jT ws at_ ts) (hk : isW s ts = true) : jT ws (at_ + 1) ts.tail := h.next (NB hk)
abbrev eu (m : Mp) (A : Oa) (ws : List yf) : Prop := Rd m A (Ya ws)
theorem jT.word {m : Mp} {A : Oa} {ws ts : List yf} {at_ : Nat} (hw : eu m A ws) (h : jT ws at_ ts) : At m ((sa A).add (at_ * 4)) [.int .i8 (hd ts).kind, .string (bs (hd ts).text), .int .i64 (hd ts).n, .int .i64 (hd ts).at_] := by
 have h1 := hw.elem (at_ * 4) 4;rw [US h.lt, h.hdEq] at h1;exact h1
theorem jT.isSome {m : Mp} {A : Oa} {ws ts : List yf} {at_ : Nat} (hw : eu m A ws) (h : jT ws at_ ts) : A.isSome = true := hw.isSome (by have := h.lt; rw [UR]; omega)
abbrev rd (b : Nat) (A : Oa) (c : Nat) (ws : List yf) (at_ d p : Nat) : yb := cel b [.slice A ws.length c, .int .i64 (at_ : Nat), .int .i64 (d : Nat), .int .i64 (p : Nat)] 99
def WO (e a : Int) : Value := .iface 31 (.agg [.int .i64 e, .int .i64 a].toArray)
abbrev zS (b : Nat) : Value := .pointer (some ⟨b, 0, none⟩)
variable {m : Mp} {b c at_ d p : Nat} {A : Oa} {ws ts : List yf} {s : Bt}
theorem WH (hw : eu m A ws) (hp : jT ws at_ ts) (ha : bj s) (hl : s.length <= 1000) : CS Tryz.prog 50 [zS b, .string (bs s)] m [rd b A c ws at_ d p] (fun v L' => v = .bool (isW s ts) /\ L' = [rd b A c ws at_ d p]) := by
 have hat := hp.word hw;have hA := hp.isSome hw;have hlt := hp.lt;generalize hq : isW s ts = q;unfold isW at hq;generalize hd ts = w at hat hq;refine yQ [.tmp 4] Tryz.func50 rfl rfl rfl ?_;by_cases h1 : w.kind = 1
 ·rw [decide_eq_true h1, Bool.true_or, Bool.true_and] at hq;refine tr 6 ?_;refine yw (sT [0, 1, 2, 4, 5, 6, 103, 107, 8, 109, 210, 311] .done) mixed zi (fun _ _ _ _ hq => hq) ?_;refine vt 6 ?_;refine Vl 0 rfl gu .here ?_;refine Vl 0 rfl yl .here ?_;refine Vt 0 rfl (zo kC rfl rfl hA za) ?_;refine Vu 0 rfl (zO wN rfl rfl hat) ?_
  refine y7 rfl (ua uS rfl (fun b1 => ?_)) rfl;refine zM rfl rfl (zR wN rfl rfl rfl .here rfl rfl ?_) rfl;refine Vm 4 ?_;refine Lb 0 ze .here ?_;refine yr 7 ?_;refine Lb 1 yI .here ?_;refine Cr EH rfl (fun m' hm he => (MH ha hl)) ?_;rintro _ rfl;rw [hq];refine vr 5 ?_;exact yn [_] zj [_] .p1 ⟨rfl, rfl⟩
 by_cases h3 : w.kind = 3
 ·rw [decide_eq_true h3, Bool.or_true, Bool.true_and] at hq;refine tr 6 ?_;refine yw (sT [0, 1, 2, 4, 5, 6, 103, 107, 8, 109, 210, 311] .done) mixed zi (fun _ _ _ _ hq => hq) ?_;refine vt 6 ?_;refine Vl 0 rfl gu .here ?_;refine Vl 0 rfl yl .here ?_;refine Vt 0 rfl (zo kC rfl rfl hA za) ?_;refine Vu 0 rfl (zO wN rfl rfl hat) ?_
  refine y7 rfl (ua uS rfl (fun b1 => ?_)) rfl;refine zM rfl rfl (zR wN rfl rfl rfl .here rfl rfl ?_) rfl;refine Vm 4 ?_;refine Lb 0 ze .here ?_;refine zF 2 ?_;refine Lb 0 ze .here ?_;refine yr 3 ?_;refine Lb 1 yI .here ?_;refine Cr EH rfl (fun m' hm he => (MH ha hl)) ?_;rintro _ rfl;rw [hq];refine vr 5 ?_
  exact yn [_] zj [_] .p1 ⟨rfl, rfl⟩
 rw [decide_eq_false h1, decide_eq_false h3, Bool.false_or, Bool.false_and] at hq;subst hq;refine tr 6 ?_;refine yw (sT [0, 1, 2, 4, 5, 6, 103, 107, 8, 109, 210, 311] .done) mixed zi (fun _ _ _ _ hq => hq) ?_;refine vt 6 ?_;refine Vl 0 rfl gu .here ?_;refine Vl 0 rfl yl .here ?_;refine Vt 0 rfl (zo kC rfl rfl hA za) ?_
 refine Vu 0 rfl (zO wN rfl rfl hat) ?_;refine y7 rfl (ua uS rfl (fun b1 => ?_)) rfl;refine zM rfl rfl (zR wN rfl rfl rfl .here rfl rfl ?_) rfl;refine Vm 4 ?_;refine Lb 0 ze .here ?_;refine zF 2 ?_;refine Lb 0 ze .here ?_;refine zF 11 ?_;exact yn [_] zj [_] .p1 ⟨rfl, rfl⟩
theorem jR (e : Int) (hw : eu m A ws) (hp : jT ws at_ ts) : Vw Tryz.prog 51 [zS b, .int .i64 e] m [rd b A c ws at_ d p] (fun _ _ => False) (fun v _ => v = WO e (hd ts).at_) := by
 have hat := hp.word hw;have hA := hp.isSome hw;have hlt := hp.lt;refine ym [] Tryz.func51 rfl rfl rfl ?_;refine yw (sT [0, 1, 2, 3, 5, 6, 7, 104, 108, 9, 10, 111, 12, 13, 214] .done) mixed zi (fun _ _ _ _ hq => hq) ?_;refine vt 7 ?_;refine Vl 0 rfl gu .here ?_;refine Vl 0 rfl yl .here ?_;refine Vt 1 rfl (zo kC rfl rfl hA za) ?_
 refine Vu 0 rfl (zl yl rfl (hat.at_ rfl)) ?_;refine Vt 0 rfl (zA wR kx rfl rfl) ?_;refine Vt 0 rfl (vW Ef FZ rfl) ?_;refine y7 rfl (Hr rfl ?_) rfl;exact pn rfl
theorem wS (hw : eu m A ws) (hp : jT ws at_ ts) (ha : bj s) (hl : s.length <= 1000) : CS Tryz.prog 77 [zS b, .string (bs s)] m [rd b A c ws at_ d p]
  (fun v L' => (isW s ts = true /\ jT ws (at_ + 1) ts.tail /\ v = .bool true /\ L' = [rd b A c ws (at_ + 1) d p]) \/ (isW s ts = false /\ v = .bool false /\ L' = [rd b A c ws at_ d p])) := by
 have hs := hp.small;have hlt := hp.lt;refine yQ [.tmp 4] Tryz.func77 rfl rfl rfl ?_;refine tr 10 ?_;refine C1 W3 rfl .here (fun m' hm he => WH (hw.mono hm) hp ha hl) ?_;rintro _ _ ⟨rfl, rfl⟩;cases hk : isW s ts with
 | false =>
   refine vr 11 ?_;exact yn [_] zj [_] .p0 (.inr ⟨rfl, rfl, rfl⟩)
 | true =>
   refine vr 11 ?_;refine Lb 0 yl .here ?_;refine Pa 2 ?_;refine Sr 8 fB .here .h1 ?_;exact yn [_] zj [_] .p0 (.inl ⟨rfl, hp.isW hk, rfl, rfl⟩)
def UL {α : Type} (f : FuncId) (args : Lv) (m : Mp) (b : Nat) (A : Oa) (c : Nat) (ws : List yf) (at_ d p : Nat) (r : R α) (w : α -> Nat) (V : α -> Value -> List yb -> Prop) : Prop :=
 Vw Tryz.prog f args m [rd b A c ws at_ d p] (fun v L' => ∃ x ts' at' Es, r = .ok x ts' /\ jT ws at' ts' /\ V x v Es /\ L' = rd b A c ws at' d (p + w x) :: Es) (fun v _ => ∃ e a, r = .bad e a /\ v = WO e a)
abbrev uV : Unit -> Value -> List yb -> Prop := fun _ v Es => v = U0 /\ Es = []
abbrev iiV : Int -> Value -> List yb -> Prop := fun x v Es => v = .int .i64 x /\ Es = []
abbrev bV : Int -> Value -> List yb -> Prop := fun x v Es => v = .int .i8 x /\ Es = []
abbrev tV : Bt -> Value -> List yb -> Prop := fun x v Es => v = .string (bs x) /\ Es = []
theorem XF {X : Oa} {xc : Nat} {l : List Bt} (hw : eu m A ws) (hX : Rd m X (l.map xm)) (hl : l.length <= 1000) (ha : ∀ s ∈ l, bj s /\ s.length <= 1000) (hp : jT ws at_ ts) :
  UL 79 [zS b, .slice X l.length xc] m b A c ws at_ d p (eM l ts) (fun _ => 0) uV := by
 refine ym [] Tryz.func79 rfl rfl rfl ?_;refine tr 8 ?_
 refine yv (α := Nat × Nat × List yf) (fun y => [(0, zS b), (6, .slice X l.length xc), (7, .int .i64 (l.length : Nat)), (8, .int .i64 (y.1 : Nat))]) (fun y => [rd b A c ws y.2.1 d p]) (fun y => y.1 <= l.length /\ jT ws y.2.1 y.2.2 /\ eM l ts = eM (l.drop y.1) y.2.2) (fun y => l.length - y.1) (0, at_, ts) de zx ⟨Nat.zero_le _, hp, rfl⟩ ?_
 rintro ⟨i, a, ts⟩ ⟨hi, hp, he⟩;dsimp only at hi hp he;dsimp only;by_cases hlt : i < l.length
 rotate_left
 ·rw [List.drop_eq_nil_of_le za] at he;refine tr 2 ?_;refine zH 6 ?_;refine zm ?_;refine zk ?_;exact wu [] trivial _ .p0 ⟨(), ts, a, [], he, hp, ⟨rfl, rfl⟩, rfl⟩
 have hX1 : X.isSome = true := hX.isSome (by rw [List.length_map]; omega);have hg : (l.map xm)[i]? = some (xm l[i]) := by simp [hlt]
 have hcx := hX.at_ hg;have hai := ha l[i] (List.getElem_mem hlt);rw [List.drop_eq_getElem_cons hlt] at he;generalize l[i] = s at hcx hai he;refine tr 2 ?_;refine y4 10 ?_;refine pe 0 (zw ql rfl rfl hX1 za) ?_;refine Lo 7 yI rfl hcx ?_;refine C1 ge rfl .here (fun m' hm he => wS (hw.mono hm) hp hai.1 hai.2) ?_;rintro _ _ (⟨hk, hp2, rfl, rfl⟩ | ⟨hk, rfl, rfl⟩)
 ·refine vr 8 ?_;refine Pa 2 ?_;exact QR (i + 1, a + 1, ts.tail) zx ⟨hlt, hp2, by rw [he]; simp [eM, wi, hk, R.bind]⟩ yV
 ·refine vr 6 ?_;refine Cp eZ rfl .k0 (fun m' hm he => jR 120 (hw.mono hm) hp) ?_ ?_
  ·rintro _ _ rfl;refine yk ?_;refine zC ?_;exact pn ⟨120, _, by rw [he]; simp [eM, wi, hk, R.bind, fail], rfl⟩
  ·rintro _ _ h;exact h.elim
theorem IY (hw : eu m A ws) (hp : jT ws at_ ts) (hd8 : d <= 8) : Vw Tryz.prog 142 [zS b] m [rd b A c ws at_ d p] (fun v L' => d + 1 <= 8 /\ v = U0 /\ L' = [rd b A c ws at_ (d + 1) p]) (fun v _ => 8 < d + 1 /\ v = WO 121 (hd ts).at_) := by
 refine ym [] Tryz.func142 rfl rfl rfl ?_;by_cases h8 : d + 1 <= 8
 ·refine tr 5 ?_;refine Lb 0 yl .here ?_;refine Pa 2 ?_;refine Sr 7 fB .here .h2 ?_;refine Lb 0 yl .here ?_;refine zH 4 ?_;exact wu [] trivial _ .p0 ⟨h8, rfl, rfl⟩
 ·refine tr 5 ?_;refine Lb 0 yl .here ?_;refine Pa 2 ?_;refine Sr 7 fB .here .h2 ?_;refine Lb 0 yl .here ?_;refine y4 5 ?_;refine Cp eZ rfl .k0 (fun m' hm he => jR 121 (hw.mono hm) hp) ?_ ?_
  ·rintro _ _ rfl;skip;exact pn ⟨by omega, rfl⟩
  ·rintro _ _ h;exact h.elim
theorem qu (hw : eu m A ws) (hp : jT ws at_ ts) : UL 78 [zS b] m b A c ws at_ d p (xY ts) (fun _ => 0) iiV := by
 have hat := hp.word hw;have hA := hp.isSome hw;have hlt := hp.lt;have hsm := hp.small;generalize hq : xY ts = q;unfold xY at hq;refine ym [.tmp 2] Tryz.func78 rfl rfl rfl ?_;by_cases h2 : (hd ts).kind = 2
 ·have hp2 := hp.next za;rw [if_pos h2] at hq;generalize hd ts = w at hat hq h2;refine tr 6 ?_;refine yw (sT [0, 1, 2, 4, 5, 6, 103, 107, 8, 109, 210, 311] .done) mixed zi (fun _ _ _ _ hq => hq) ?_;refine vt 6 ?_;refine Vl 0 rfl gu .here ?_;refine Vl 0 rfl yl .here ?_;refine Vt 0 rfl (zo kC rfl rfl hA za) ?_
  refine Vu 0 rfl (zO wN rfl rfl hat) ?_;refine y7 rfl (ua uS rfl (fun b1 => ?_)) rfl;refine zM rfl rfl (zR wN rfl rfl rfl .here rfl rfl ?_) rfl;refine Vm 5 ?_;refine Lb 0 ze .here ?_;refine zH 10 ?_;refine Lb 0 yl .h1 ?_;refine Pa 2 ?_;refine Sr 5 fB .h1 .h1 ?_;refine Lb 4 yl .here ?_
  exact yp [_] zj _ .p1 ⟨w.n, ts.tail, at_ + 1, [], hq.symm, hp2, ⟨rfl, rfl⟩, rfl⟩
 ·rw [if_neg h2] at hq;refine tr 6 ?_;refine yw (sT [0, 1, 2, 4, 5, 6, 103, 107, 8, 109, 210, 311] .done) mixed zi (fun _ _ _ _ hq => hq) ?_;refine vt 6 ?_;refine Vl 0 rfl gu .here ?_;refine Vl 0 rfl yl .here ?_;refine Vt 0 rfl (zo kC rfl rfl hA za) ?_;refine Vu 0 rfl (zO wN rfl rfl hat) ?_;refine y7 rfl (ua uS rfl (fun b1 => ?_)) rfl
  refine zM rfl rfl (zR wN rfl rfl rfl .here rfl rfl ?_) rfl;refine Vm 5 ?_;refine Lb 0 ze .here ?_;refine yr 5 ?_;refine Cp eZ rfl .k1 (fun m' hm he => jR 120 (hw.mono hm) hp) ?_ ?_
  ·rintro _ _ rfl;exact pn ⟨120, _, hq.symm, rfl⟩
  ·rintro _ _ h;exact h.elim
theorem Yg (hT : xU m) (hw : eu m A ws) (hp : jT ws at_ ts) : UL 76 [zS b] m b A c ws at_ d p (kn ts) (fun _ => 0) tV := by
 have hat := hp.word hw;have hA := hp.isSome hw;have hlt := hp.lt;have hsm := hp.small;generalize hq : kn ts = q;unfold kn at hq;refine ym [.tmp 2] Tryz.func76 rfl rfl rfl ?_;by_cases h1 : (hd ts).kind = 1
 ·cases ho : JR (hd ts).text with
  | false =>
    have hp2 := hp.next za;rw [if_pos ⟨h1, ho⟩] at hq;generalize hd ts = w at hat hq h1 ho;refine tr 6 ?_;refine yw (sT [0, 1, 2, 4, 5, 6, 103, 107, 8, 109, 210, 311] .done) mixed zi (fun _ _ _ _ hq => hq) ?_;refine vt 6 ?_;refine Vl 0 rfl gu .here ?_;refine Vl 0 rfl yl .here ?_;refine Vt 0 rfl (zo kC rfl rfl hA za) ?_
    refine Vu 0 rfl (zO wN rfl rfl hat) ?_;refine y7 rfl (ua uS rfl (fun b1 => ?_)) rfl;refine zM rfl rfl (zR wN rfl rfl rfl .here rfl rfl ?_) rfl;refine Vm 5 ?_;refine Lb 0 ze .here ?_;refine zH 2 ?_;refine Lb 0 yI .here ?_;refine Cr Om rfl (fun m' hm he => (Im (hT.mono hm) w.text)) ?_;rintro _ rfl;rw [ho];refine vr 11 ?_;refine Lb 0 yl .h1 ?_
    refine Pa 2 ?_;refine Sr 5 fB .h1 .h1 ?_;refine Lb 4 yI .here ?_;exact yp [_] zj _ .p1 ⟨w.text, ts.tail, at_ + 1, [], hq.symm, hp2, ⟨rfl, rfl⟩, rfl⟩
  | true =>
    rw [if_neg (fun h => by rw [h.2] at ho; cases ho)] at hq;refine tr 6 ?_;refine yw (sT [0, 1, 2, 4, 5, 6, 103, 107, 8, 109, 210, 311] .done) mixed zi (fun _ _ _ _ hq => hq) ?_;refine vt 6 ?_;refine Vl 0 rfl gu .here ?_;refine Vl 0 rfl yl .here ?_;refine Vt 0 rfl (zo kC rfl rfl hA za) ?_;refine Vu 0 rfl (zO wN rfl rfl hat) ?_
    refine y7 rfl (ua uS rfl (fun b1 => ?_)) rfl;refine zM rfl rfl (zR wN rfl rfl rfl .here rfl rfl ?_) rfl;refine Vm 5 ?_;refine Lb 0 ze .here ?_;refine zH 2 ?_;refine Lb 0 yI .here ?_;refine Cr Om rfl (fun m' hm he => (Im (hT.mono hm) (hd ts).text)) ?_;rintro _ rfl;rw [ho];refine vr 6 ?_
    refine Cp eZ rfl .k1 (fun m' hm he => jR 120 (hw.mono hm) hp) ?_ ?_
    ·rintro _ _ rfl;exact pn ⟨120, _, hq.symm, rfl⟩
    ·rintro _ _ h;exact h.elim
 ·rw [if_neg (fun h => h1 h.1)] at hq;refine tr 6 ?_;refine yw (sT [0, 1, 2, 4, 5, 6, 103, 107, 8, 109, 210, 311] .done) mixed zi (fun _ _ _ _ hq => hq) ?_;refine vt 6 ?_;refine Vl 0 rfl gu .here ?_;refine Vl 0 rfl yl .here ?_;refine Vt 0 rfl (zo kC rfl rfl hA za) ?_;refine Vu 0 rfl (zO wN rfl rfl hat) ?_
  refine y7 rfl (ua uS rfl (fun b1 => ?_)) rfl;refine zM rfl rfl (zR wN rfl rfl rfl .here rfl rfl ?_) rfl;refine Vm 5 ?_;refine Lb 0 ze .here ?_;refine yr 10 ?_;refine Cp eZ rfl .k1 (fun m' hm he => jR 120 (hw.mono hm) hp) ?_ ?_
  ·rintro _ _ rfl;exact pn ⟨120, _, hq.symm, rfl⟩
  ·rintro _ _ h;exact h.elim
theorem qA (s : Bt) (h : s.all (fun b => decide (b.toNat < 128)) = true) : bj s := fun b hb => of_decide_eq_true (List.all_eq_true.1 h b hb)
theorem cG (hw : eu m A ws) (hp : jT ws at_ ts) : UL 141 [zS b] m b A c ws at_ d p (j4 ts) (fun _ => 0) bV := by
 generalize hq : j4 ts = q;unfold j4 at hq;refine ym [.tmp 2] Tryz.func141 rfl rfl rfl ?_;refine tr 10 ?_;refine C1 ge rfl .here (fun m' hm he => wS (s := ar) (hw.mono hm) hp (qA _ rfl) zb) ?_;rintro _ _ (⟨hk, hp2, rfl, rfl⟩ | ⟨hk, rfl, rfl⟩)
 ·rw [if_pos hk] at hq;refine vr 12 ?_;exact yp [_] zj _ .p0 ⟨0, ts.tail, at_ + 1, [], hq.symm, hp2, ⟨rfl, rfl⟩, rfl⟩
 rw [if_neg (by rw [hk]; decide)] at hq;refine vr 7 ?_;refine C1 ge rfl .here (fun m' hm he => wS (s := fL) (hw.mono hm) hp (qA _ rfl) zb) ?_;rintro _ _ (⟨hk, hp2, rfl, rfl⟩ | ⟨hk, rfl, rfl⟩)
 ·rw [if_pos hk] at hq;refine vr 12 ?_;exact yp [_] zj _ .p0 ⟨1, ts.tail, at_ + 1, [], hq.symm, hp2, ⟨rfl, rfl⟩, rfl⟩
 rw [if_neg (by rw [hk]; decide)] at hq;refine vr 10 ?_;refine Cp eZ rfl .k0 (fun m' hm he => jR 120 (hw.mono hm) hp) ?_ ?_
 ·rintro _ _ rfl;exact pn ⟨120, _, hq.symm, rfl⟩
 ·rintro _ _ h;exact h.elim
theorem Mm (hw : eu m A ws) (hp : jT ws at_ ts) : UL 139 [zS b] m b A c ws at_ d p (Xu ts) (fun _ => 0) bV := by
 generalize hq : Xu ts = q;unfold Xu at hq;refine ym [.tmp 2] Tryz.func139 rfl rfl rfl ?_;refine tr 9 ?_;refine C1 ge rfl .here (fun m' hm he => wS (s := xX) (hw.mono hm) hp (qA _ rfl) zb) ?_;rintro _ _ (⟨hk, hp2, rfl, rfl⟩ | ⟨hk, rfl, rfl⟩)
 ·rw [if_pos hk] at hq;refine vr 10 ?_;exact yp [_] zj _ .p0 ⟨2, ts.tail, at_ + 1, [], hq.symm, hp2, ⟨rfl, rfl⟩, rfl⟩
 rw [if_neg (by rw [hk]; decide)] at hq;refine vr 8 ?_;refine Cp W4 rfl .k0 (fun m' hm he => cG (hw.mono hm) hp) ?_ ?_
 ·rintro _ _ ⟨e, a, h1, rfl⟩;exact pn ⟨e, a, by rw [<- hq, h1], rfl⟩
 rintro _ _ ⟨x, ts', at', Es, h1, hp1, ⟨rfl, rfl⟩, rfl⟩;refine vr 4 ?_;exact yp [_] zj _ .p0 ⟨x, ts', at', [], by rw [<- hq, h1], hp1, ⟨rfl, rfl⟩, rfl⟩
end
section
open Wd Tp Kd
variable {L L' : List yb}
theorem zN.nilE (hp : zN L L') : zN L (yF [] :: L') := fun m h hs => HS.pack_iff.1 (hp m h hs)
variable {a b : yb}
theorem zN.pack2 {L : List yb} (hp : zN L (a :: b :: L')) : zN L (yF [a, b] :: L') := fun m h hs => (HS.pack_iff (L := [a, b])).1 (hp m h hs)
theorem zN.pack3 {L : List yb} {c : yb} (hp : zN L (a :: b :: c :: L')) : zN L (yF [a, b, c] :: L') := fun m h hs => (HS.pack_iff (L := [a, b, c])).1 (hp m h hs)
structure Vj where
 op : Int
 n : Int
 who : Int
 K : Oa
 k : Nat
 kc : Nat
abbrev Vj.v (q : Vj) : Lv := [.int .i8 q.op, .int .i64 q.n, .int .i8 q.who, .slice q.K q.k q.kc]
abbrev M8 : zY -> Value -> List yb -> Prop := fun x v Es => ∃ (q : Vj) (e : yb), v = .agg q.v.toArray /\ Es = [e] /\ ∀ ns, e.inv ns -> xr ns q.v x
variable {m : Mp} {op : Int}
theorem qv {n who : Int} (ho : Gd op) : xr m [.int .i8 op, .int .i64 n, .int .i8 who, .slice none 0 0] (qs op n who) := .mk (vs := []) ho rfl (Nat.zero_le _) (Rd.nil _ _) rfl fun i h => by cases h
variable {q r : Vj}
theorem Qg {K : Nat} {x y : zY} (ho : Gd op) (h : (cel K (q.v ++ r.v) 85).inv m) (hx : xr m q.v x) (hy : xr m r.v y) : xr m [.int .i8 op, .int .i64 0, .int .i8 0, .slice (some ⟨K, 0, none⟩) 2 2] (vz op x y) :=
 .mk (vs := q.v ++ r.v) ho rfl zb (Rd.blk h) rfl fun i hi => by
  have : i = 0 \/ i = 1 := by have : i < 2 := hi; omega
  rcases this with rfl | rfl
  ·exact hx
  ·exact hy
theorem Qb : CS Tryz.prog 158 [.int .i8 op, .agg q.v.toArray, .agg r.v.toArray] m [] (fun v L' => ∃ K, v = .agg [.int .i8 op, .int .i64 0, .int .i8 0, .slice (some ⟨K, 0, none⟩) 2 2].toArray /\ L' = [cel K (q.v ++ r.v) 85]) := by
 refine yQ [.cell 6 85] Tryz.func158 rfl rfl rfl ?_;refine tr 2 ?_;refine Bx 0 rfl fun b1 => ?_;refine Bx 0 rfl fun b2 => ?_;refine Al 5 uw fun b3 => ?_;refine Lc 0 zT .h2 ?_;refine Lc 0 zT .h1 ?_;refine Bs 0 S3 fun b4 => ?_;refine pe 0 (zA uw da rfl rfl) ?_;refine Sg 3 zT .h1 ?_;exact yn [_] ⟨⟨b3, _, _, _, rfl, .h1, .inr ⟨rfl, rfl⟩⟩, trivial⟩ _ .p0 ⟨b4, rfl, rfl⟩
variable {n : Nat}
theorem TS_scopeJ' {P : Program} {env : yW} {Q : yR} {α : Type} {c rest : Code} (l : Nat) (hf : findLabel c l = some (.seq .skip rest)) (S : α -> yW) (LL : α -> List yb) (F : α -> Prop) (μ : α -> Nat) (pass : ∀ (y : α), F y -> TS P n rest (S y) m (LL y) (dn m l S LL F μ (some (μ y)) Q)) (first : (∀ (y : α), F y -> TS P n rest (S y) m (LL y) (dn m l S LL F μ (some (μ y)) Q)) -> TS P n c env m L (dn m l S LL F μ none Q)) : TS P n (.scope c) env m L Q := LK l hf S LL F μ (first pass) fun y hy => OQ (Ho (Ht (pass y hy)))
variable {signs : List (Bt × Int)} {ts : List yf}
theorem ZO {i : Nat} (h : i < signs.length) (hk : isW signs[i].1 ts = true) (hn : ∀ (j : Nat) (hj : j < signs.length), j < i -> isW signs[j].1 ts = false) : (signs.find? fun s => isW s.1 ts) = some signs[i] := by
 rw [List.find?_eq_some_iff_getElem];refine ⟨hk, i, h, rfl, fun j hj => ?_⟩
 simp [hn j za hj]
theorem ZN (hn : ∀ (j : Nat) (hj : j < signs.length), isW signs[j].1 ts = false) : (signs.find? fun s => isW s.1 ts) = none := by
 rw [List.find?_eq_none];intro s hs;obtain ⟨j, hj, rfl⟩ := List.getElem_of_mem hs
 simp [hn j hj]
structure Vi (m : Mp) (X Y : Oa) (signs : List (Bt × Int)) : Prop where
 x : Rd m X (signs.map fun s => xm s.1)
 y : Rd m Y (signs.map fun s => .int .i8 s.2)
variable {X Y : Oa}
theorem Vi.mono {m' : Mp} (h : Vi m X Y signs) (hl : Le m m') : Vi m' X Y signs := ⟨h.x.mono hl, h.y.mono hl⟩
def bY (signs : List (Bt × Int)) : Prop := signs.length <= 10 /\ ∀ s ∈ signs, bj s.1 /\ s.1.length <= 1000 /\ Gd s.2
structure LP (α κ : Type) where
 n : Nat
 bx : Nat
 at_ : Nat
 p : Nat
 ts : List yf
 x : α
 q : κ
 e : yb
theorem MQ {b c at_ d p : Nat} {A : Oa} {ws ts : List yf} {g : FuncId} {one : List yf -> R zY} {signs : List (Bt × Int)} {xc yc k : Nat} (hcl : yX Tryz.prog g = true) (hw : eu m A ws) (hsg : Vi m X Y signs) (hso : bY signs) (he1 : ∀ ts, ts.length < k -> Tp.Ends (one ts) zV ts.length) (hone : ∀ m', Le m m' -> ∀ (at_ p : Nat) (ts : List yf), jT ws at_ ts -> p + ts.length <= 4611686018427387904 -> ts.length < k -> UL g [zS b] m' b A c ws at_ d p (one ts) zV M8) (hp : jT ws at_ ts) (hb : p + ts.length <= 4611686018427387904) (hn : ts.length < n) (hk : ts.length < k) :
  UL 156 [zS b, .slice X signs.length xc, .slice Y signs.length yc, .func (.func g) [zS b].toArray [].toArray, .func (.func 158) [].toArray [].toArray] m b A c ws at_ d p (qk one signs vz n ts) zV M8 := by
 generalize hF : qk one signs vz n ts = F;unfold qk at hF;obtain ⟨hsl, hs8⟩ := hso;refine ym [.cell 10 85] Tryz.func156 rfl rfl rfl ?_;refine tr 2 ?_;refine Al 2 uw fun b1 => ?_
 refine TS_scopeJ' (α := LP zY Vj) 0 rfl (fun y => [(0, zS b), (1, .slice X signs.length xc), (2, .slice Y signs.length yc), (3, .func (.func g) [zS b].toArray [].toArray), (4, .func (.func 158) [].toArray [].toArray), (10, zS b1), (11, zS y.bx)]) (fun y => [rd b A c ws y.at_ d y.p, y.e, cel y.bx y.q.v 85, cel b1 [.int .i8 0, .int .i64 0, .int .i8 0, .slice none 0 0] 85])
  (fun y => wM one signs vz y.n y.x y.ts = F /\ jT ws y.at_ y.ts /\ y.p + y.ts.length <= 4611686018427387904 /\ y.ts.length < y.n /\ y.ts.length < k /\ y.p = p + zV y.x /\ ∀ ns, y.e.inv ns -> xr ns y.q.v y.x) (fun y => y.n) ?_ (fun hpass => ?_)
 ·rintro ⟨n, bx, a, p1, ts, x, q, e⟩ ⟨hF, hp, hb, hn, hk, hpw, hx⟩;dsimp only at hF hp hb hn hk hpw hx;dsimp only;obtain ⟨n, rfl⟩ : ∃ n', n = n' + 1 := ⟨n - 1, by omega⟩;refine tr 9 ?_
  refine yv (α := Nat) (fun i => [(0, zS b), (1, .slice X signs.length xc), (2, .slice Y signs.length yc), (3, .func (.func g) [zS b].toArray [].toArray), (4, .func (.func 158) [].toArray [].toArray), (10, zS b1), (11, zS bx), (17, .slice X signs.length xc), (18, .int .i64 (signs.length : Nat)), (19, .int .i64 (i : Nat))]) (fun i => [rd b A c ws a d p1, e, cel bx q.v 85, cel b1 [.int .i8 0, .int .i64 0, .int .i8 0, .slice none 0 0] 85]) (fun i => i <= signs.length /\ ∀ (j : Nat) (hj : j < signs.length), j < i -> isW signs[j].1 ts = false) (fun i => signs.length - i) 0 XY zx ⟨Nat.zero_le _, fun _ _ h => by cases h⟩ ?_
  rintro i ⟨hi, hno⟩;by_cases hlt : i < signs.length
  rotate_left
  ·have hfn := ZN (signs := signs) (ts := ts) fun j hj => hno j hj za;unfold wM at hF;rw [hfn] at hF;dsimp only at hF;refine tr 2 ?_;refine zH 6 ?_;refine zm ?_;refine zk ?_;refine qt 3 ?_;refine Lc 0 zT .h2 ?_;refine Sg 3 zT .h3 ?_;refine Xm ?_
   exact yp [_] ⟨⟨b1, _, _, _, rfl, .h3, .inr ⟨rfl, rfl⟩⟩, trivial⟩ _ .pp ⟨x, ts, a, [e], hF.symm, hp, ⟨q, e, rfl, rfl, hx⟩, by rw [hpw]⟩
  have hX1 : X.isSome = true := hsg.x.isSome (by rw [List.length_map]; omega);have hY1 : Y.isSome = true := hsg.y.isSome (by rw [List.length_map]; omega);have hcx := hsg.x.at_ (show (signs.map fun s => xm s.1)[i]? = some (xm signs[i].1) by simp [hlt]);have hcy := hsg.y.at_ (show (signs.map fun s => Value.int .i8 s.2)[i]? = some (.int .i8 signs[i].2) by simp [hlt])
  have hai := hs8 signs[i] (List.getElem_mem hlt);have hfa := fun h => ZO (ts := ts) hlt h hno
  have hnext : isW signs[i].1 ts = false -> ∀ (j : Nat) (hj : j < signs.length), j < i + 1 -> isW signs[j].1 ts = false := fun h j hj h2 => by
   by_cases hji : j < i
   ·exact hno j hj hji
   ·obtain rfl : j = i := by omega
    exact h
  generalize signs[i] = sg at hcx hcy hai hfa hnext;refine tr 2 ?_;refine y4 11 ?_;refine pe 0 (zw ql rfl rfl hX1 za) ?_;refine Lo 8 yI rfl hcx ?_;refine C1 ge rfl .here (fun m' hm he => wS (s := sg.1) (hw.mono hm) hp hai.1 hai.2.1) ?_;rintro _ _ (⟨hk1, hp2, rfl, rfl⟩ | ⟨hk1, rfl, rfl⟩)
  rotate_left
  ·refine vr 7 ?_;refine Pa 2 ?_;exact QR (i + 1) zx ⟨hlt, hnext hk1⟩ za
  have hl1 := yG hk1;unfold wM at hF;rw [hfa hk1] at hF;dsimp only at hF;have hend := he1 ts.tail za;refine vr 8 ?_;refine Lb 0 yl .here ?_;refine Pa 2 ?_;refine Sr 5 fB .here .h3 ?_;refine zg (vV (p := [zS b]) (q := []) (vs := []) hcl rfl rfl .k0 (fun m' hm he => hone m' hm (a + 1) (p1 + 1) ts.tail hp2 za za) rfl ?_ ?_) rfl
  ·rintro _ _ ⟨e', a', h1, rfl⟩;rw [h1] at hF;refine yk ?_;refine zC ?_;refine yk ?_;refine ed ?_;exact pn ⟨e', a', hF.symm, rfl⟩
  rintro _ _ ⟨y, ts2, at2, _, h1, hp3, ⟨r, ey, rfl, rfl, hy⟩, rfl⟩;rw [h1] at hF;have hlen := hend.2 y ts2 h1;have hyp := Zu y;change wM one signs vz n (vz sg.2 x y) ts2 = F at hF;refine Al 0 uw fun b2 => ?_;refine Sg 3 zT .here ?_;refine yw (sT [0, 1, 2, 3, 104, 105, 106, 307, 308] .done) mixed zi (fun _ _ _ _ hq => hq) ?_;refine vt 3 ?_
  refine Vt 0 rfl (zw Ss rfl rfl hY1 za) ?_;refine Vu 0 rfl (zl ze rfl hcy) ?_;refine Vu 0 rfl (wt zT rfl .h4 rfl) ?_;refine Vu 0 rfl (wt zT rfl .here rfl) ?_;refine zM rfl rfl ((uP (p := []) (q := []) (vs := [.int .i8 sg.2, .agg q.v.toArray, .agg r.v.toArray]) Oh rfl rfl (fun m' hm he => Qb) rfl ?_)) rfl;rintro _ _ ⟨K, rfl, rfl⟩
  refine zM rfl rfl (zR zT rfl rfl rfl .h5 rfl rfl ?_) rfl;refine Vm 1 ?_;refine Hp ?_;refine kW ?_;refine gS ?_;refine dx ?_;refine kW ?_;refine gS ?_
  exact Z6 (⟨n, bx, at2, p1 + 1 + zV y, ts2, vz sg.2 x y, ⟨sg.2, 0, 0, some ⟨K, 0, none⟩, 2, 2⟩, yF [cel K (q.v ++ r.v) 85, ey, e]⟩ : LP zY Vj) VX (.cons .h2 (zN.pack3 (.cons .here (.cons .h1 (.cons .h1 (.cons .h1 .p1))))))
   ⟨hF, hp3, by dsimp only; omega, by dsimp only; omega, by dsimp only; omega, by dsimp only; rw [k7]; omega, fun ns h => Qg hai.2.2 (h.1 _ (.head _)) (hx ns (h.1 _ (.tail _ (.tail _ (.head _))))) (hy ns (h.1 _ (.tail _ (.head _))))⟩ (fun k0 h => by cases h; exact Nat.lt_succ_self _)
 ·refine tr 3 ?_;refine zg (vV (p := [zS b]) (q := []) (vs := []) hcl rfl rfl .k1 (fun m' hm he => hone m' hm at_ p ts hp hb hk) rfl ?_ ?_) rfl
  ·rintro _ _ ⟨e', a', h1, rfl⟩;rw [h1] at hF;refine bc ?_;refine ed ?_;exact pn ⟨e', a', hF.symm, rfl⟩
  rintro _ _ ⟨y, ts2, at2, _, h1, hp3, ⟨r, ey, rfl, rfl, hy⟩, rfl⟩;rw [h1] at hF;have hlen := (he1 ts hk).2 y ts2 h1;have hyp := Zu y;change wM one signs vz n y ts2 = F at hF;refine Al 0 uw fun b2 => ?_;refine Sg 3 zT .here ?_;refine KY ?_;refine qt 1 ?_
  exact KZ (k0 := n) (⟨n, b2, at2, p + zV y, ts2, y, r, ey⟩ : LP zY Vj) (hpass _ ⟨hF, hp3, by show p + zV y + ts2.length <= 4611686018427387904; omega, by show ts2.length < n; omega, by show ts2.length < k; omega, rfl, hy⟩) VX (.cons .h1 (.cons .h1 .pp))
end
namespace Tp
open Go Go.Eng Wd Kd
abbrev vy : Bt := [32]
def d8 (k : Nat) : UInt8 := UInt8.ofNat (48 + k)
def dg (n : Nat) : Bt := if n < 10 then [d8 n] else if n < 100 then [d8 (n / 10), d8 (n % 10)] else [d8 (n / 100), d8 (n / 10 % 10), d8 (n % 10)]
def qO (n : Int) : Bt := dg n.toNat
def xA (w : Int) : Option Bt := if w = 0 then some ar else if w = 1 then some fL else none
def uB (op n who : Int) : Option Bt :=
 if op = 0 then (if who = 0 /\ 0 <= n /\ n <= 999 then some (qO n) else none)
 else if n ≠ 0 then none
 else if op = 1 then (xA who).map fun s => YZ ++ zL ++ s ++ zz
 else if op = 2 then (xA who).map fun s => Y0 ++ zL ++ s ++ zz
 else if op = 3 then (xA who).map fun s => Y4 ++ zL ++ s ++ zz
 else if op = 4 then (xA who).map fun s => aw ++ zL ++ s ++ zz
 else if who ≠ 0 then none
 else if op = 5 then some (X8 ++ zL ++ ar ++ zz)
 else if op = 6 then some (We ++ zL ++ Gq ++ zL ++ ar ++ zz ++ zz)
 else if op = 7 then some (dH ++ zL ++ xX ++ zz)
 else none
def fX (d : Nat) (f : Nat -> Option Bt) : Option Bt := if d + 1 <= 8 then f (d + 1) else none
def jW (br : Bool) (d : Nat) (f : Nat -> Option Bt) : Option Bt := if br then (fX d f).map fun s => zL ++ s ++ zz else f d
def Jh : zY -> Int | .mk op _ _ _ => op
def xM (x : zY) : Bool := decide (Jh x = 8) || decide (Jh x = 9)
def qd : zI -> Int | .mk op _ _ _ _ => op
def uf (f : Bt -> Bt -> Bt) (a b : Option Bt) : Option Bt := a.bind fun s => b.bind fun t => some (f s t)
def cR (w s t : Bt) : Bt := w ++ zL ++ s ++ y9 ++ vy ++ t ++ zz
def xe (w s t : Bt) : Bt := s ++ vy ++ w ++ vy ++ t
def yC : zY -> Nat -> Option Bt
 | .mk op n who [], _ => uB op n who
 | .mk op n who [a, b], d =>
   if ¬ (n = 0 /\ who = 0) then none
   else if op = 11 then uf (cR Xs) (fX d (yC a)) (fX d (yC b))
   else if op = 12 then uf (cR Xt) (fX d (yC a)) (fX d (yC b))
   else if op = 10 then uf (xe wo) (jW (xM a) d (yC a)) (jW (xM b || decide (Jh b = 10)) d (yC b))
   else if op = 8 then uf (xe jd) (yC a d) (jW (xM b) d (yC b))
   else if op = 9 then uf (xe uc) (yC a d) (jW (xM b) d (yC b))
   else none
 | _, _ => none
termination_by structural x => x
def yx : zI -> Nat -> Option Bt
 | .mk op who name [a, b] [], d =>
   if ¬ (who = 0 /\ name = []) then none
   else if op = 0 then uf (xe X9) (yC a d) (yC b d)
   else if op = 1 then uf (xe Wa) (yC a d) (yC b d)
   else if op = 2 then uf (xe Wb) (yC a d) (yC b d)
   else none
 | .mk op who name [] [], _ => if op = 6 /\ yL name = true then (xA who).map fun s => q9 ++ zL ++ s ++ y9 ++ vy ++ name ++ zz else none
 | .mk op who name [] [k], d => if op = 3 /\ who = 0 /\ name = [] then (fX d fun d => jW (decide (qd k = 4) || decide (qd k = 5)) d (yx k)).map fun s => el ++ vy ++ s else none
 | .mk op who name [] [a, b], d =>
   if ¬ (who = 0 /\ name = []) then none
   else if op = 5 then uf (xe JF) (yx a d) (jW (decide (qd b = 5)) d (yx b))
   else if op = 4 then uf (xe gJ) (jW (decide (qd a = 5)) d (yx a)) (jW (decide (qd b = 5) || decide (qd b = 4)) d (yx b))
   else none
 | _, _ => none
termination_by structural x => x
def gY (w : Int) : Option Bt := if w = 2 then some xX else xA w
def ux : zY -> Bool | .mk op n who k => decide (op = 0) && decide (n = 0) && decide (who = 0) && k.isEmpty
def kX : zI -> Bool | .mk op who name ns k => decide (op = 0) && decide (who = 0) && name.isEmpty && ns.isEmpty && k.isEmpty
def fV (w : Bt) (a b : Option Bt) : Option Bt := uf (fun s t => w ++ vy ++ s ++ vy ++ t ++ yg) a b
def kp (w : Bt) (a : Option Bt) : Option Bt := a.map fun s => w ++ vy ++ s ++ yg
mutual
def vG : zW -> Nat -> Option Bt
 | .mk op who n name c t e, d =>
   if op = 8 then
    if who = 0 /\ name = [] /\ ux n = true then
     fX d fun d => (yx c d).bind fun s => (vi t d).bind fun u => (vi e d).bind fun v => some (HO ++ vy ++ s ++ vy ++ gp ++ u ++ vy ++ jv ++ vy ++ je ++ vy ++ gp ++ v ++ vy ++ jv)
    else none
   else if ¬ (kX c = true /\ t.isEmpty = true /\ e.isEmpty = true) then none
   else if op = 7 then (if who = 0 /\ ux n = true /\ yL name = true then kp jn (some name) else none)
   else if ¬ name = [] then none
   else if op = 0 then fV Zk (gY who) (yC n d)
   else if op = 1 then fV Zj (gY who) (yC n d)
   else if op = 2 then fV Y3 (xA who) (yC n d)
   else if op = 3 then (if who = 0 then kp Y1 (yC n d) else none)
   else if op = 5 then (if who = 0 then kp YY (yC n d) else none)
   else if op = 4 then (if ux n = true then kp Y2 (xA who) else none)
   else if op = 6 then (if ux n = true then kp YX (xA who) else none)
   else none
termination_by structural x => x
def vi : List zW -> Nat -> Option Bt
 | [], _ => some []
 | x :: r, d => (vG x d).bind fun s => (vi r d).bind fun u => some (vy ++ s ++ u)
termination_by structural x => x
end
end Tp
namespace Tp
open Go Go.Eng Wd Kd
theorem wI (op n who : Int) (d : Nat) : yC (.mk op n who []) d = uB op n who := by rw [yC]
def b7 (op : Int) (a b : zY) (d : Nat) : Option Bt :=
 if op = 11 then uf (cR Xs) (fX d (yC a)) (fX d (yC b))
 else if op = 12 then uf (cR Xt) (fX d (yC a)) (fX d (yC b))
 else if op = 10 then uf (xe wo) (jW (xM a) d (yC a)) (jW (xM b || decide (Jh b = 10)) d (yC b))
 else if op = 8 then uf (xe jd) (yC a d) (jW (xM b) d (yC b))
 else if op = 9 then uf (xe uc) (yC a d) (jW (xM b) d (yC b))
 else none
theorem k8 (op n who : Int) (a b : zY) (d : Nat) : yC (.mk op n who [a, b]) d = if ¬ (n = 0 /\ who = 0) then none else b7 op a b d := by rw [yC]; rfl
theorem Wr (op n who : Int) (k : List zY) (d : Nat) (h0 : k ≠ []) (h2 : ∀ a b, k ≠ [a, b]) : yC (.mk op n who k) d = none := by
 match k, h0, h2 with
 | [], h0, _ => exact absurd rfl h0
 | [a], _, _ => rw [yC]; all_goals (intros; simp_all)
 | [a, b], _, h2 => exact absurd rfl (h2 a b)
 | a :: b :: c :: r, _, _ => rw [yC]; all_goals (intros; simp_all)
variable {n op who : Int}
theorem HZ (h : 8 <= op) : uB op n who = none := by
 unfold uB;rw [if_neg za]
 split
 ·rfl
 rw [if_neg za, if_neg za, if_neg za, if_neg za]
 split
 ·rfl
 rw [if_neg za, if_neg za, if_neg za]
variable {a b : zY} {d : Nat}
theorem Gi (h : ¬ (8 <= op /\ op <= 12)) : b7 op a b d = none := by
 unfold b7;rw [if_neg za, if_neg za, if_neg za, if_neg za, if_neg za]
variable {k : List zY}
theorem M9 (h : 8 <= op) (hb : ¬ (n = 0 /\ who = 0 /\ k.length = 2)) : yC (.mk op n who k) d = none := by
 by_cases h0 : k = []
 ·subst h0; rw [wI]; exact HZ h
 by_cases h2 : ∀ a b, k ≠ [a, b]
 ·exact Wr _ _ _ _ _ h0 h2
 ·simp only [Classical.not_forall, Classical.not_not] at h2;obtain ⟨a, b, rfl⟩ := h2;rw [k8, if_pos (fun h => hb ⟨h.1, h.2, rfl⟩)]
theorem GM (h : ¬ (8 <= op /\ op <= 12)) (hb : k.length ≠ 0) : yC (.mk op n who k) d = none := by
 by_cases h2 : ∀ a b, k ≠ [a, b]
 ·exact Wr _ _ _ _ _ (by rintro rfl; exact hb rfl) h2
 ·simp only [Classical.not_forall, Classical.not_not] at h2;obtain ⟨a, b, rfl⟩ := h2;rw [k8]
  split
  ·rfl
  ·exact Gi h
theorem GR (hb : ¬ ((n = 0 \/ op = 0) /\ (who = 0 \/ (1 <= op /\ op <= 4)))) : uB op n who = none := by
 unfold uB
 split
 ·rw [if_neg];rintro ⟨h1, -, -⟩;exact hb ⟨.inr ‹_›, .inl h1⟩
 split
 ·rfl
 rename_i h0 hn
 have hn : n = 0 := by omega
 have hw : who ≠ 0 /\ ¬ (1 <= op /\ op <= 4) := by
  refine ⟨fun h => hb ⟨.inl hn, .inl h⟩, fun h => hb ⟨.inl hn, .inr h⟩⟩
 rw [if_neg za, if_neg za, if_neg za, if_neg za, if_pos hw.1]
variable {s : Bt}
theorem wd {w : Int} (h : xA w = some s) : s.length <= 3 := by
 unfold xA at h
 split at h
 ·cases h; decide
 ·split at h
  ·cases h; decide
  ·cases h
theorem I7 (n : Nat) : (dg n).length <= 3 := by
 unfold dg
 split
 ·exact Nat.le_add_left 1 2
 ·split <;> simp
theorem GQ (h : uB op n who = some s) : s.length <= 20 := by
 have side : ∀ (w : Bt), w.length <= 5 -> ((xA who).map fun s => w ++ zL ++ s ++ zz) = some s -> s.length <= 20 := by
  intro w hw h;cases hs : xA who with
  | none => rw [hs] at h; cases h
  | some t =>
    rw [hs] at h;cases h;have := wd hs;simp only [List.length_append, List.length_cons, List.length_nil];omega
 unfold uB at h
 split at h
 ·split at h
  ·cases h;have := I7 n.toNat;unfold qO;omega
  ·cases h
 ·split at h
  ·cases h
  ·split at h
   ·exact side YZ zb h
   ·split at h
    ·exact side Y0 zb h
    ·split at h
     ·exact side Y4 zb h
     ·split at h
      ·exact side aw zb h
      ·split at h
       ·cases h
       ·split at h
        ·cases h; decide
        ·split at h
         ·cases h; decide
         ·split at h
          ·cases h; decide
          ·cases h
theorem y2 {f : Bt -> Bt -> Bt} {a b : Option Bt} (h : uf f a b = some s) : ∃ u v, a = some u /\ b = some v /\ s = f u v := by
 unfold uf at h;cases a with
 | none => cases h
 | some u =>
   cases b with
   | none => cases h
   | some v => exact ⟨u, v, rfl, rfl, (Option.some.inj h).symm⟩
variable {f : Nat -> Option Bt}
theorem wD (h : fX d f = some s) : d + 1 <= 8 /\ f (d + 1) = some s := by
 unfold fX at h
 split at h
 ·exact ⟨‹_›, h⟩
 ·cases h
variable {br : Bool}
theorem fE (h : jW br d f = some s) : (br = false /\ f d = some s) \/ (br = true /\ d + 1 <= 8 /\ ∃ t, f (d + 1) = some t /\ s = zL ++ t ++ zz) := by
 unfold jW at h;cases br with
 | false => exact .inl ⟨rfl, h⟩
 | true =>
   rw [if_pos rfl] at h;cases hi : fX d f with
   | none => rw [hi] at h; cases h
   | some t =>
     rw [hi] at h;cases h;obtain ⟨h1, h2⟩ := wD hi;exact .inr ⟨rfl, h1, t, h2, rfl⟩
theorem gf {w c : Nat} (hf : ∀ d s, f d = some s -> s.length + c <= w) (h : jW br d f = some s) : s.length + c <= w + 2 := by
 rcases fE h with ⟨-, h⟩ | ⟨-, -, t, h, rfl⟩
 ·have := hf _ _ h; omega
 ·have := hf _ _ ‹f (d + 1) = some t›;simp only [List.length_append, List.length_cons, List.length_nil];omega
theorem JX (op n who : Int) (a b : zY) : zV (.mk op n who [a, b]) = 1 + zV a + zV b := by rw [fS]; simp; omega
theorem eK (h : yC (.mk op n who k) d = some s) : (k = [] /\ uB op n who = some s) \/ ∃ a b, k = [a, b] /\ n = 0 /\ who = 0 /\ b7 op a b d = some s := by
 by_cases h0 : k = []
 ·subst h0;rw [wI] at h;exact .inl ⟨rfl, h⟩
 by_cases h2 : ∀ a b, k ≠ [a, b]
 ·rw [Wr _ _ _ _ _ h0 h2] at h; cases h
 ·simp only [Classical.not_forall, Classical.not_not] at h2;obtain ⟨a, b, rfl⟩ := h2;rw [k8] at h
  split at h
  ·cases h
  ·rename_i hn
   have hn : n = 0 /\ who = 0 := Classical.not_not.1 hn;exact .inr ⟨a, b, rfl, hn.1, hn.2, h⟩
theorem HK {wa wb : Nat} (ha : ∀ d s, yC a d = some s -> s.length <= wa) (hb : ∀ d s, yC b d = some s -> s.length <= wb) (h : b7 op a b d = some s) : s.length <= wa + wb + 7 := by
 unfold b7 at h;have hba : ∀ br d s, jW br d (yC a) = some s -> s.length <= wa + 2 := fun br d s h => gf (c := 0) ha h;have hbb : ∀ br d s, jW br d (yC b) = some s -> s.length <= wb + 2 := fun br d s h => gf (c := 0) hb h
 split at h
 ·obtain ⟨u, v, h1, h2, rfl⟩ := y2 h;have := ha _ _ (wD h1).2;have := hb _ _ (wD h2).2;simp only [cR, xe, List.length_append, List.length_cons, List.length_nil];omega
 split at h
 ·obtain ⟨u, v, h1, h2, rfl⟩ := y2 h;have := ha _ _ (wD h1).2;have := hb _ _ (wD h2).2;simp only [cR, xe, List.length_append, List.length_cons, List.length_nil];omega
 split at h
 ·obtain ⟨u, v, h1, h2, rfl⟩ := y2 h;have := hba _ _ _ h1;have := hbb _ _ _ h2;simp only [cR, xe, List.length_append, List.length_cons, List.length_nil];omega
 split at h
 ·obtain ⟨u, v, h1, h2, rfl⟩ := y2 h;have := ha _ _ h1;have := hbb _ _ _ h2;simp only [cR, xe, List.length_append, List.length_cons, List.length_nil];omega
 split at h
 ·obtain ⟨u, v, h1, h2, rfl⟩ := y2 h;have := ha _ _ h1;have := hbb _ _ _ h2;simp only [cR, xe, List.length_append, List.length_cons, List.length_nil];omega
 ·cases h
theorem qM : ∀ {x : zY} {d : Nat} {s : Bt}, yC x d = some s -> s.length <= 24 * zV x
 | .mk op n who k, d, s, h => by
   rcases eK h with ⟨hk, h⟩ | ⟨a, b, hk, -, -, h⟩
   ·have := GQ h;rw [fS, hk];simp only [List.map_nil, List.sum_nil];omega
   ·have := HK (fun d s h => qM (x := a) h) (fun d s h => qM (x := b) h) h;rw [hk, JX];omega
termination_by x => SizeOf.sizeOf x
decreasing_by
 all_goals
  subst hk
  simp
  omega
end Tp
section
open Wd Tp Kd
variable {m : Mp} {b d p : Nat}
abbrev pr (b p d : Nat) : yb := cel b [.int .i64 (p : Nat), .int .i64 (d : Nat)] 119
abbrev eg : Value := .iface 114 (.agg [].toArray)
def Ih (f : FuncId) (args : Lv) (m : Mp) (b p d : Nat) (r : Option Bt) (w : Nat) : Prop :=
 Vw Tryz.prog f args m [pr b p d] (fun v L' => ∃ s, r = some s /\ p + w <= 200 /\ v = .string (bs s) /\ L' = [pr b (p + w) d]) (fun v _ => (r = none \/ 200 < p + w) /\ v = eg)
def Dv (f : FuncId) (args : Lv) (m : Mp) (r : Option Bt) : Prop :=
 Vw Tryz.prog f args m [] (fun v L' => ∃ s, r = some s /\ v = .string (bs s) /\ L' = []) (fun v _ => r = none /\ v = eg)
def CY (f : FuncId) (args : Lv) (m : Mp) (q : Prop) : Prop :=
 Vw Tryz.prog f args m [] (fun v L' => q /\ v = U0 /\ L' = []) (fun v _ => ¬ q /\ v = eg)
theorem zq {q : Bool} : CY 29 [.bool q] m (q = true) := by
 refine ym [] Tryz.func29 rfl rfl rfl ?_;cases q with
 | true =>
   refine tr 8 ?_;exact wu [] trivial [] ya ⟨rfl, rfl, rfl⟩
 | false =>
   refine tr 8 ?_;refine pe 0 (zA R6 Eb rfl rfl) ?_;refine pe 0 (vW Sj R8 rfl) ?_;refine zg (kept := false) (Hr rfl ?_) rfl;exact pn ⟨by decide, rfl⟩
theorem wZ (hp : p <= 200) : Vw Tryz.prog 130 [zS b] m [pr b p d] (fun v L' => p + 1 <= 200 /\ v = U0 /\ L' = [pr b (p + 1) d]) (fun v _ => 200 < p + 1 /\ v = eg) := by
 refine ym [] Tryz.func130 rfl rfl rfl ?_;by_cases h : p + 1 <= 200
 ·refine tr 5 ?_;refine Lb 0 yl .here ?_;refine Pa 2 ?_;refine Sr 6 fB .here .here ?_;refine Lb 0 yl .here ?_;refine y4 0 ?_;refine Cn ye rfl zq ?_ ?_
  ·rintro _ _ ⟨h1, rfl⟩;exact absurd rfl h1
  rintro _ _ ⟨-, rfl, rfl⟩;refine vr 1 ?_;exact wu [] trivial [_] .p0 ⟨h, rfl, rfl⟩
 ·refine tr 5 ?_;refine Lb 0 yl .here ?_;refine Pa 2 ?_;refine Sr 6 fB .here .here ?_;refine Lb 0 yl .here ?_;refine zH 0 ?_;refine Cn ye rfl zq ?_ ?_
  ·rintro _ _ ⟨h1, rfl⟩;skip;exact pn ⟨by omega, rfl⟩
  rintro _ _ ⟨h1, rfl, rfl⟩;cases h1
theorem eA {g : FuncId} {q : Lv} {r : Nat -> Option Bt} {w : Nat} (hd : d <= 8) (hcl : yX Tryz.prog g = true) (hg : d + 1 <= 8 -> ∀ m', Le m m' -> Ih g q m' b p (d + 1) (r (d + 1)) w) : Ih 134 [zS b, .func (.func g) [].toArray q.toArray] m b p d (fX d r) w := by
 refine ym [.tmp 4] Tryz.func134 rfl rfl rfl ?_;unfold fX;by_cases h : d + 1 <= 8
 ·rw [if_pos h];refine tr 10 ?_;refine Lb 0 yl .here ?_;refine Pa 2 ?_;refine Sr 7 fB .here .h1 ?_;refine Lb 0 yl .here ?_;refine y4 0 ?_;refine Cn ye rfl zq ?_ ?_
  ·rintro _ _ ⟨h1, rfl⟩;exact absurd rfl h1
  rintro _ _ ⟨-, rfl, rfl⟩;refine vr 5 ?_;refine zg (vV (p := []) (q := q) (vs := []) hcl rfl rfl .k0 (fun m' hm he => hg h m' hm) rfl ?_ ?_) rfl
  ·rintro _ _ ⟨h1, rfl⟩;exact pn ⟨h1, rfl⟩
  rintro _ _ ⟨s, h1, h2, rfl, rfl⟩;refine vr 8 ?_;refine Lb 0 yl .here ?_;refine pe 2 (bd rfl rfl (fK za za)) ?_;refine Sr 9 fB .here .h1 ?_;have e1 : ((d + 1 : Nat) : Int) - 1 = (d : Nat) := by omega
  rw [e1];exact yp [_] zj [_] .p0 ⟨s, h1, h2, rfl, rfl⟩
 ·rw [if_neg h];refine tr 10 ?_;refine Lb 0 yl .here ?_;refine Pa 2 ?_;refine Sr 7 fB .here .h1 ?_;refine Lb 0 yl .here ?_;refine zH 0 ?_;refine Cn ye rfl zq ?_ ?_
  ·rintro _ _ ⟨h1, rfl⟩;exact pn ⟨.inl rfl, rfl⟩
  rintro _ _ ⟨h1, rfl, rfl⟩;cases h1
theorem kO {w : Int} : Dv 131 [.int .i8 w] m (xA w) := by
 refine ym [.tmp 2] Tryz.func131 rfl rfl rfl ?_;unfold xA;by_cases h0 : w = 0
 ·rw [if_pos h0];refine tr 8 ?_;refine yr 4 ?_;refine Cn ye rfl zq ?_ ?_
  ·rintro _ _ ⟨h1, rfl⟩;exact absurd rfl h1
  rintro _ _ ⟨-, rfl, rfl⟩;refine vr 6 ?_;refine yr 10 ?_;exact C5 zj ⟨ar, rfl, rfl, rfl⟩
 rw [if_neg h0];by_cases h1 : w = 1
 ·rw [if_pos h1];refine tr 8 ?_;refine zF 2 ?_;refine yr 1 ?_;refine Cn ye rfl zq ?_ ?_
  ·rintro _ _ ⟨h1, rfl⟩;exact absurd rfl h1
  rintro _ _ ⟨-, rfl, rfl⟩;refine vr 6 ?_;refine zF 11 ?_;exact C5 zj ⟨fL, rfl, rfl, rfl⟩
 ·rw [if_neg h1];refine tr 8 ?_;refine zF 2 ?_;refine zF 1 ?_;refine Cn ye rfl zq ?_ ?_
  ·rintro _ _ ⟨h1, rfl⟩;exact pn ⟨rfl, rfl⟩
  rintro _ _ ⟨h1, rfl, rfl⟩;cases h1
variable {K : Oa} {k kc : Nat} {n op who : Int}
theorem Yb : CS Tryz.prog 172 [.agg [.int .i8 op, .int .i64 n, .int .i8 who, .slice K k kc].toArray] m [] (vQ (.bool (decide (op = 8) || decide (op = 9)))) := by
 refine yQ [.tmp 2] Tryz.func172 rfl rfl rfl ?_;by_cases h8 : op = 8
 ·refine tr 2 ?_;refine Bx 6 rfl fun b1 => ?_;refine Lb 0 ze .here ?_;refine yr 9 ?_;exact xE zj ⟨by rw [decide_eq_true h8]; rfl, rfl⟩
 by_cases h9 : op = 9
 ·refine tr 2 ?_;refine Bx 6 rfl fun b1 => ?_;refine Lb 0 ze .here ?_;refine zF 2 ?_;refine Lb 0 ze .here ?_;refine yr 5 ?_;exact xE zj ⟨by rw [decide_eq_true h9, Bool.or_true]; rfl, rfl⟩
 ·refine tr 2 ?_;refine Bx 6 rfl fun b1 => ?_;refine Lb 0 ze .here ?_;refine zF 2 ?_;refine Lb 0 ze .here ?_;refine zF 5 ?_;exact xE zj ⟨by rw [decide_eq_false h8, decide_eq_false h9]; rfl, rfl⟩
theorem kb {j : Nat} (hk : k <= 9223372036854775807) (hj : j <= 10) : CY 151 [.agg [.int .i8 op, .int .i64 n, .int .i8 who, .slice K k kc].toArray, .int .i64 (j : Nat)] m ((n = 0 \/ op = 0) /\ (who = 0 \/ (1 <= op /\ op <= 4)) /\ k = j) := by
 refine ym [] Tryz.func151 rfl rfl rfl ?_;by_cases hn : n = 0
 ·skip;by_cases hw : who = 0
  ·skip;by_cases hk2 : k = j
   ·skip;refine tr 2 ?_;refine Bx 4 rfl fun b1 => ?_;refine Lb 0 yl .here ?_;refine yr 7 ?_;refine Lb 0 ze .here ?_;refine yr 13 ?_;refine Lb 2 xO .here ?_;refine y4 1 ?_;refine Cn ye rfl zq ?_ ?_
    ·rintro _ _ ⟨h1, rfl⟩;exact absurd rfl h1
    rintro _ _ ⟨-, rfl, rfl⟩;refine vr 1 ?_;exact wu [] trivial [] ya ⟨by omega, rfl, rfl⟩
   ·skip;refine tr 2 ?_;refine Bx 4 rfl fun b1 => ?_;refine Lb 0 yl .here ?_;refine yr 7 ?_;refine Lb 0 ze .here ?_;refine yr 13 ?_;refine Lb 2 xO .here ?_;refine zH 1 ?_;refine Cn ye rfl zq ?_ ?_
    ·rintro _ _ ⟨h1, rfl⟩;skip;exact pn ⟨by omega, rfl⟩
    rintro _ _ ⟨h1, rfl, rfl⟩;cases h1
  ·skip;by_cases hg : 1 <= op
   ·skip;by_cases hl : op <= 4
    ·skip;by_cases hk2 : k = j
     ·skip;refine tr 2 ?_;refine Bx 4 rfl fun b1 => ?_;refine Lb 0 yl .here ?_;refine yr 7 ?_;refine Lb 0 ze .here ?_;refine zF 2 ?_;refine Lb 0 ze .here ?_;refine yr 2 ?_;refine Lb 0 ze .here ?_;refine yr 5 ?_;refine Lb 2 xO .here ?_;refine y4 1 ?_;refine Cn ye rfl zq ?_ ?_
      ·rintro _ _ ⟨h1, rfl⟩;exact absurd rfl h1
      rintro _ _ ⟨-, rfl, rfl⟩;refine vr 1 ?_;exact wu [] trivial [] ya ⟨by omega, rfl, rfl⟩
     ·skip;refine tr 2 ?_;refine Bx 4 rfl fun b1 => ?_;refine Lb 0 yl .here ?_;refine yr 7 ?_;refine Lb 0 ze .here ?_;refine zF 2 ?_;refine Lb 0 ze .here ?_;refine yr 2 ?_;refine Lb 0 ze .here ?_;refine yr 5 ?_;refine Lb 2 xO .here ?_;refine zH 1 ?_;refine Cn ye rfl zq ?_ ?_
      ·rintro _ _ ⟨h1, rfl⟩;skip;exact pn ⟨by omega, rfl⟩
      rintro _ _ ⟨h1, rfl, rfl⟩;cases h1
    ·skip;refine tr 2 ?_;refine Bx 4 rfl fun b1 => ?_;refine Lb 0 yl .here ?_;refine yr 7 ?_;refine Lb 0 ze .here ?_;refine zF 2 ?_;refine Lb 0 ze .here ?_;refine yr 2 ?_;refine Lb 0 ze .here ?_;refine zF 10 ?_;refine Cn ye rfl zq ?_ ?_
     ·rintro _ _ ⟨h1, rfl⟩;skip;exact pn ⟨by omega, rfl⟩
     rintro _ _ ⟨h1, rfl, rfl⟩;cases h1
   ·skip;refine tr 2 ?_;refine Bx 4 rfl fun b1 => ?_;refine Lb 0 yl .here ?_;refine yr 7 ?_;refine Lb 0 ze .here ?_;refine zF 2 ?_;refine Lb 0 ze .here ?_;refine zF 14 ?_;refine Cn ye rfl zq ?_ ?_
    ·rintro _ _ ⟨h1, rfl⟩;skip;exact pn ⟨by omega, rfl⟩
    rintro _ _ ⟨h1, rfl, rfl⟩;cases h1
 ·skip;by_cases ho : op = 0
  ·skip;by_cases hw : who = 0
   ·skip;by_cases hk2 : k = j
    ·skip;refine tr 2 ?_;refine Bx 4 rfl fun b1 => ?_;refine Lb 0 yl .here ?_;refine zF 2 ?_;refine Lb 0 ze .here ?_;refine yr 3 ?_;refine Lb 0 ze .here ?_;refine yr 13 ?_;refine Lb 2 xO .here ?_;refine y4 1 ?_;refine Cn ye rfl zq ?_ ?_
     ·rintro _ _ ⟨h1, rfl⟩;exact absurd rfl h1
     rintro _ _ ⟨-, rfl, rfl⟩;refine vr 1 ?_;exact wu [] trivial [] ya ⟨by omega, rfl, rfl⟩
    ·skip;refine tr 2 ?_;refine Bx 4 rfl fun b1 => ?_;refine Lb 0 yl .here ?_;refine zF 2 ?_;refine Lb 0 ze .here ?_;refine yr 3 ?_;refine Lb 0 ze .here ?_;refine yr 13 ?_;refine Lb 2 xO .here ?_;refine zH 1 ?_;refine Cn ye rfl zq ?_ ?_
     ·rintro _ _ ⟨h1, rfl⟩;skip;exact pn ⟨by omega, rfl⟩
     rintro _ _ ⟨h1, rfl, rfl⟩;cases h1
   ·skip;refine tr 2 ?_;refine Bx 4 rfl fun b1 => ?_;refine Lb 0 yl .here ?_;refine zF 2 ?_;refine Lb 0 ze .here ?_;refine yr 3 ?_;refine Lb 0 ze .here ?_;refine zF 2 ?_;refine Lb 0 ze .here ?_;refine zH 14 ?_;refine Cn ye rfl zq ?_ ?_
    ·rintro _ _ ⟨h1, rfl⟩;skip;exact pn ⟨by omega, rfl⟩
    rintro _ _ ⟨h1, rfl, rfl⟩;cases h1
  ·skip;refine tr 2 ?_;refine Bx 4 rfl fun b1 => ?_;refine Lb 0 yl .here ?_;refine zF 2 ?_;refine Lb 0 ze .here ?_;refine zF 23 ?_;refine Cn ye rfl zq ?_ ?_
   ·rintro _ _ ⟨h1, rfl⟩;skip;exact pn ⟨by omega, rfl⟩
   rintro _ _ ⟨h1, rfl, rfl⟩;cases h1
end
section
open Wd Tp Kd
theorem OA (l : List Bt) (h : l.all (fun s => s.all (fun b => decide (b.toNat < 128)) && decide (s.length <= 1000)) = true) : ∀ s ∈ l, bj s /\ s.length <= 1000 := fun s hs => by
 have := List.all_eq_true.1 h s hs;simp only [Bool.and_eq_true, decide_eq_true_eq] at this;exact ⟨qA _ this.1, this.2⟩
theorem HW (s : Bt) (ts : List yf) : eM [s] ts = wi s ts := by
 unfold eM;cases wi s ts <;> rfl
variable {m : Mp} {b c at_ d p : Nat} {A : Oa} {ws ts : List yf}
theorem xF {s : Bt} {X : Oa} {xc : Nat} (hw : eu m A ws) (hX : Rd m X [xm s]) (ha : bj s) (hl : s.length <= 1000) (hp : jT ws at_ ts) :
  UL 79 [zS b, .slice X 1 xc] m b A c ws at_ d p (wi s ts) (fun _ => 0) uV := by
 have := XF (l := [s]) (b := b) (c := c) (d := d) (p := p) (xc := xc) hw hX yA (fun s' h => by rw [List.mem_singleton.1 h]; exact ⟨ha, hl⟩) hp;rwa [HW] at this
def K0 (m : Mp) (b : Nat) (A : Oa) (c : Nat) (ws : List yf) (sum : Nat -> List yf -> R zY) (k : Nat) : Prop :=
 ∀ m', Le m m' -> ∀ (at_ d p : Nat) (ts : List yf), jT ws at_ ts -> d <= 8 -> p + ts.length <= 4611686018427387904 -> ts.length < k -> UL 140 [zS b] m' b A c ws at_ d p (sum d ts) zV M8
abbrev DV : zY × zY -> Value -> List yb -> Prop := fun x v Es => ∃ (q r : Vj) (e : yb), v = .tuple [.agg q.v.toArray, .agg r.v.toArray].toArray /\ Es = [e] /\ ∀ ns, e.inv ns -> xr ns q.v x.1 /\ xr ns r.v x.2
abbrev DU (two : Bool) : zY × zY -> Nat := fun x => zV x.1 + if two then zV x.2 else 0
theorem aX {two : Bool} {sum : Nat -> List yf -> R zY} {k : Nat} (hw : eu m A ws) (hp : jT ws at_ ts) (hd : d <= 8) (hb : p + ts.length <= 4611686018427387904) (hk0 : ts.length < k + 1) (hse : ∀ d ts, ts.length < k -> Tp.Ends (sum d ts) zV ts.length) (hsum : K0 m b A c ws sum k) :
  UL 180 [zS b, .bool two] m b A c ws at_ d p (JQ sum two d ts) (DU two) DV := by
 generalize hF : JQ sum two d ts = F;unfold JQ at hF;refine ym [.cell 4 85, .cell 5 85] Tryz.func180 rfl rfl rfl ?_;refine tr 2 ?_;refine Al 0 uw fun b1 => ?_;refine Al 6 uw fun b2 => ?_;refine C1 W3 rfl .h2 (fun m' hm he => WH (s := zL) (hw.mono hm) hp (qA _ rfl) zb) ?_;rintro _ _ ⟨rfl, rfl⟩;cases hk : isW zL ts with
 | false =>
   rw [if_neg (by rw [hk]; decide)] at hF;refine vr 6 ?_;refine Cp eZ rfl .k0 (fun m' hm he => jR 120 (hw.mono hm) hp) ?_ ?_
   ·rintro _ _ rfl;exact pn ⟨120, _, hF.symm, rfl⟩
   ·rintro _ _ h;exact h.elim
 | true =>
 rw [if_pos hk] at hF;have hl0 := yG hk;refine vr 9 ?_;refine Cp Hb rfl .k0 (fun m' hm he => IY (hw.mono hm) hp hd) ?_ ?_
 ·rintro _ _ ⟨h8, rfl⟩;rw [Wl, if_pos h8] at hF;exact pn ⟨121, _, hF.symm, rfl⟩
 rintro _ _ ⟨h8, rfl, rfl⟩;rw [Wl, if_neg za] at hF;dsimp only [R.bind] at hF;refine vr 5 ?_;refine Bs 0 xH fun b3 => ?_;refine Cp uK rfl .k1 (fun m' hm he => xF (s := zL) (hw.mono hm) (Rd.blk (he _ (.head _))) (qA _ rfl) zb hp) ?_ ?_
 ·rintro _ _ ⟨e', a', h1, rfl⟩;rw [h1] at hF;exact pn ⟨e', a', hF.symm, rfl⟩
 rintro _ _ ⟨_, ts1, at1, _, h1, hp1, ⟨rfl, rfl⟩, rfl⟩;rw [h1] at hF;dsimp only [R.bind] at hF;have hl1 : 1 + ts1.length <= ts.length := (zK (s := zL) (ts := ts)).2 _ _ h1;clear h1;refine vr 5 ?_;refine Cp aW rfl .k0 (fun m' hm he => hsum m' hm at1 (d + 1) p ts1 hp1 h8 za za) ?_ ?_
 ·rintro _ _ ⟨e', a', h1, rfl⟩;rw [h1] at hF;exact pn ⟨e', a', hF.symm, rfl⟩
 rintro _ _ ⟨x, ts2, at2, _, h1, hp2, ⟨q, ex, rfl, rfl, hx⟩, rfl⟩;rw [h1] at hF;dsimp only [R.bind] at hF;have hl2 := (hse (d + 1) ts1 za).2 _ _ h1;clear h1;cases two with
 | false =>
   rw [if_neg zb] at hF;refine Sg 14 zT .h4 ?_;refine Bs 0 xH fun b4 => ?_;refine Cp uK rfl .k1 (fun m' hm he => xF (s := zz) (hw.mono hm) (Rd.blk (he _ (.head _))) (qA _ rfl) zb hp2) ?_ ?_
   ·rintro _ _ ⟨e', a', h1, rfl⟩;rw [h1] at hF;exact pn ⟨e', a', hF.symm, rfl⟩
   rintro _ _ ⟨_, ts3, at3, _, h1, hp3, ⟨rfl, rfl⟩, rfl⟩;rw [h1] at hF;dsimp only [R.bind] at hF;have hl3 : 1 + ts3.length <= ts2.length := (zK (s := zz) (ts := ts2)).2 _ _ h1;clear h1;refine vr 7 ?_;refine Lb 0 yl .here ?_;refine pe 2 (bd rfl rfl (fK za za)) ?_;refine Sr 3 fB .here .h2 ?_
   refine yw (sT [100] (.fork (sT [201, 302, 303] .done) (sT [302, 101, 303] .done))) mixed zi (fun _ _ _ _ hq => hq) ?_;refine Vu 0 rfl (wt zT rfl .h5 rfl) ?_;refine kf ?_ ?_;refine qR rfl (wt zT rfl .h4 rfl) rfl rfl rfl ?_;refine zM rfl rfl (zR zT rfl rfl rfl .h5 rfl rfl ?_) rfl
   refine zM rfl rfl (zR zT rfl rfl rfl .h4 rfl rfl ?_) rfl;refine Vm 2 ?_
   ·rw [show ((d + 1 : Nat) : Int) - 1 = (d : Nat) by omega];exact yp [_, _] ⟨⟨b1, _, _, _, rfl, .h5, .inr ⟨rfl, rfl⟩⟩, ⟨b2, _, _, _, rfl, .h4, .inr ⟨rfl, rfl⟩⟩, trivial⟩ _ (.cons .here .p1) ⟨_, ts3, at3, _, hF.symm, hp3, ⟨q, ⟨0, 0, 0, none, 0, 0⟩, ex, rfl, rfl, fun ns h => ⟨hx ns h, qv ⟨by decide, by decide⟩⟩⟩, rfl⟩
   ·refine zM rfl rfl (zR zT rfl rfl rfl .h5 rfl rfl ?_) rfl;refine Vu 0 rfl (wt zT rfl .h4 rfl) ?_;refine zM rfl rfl (zR zT rfl rfl rfl .h4 rfl rfl ?_) rfl;refine Vm 2 ?_;rw [show ((d + 1 : Nat) : Int) - 1 = (d : Nat) by omega]
    exact yp [_, _] ⟨⟨b1, _, _, _, rfl, .h5, .inr ⟨rfl, rfl⟩⟩, ⟨b2, _, _, _, rfl, .h4, .inr ⟨rfl, rfl⟩⟩, trivial⟩ _ (.cons .here .p1) ⟨_, ts3, at3, _, hF.symm, hp3, ⟨q, ⟨0, 0, 0, none, 0, 0⟩, ex, rfl, rfl, fun ns h => ⟨hx ns h, qv ⟨by decide, by decide⟩⟩⟩, rfl⟩
 | true =>
   rw [if_pos rfl] at hF;refine Sg 12 zT .h4 ?_;refine Bs 0 xH fun b4 => ?_;refine Cp uK rfl .k1 (fun m' hm he => xF (s := y9) (hw.mono hm) (Rd.blk (he _ (.head _))) (qA _ rfl) zb hp2) ?_ ?_
   ·rintro _ _ ⟨e', a', h1, rfl⟩;rw [h1] at hF;exact pn ⟨e', a', hF.symm, rfl⟩
   rintro _ _ ⟨_, ts3, at3, _, h1, hp3, ⟨rfl, rfl⟩, rfl⟩;rw [h1] at hF;dsimp only [R.bind] at hF;have hl3 : 1 + ts3.length <= ts2.length := (zK (s := y9) (ts := ts2)).2 _ _ h1;clear h1;refine vr 4 ?_;refine Cp aW rfl .k0 (fun m' hm he => hsum m' hm at3 (d + 1) (p + zV x) ts3 hp3 h8 za za) ?_ ?_
   ·rintro _ _ ⟨e', a', h1, rfl⟩;rw [h1] at hF;exact pn ⟨e', a', hF.symm, rfl⟩
   rintro _ _ ⟨y, ts4, at4, _, h1, hp4, ⟨r, ey, rfl, rfl, hy⟩, rfl⟩;rw [h1] at hF;dsimp only [R.bind] at hF;have hl4 := (hse (d + 1) ts3 za).2 _ _ h1;clear h1;refine Sg 5 zT .h5 ?_;refine Bs 0 xH fun b5 => ?_;refine Cp uK rfl .k1 (fun m' hm he => xF (s := zz) (hw.mono hm) (Rd.blk (he _ (.head _))) (qA _ rfl) zb hp4) ?_ ?_
   ·rintro _ _ ⟨e', a', h1, rfl⟩;rw [h1] at hF;exact pn ⟨e', a', hF.symm, rfl⟩
   rintro _ _ ⟨_, ts5, at5, _, h1, hp5, ⟨rfl, rfl⟩, rfl⟩;rw [h1] at hF;dsimp only [R.bind] at hF;have hl5 : 1 + ts5.length <= ts4.length := (zK (s := zz) (ts := ts4)).2 _ _ h1;clear h1;refine vr 7 ?_;refine Lb 0 yl .here ?_;refine pe 2 (bd rfl rfl (fK za za)) ?_;refine Sr 3 fB .here .h2 ?_
   refine yw (sT [100] (.fork (sT [201, 302, 303] .done) (sT [302, 101, 303] .done))) mixed zi (fun _ _ _ _ hq => hq) ?_;refine Vu 0 rfl (wt zT rfl .h7 rfl) ?_;refine kf ?_ ?_;refine qR rfl (wt zT rfl .h6 rfl) rfl rfl rfl ?_;refine zM rfl rfl (zR zT rfl rfl rfl .h7 rfl rfl ?_) rfl
   refine zM rfl rfl (zR zT rfl rfl rfl .h6 rfl rfl ?_) rfl;refine Vm 2 ?_
   ·rw [show ((d + 1 : Nat) : Int) - 1 = (d : Nat) by omega]
    exact yp [_, _] ⟨⟨b1, _, _, _, rfl, .h7, .inr ⟨rfl, rfl⟩⟩, ⟨b2, _, _, _, rfl, .h6, .inr ⟨rfl, rfl⟩⟩, trivial⟩ _ (.cons .here (zN.pack2 (.cons .h3 .p1))) ⟨_, ts5, at5, _, hF.symm, hp5, ⟨q, r, yF [ex, ey], rfl, rfl, fun ns h => ⟨hx ns (h.1 _ (.head _)), hy ns (h.1 _ (.tail _ (.head _)))⟩⟩, by show [rd b A c ws at5 d (p + zV x + zV y), yF [ex, ey]] = [rd b A c ws at5 d (p + (zV x + zV y)), yF [ex, ey]]; rw [Nat.add_assoc]⟩
   ·refine zM rfl rfl (zR zT rfl rfl rfl .h7 rfl rfl ?_) rfl;refine Vu 0 rfl (wt zT rfl .h6 rfl) ?_;refine zM rfl rfl (zR zT rfl rfl rfl .h6 rfl rfl ?_) rfl;refine Vm 2 ?_;rw [show ((d + 1 : Nat) : Int) - 1 = (d : Nat) by omega]
    exact yp [_, _] ⟨⟨b1, _, _, _, rfl, .h7, .inr ⟨rfl, rfl⟩⟩, ⟨b2, _, _, _, rfl, .h6, .inr ⟨rfl, rfl⟩⟩, trivial⟩ _ (.cons .here (zN.pack2 (.cons .h3 .p1))) ⟨_, ts5, at5, _, hF.symm, hp5, ⟨q, r, yF [ex, ey], rfl, rfl, fun ns h => ⟨hx ns (h.1 _ (.head _)), hy ns (h.1 _ (.tail _ (.head _)))⟩⟩, by show [rd b A c ws at5 d (p + zV x + zV y), yF [ex, ey]] = [rd b A c ws at5 d (p + (zV x + zV y)), yF [ex, ey]]; rw [Nat.add_assoc]⟩
end
section
open Wd Tp Kd
variable {m : Mp} {b c at_ d p : Nat} {A : Oa} {ws ts : List yf}
variable {k : Nat} {sum : Nat -> List yf -> R zY}
theorem K0.mono {m' : Mp} (h : K0 m b A c ws sum k) (hl : Le m m') : K0 m' b A c ws sum k := fun m2 h2 => h m2 (hl.trans h2)
variable {i : Nat}
theorem Po (h : i < gX.length) : ([xm YZ, xm Y0, xm Y4, xm aw] : Lv)[i]? = some (xm gX[i].1) := by
 match i, h with
 | 0, _ => rfl
 | 1, _ => rfl
 | 2, _ => rfl
 | 3, _ => rfl
theorem Pn (h : i < gX.length) : gX[i].2 = 1 + (i : Nat) := by
 match i, h with
 | 0, _ => rfl
 | 1, _ => rfl
 | 2, _ => rfl
 | 3, _ => rfl
theorem Mi (h : i < gX.length) : bj gX[i].1 /\ gX[i].1.length <= 1000 := OA (gX.map (·.1)) rfl _ (List.mem_map.2 ⟨gX[i], List.getElem_mem h, rfl⟩)
theorem Tf (hw : eu m A ws) (hp : jT ws at_ ts) (hd8 : d <= 8) (hb : p + ts.length <= 4611686018427387904) (hk0 : ts.length < k + 1) (hse : ∀ d ts, ts.length < k -> Tp.Ends (sum d ts) zV ts.length) (hsum : K0 m b A c ws sum k) :
  UL 174 [zS b] m b A c ws at_ d p (ja sum d ts) zV M8 := by
 generalize hF : ja sum d ts = F;unfold ja at hF;have hsm := hp.small;have hlt := hp.lt;refine ym [.cell 2 85] Tryz.func174 rfl rfl rfl ?_;refine tr 2 ?_;refine Al 6 uw fun b1 => ?_;refine C1 W3 rfl .h1 (fun m' hm he => WH (s := zL) (hw.mono hm) hp (qA _ rfl) zb) ?_;rintro _ _ ⟨rfl, rfl⟩;cases hko : isW zL ts with
 | true =>
   rw [if_pos hko] at hF;refine vr 6 ?_;refine Cp Og rfl .k0 (fun m' hm he => aX (two := false) (hw.mono hm) hp hd8 hb hk0 hse (hsum.mono hm)) ?_ ?_
   ·rintro _ _ ⟨e', a', h1, rfl⟩;rw [h1] at hF;exact pn ⟨e', a', hF.symm, rfl⟩
   rintro _ _ ⟨x, ts1, at1, _, h1, hp1, ⟨q, r, e, rfl, rfl, hx⟩, rfl⟩;rw [h1] at hF;dsimp only [R.bind] at hF;clear h1;refine vr 3 ?_;refine Al 0 uw fun b2 => ?_;refine Al 0 uw fun b3 => ?_;refine Sg 0 zT .h1 ?_;refine Sg 4 zT .here ?_;refine Lc 0 zT .h1 ?_;refine Sg 4 zT .h4 ?_
   exact yp [_] ⟨⟨b1, _, _, _, rfl, .h4, .inr ⟨rfl, rfl⟩⟩, trivial⟩ _ (.cons .h2 .p2) ⟨x.1, ts1, at1, _, hF.symm, hp1, ⟨q, e, rfl, rfl, fun ns h => (hx ns h).1⟩, rfl⟩
 | false =>
 rw [if_neg (by rw [hko]; decide)] at hF;have hat := hp.word hw;have hA := hp.isSome hw;refine vr 10 ?_;refine Lb 0 yl .here ?_;refine Pa 2 ?_;refine Sr 4 fB .here .h3 ?_;refine yw (sT [0, 1, 2, 4, 5, 6, 103, 107, 8, 9, 110, 11] .done) mixed zi (fun _ _ _ _ hq => hq) ?_;refine vt 6 ?_;refine Vl 0 rfl gu .here ?_;refine Vl 0 rfl yl .here ?_
 refine Vt 1 rfl (zo kC rfl rfl hA za) ?_;refine Vu 0 rfl (zl ze rfl (hat.at_ rfl)) ?_;by_cases h2 : (hd ts).kind = 2
 ·have hnx := hp.next za;rw [if_pos h2] at hF;refine Vt 0 rfl (dt (y3 rfl rfl) xi) ?_;refine Vm 5 ?_;refine Cp W1 rfl .k0 (fun m' hm he => qu (hw.mono hm) hp) ?_ ?_
  ·rintro _ _ ⟨e', a', h1, rfl⟩;rw [xY, if_pos h2] at h1;cases h1
  rintro _ _ ⟨x, ts1, at1, _, h1, hp1, ⟨rfl, rfl⟩, rfl⟩;rw [xY, if_pos h2] at h1;cases h1;refine pe 0 (zA uw da rfl rfl) ?_;refine Sg 4 zT .h1 ?_
  exact yp [_] ⟨⟨b1, _, _, _, rfl, .h1, .inr ⟨rfl, rfl⟩⟩, trivial⟩ _ (.cons .here (zN.nilE (.nil _))) ⟨_, ts.tail, at1, _, hF.symm, hp1, ⟨⟨0, (hd ts).n, 0, none, 0, 0⟩, yF [], rfl, rfl, fun ns _ => qv (op := 0) ⟨by decide, by decide⟩⟩, by show [rd b A c ws at1 d (p + 1), yF []] = [rd b A c ws at1 d (p + zV (qs 0 (hd ts).n 0)), yF []]; rw [ug]⟩
 rw [if_neg h2] at hF;refine Vt 0 rfl (df (y3 rfl rfl) xi) ?_;refine Vm 7 ?_;refine Bs 5 xH fun b2 => ?_
 refine yv (α := Nat) (fun i => [(0, zS b), (2, zS b1), (42, .slice (some ⟨b2, 0, none⟩) 4 4), (43, .int .i64 4), (44, .int .i64 (i : Nat))]) (fun i => [cel b2 [xm YZ, xm Y0, xm Y4, xm aw] 9, rd b A c ws at_ d (p + 1), cel b1 [.int .i8 0, .int .i64 0, .int .i8 0, .slice none 0 0] 85]) (fun i => i <= gX.length /\ ∀ (j : Nat) (hj : j < gX.length), j < i -> isW gX[j].1 ts = false) (fun i => gX.length - i) 0 vX zx ⟨Nat.zero_le _, fun _ _ h => by cases h⟩ ?_
 rintro i ⟨hi, hno⟩;have hwl : gX.length = 4 := rfl;by_cases hli : i < gX.length
 ·have hcx : ([xm YZ, xm Y0, xm Y4, xm aw] : Lv)[i]? = some (xm gX[i].1) := Po hli;have hfa := fun h => ZO (ts := ts) hli h hno;have hw2 := Pn hli;have hai := Mi hli
  have hnext : isW gX[i].1 ts = false -> ∀ (j : Nat) (hj : j < gX.length), j < i + 1 -> isW gX[j].1 ts = false := fun h j hj h2 => by
   by_cases hji : j < i
   ·exact hno j hj hji
   ·obtain rfl : j = i := by omega
    exact h
  generalize gX[i] = sg at hcx hfa hw2 hai hnext;refine tr 2 ?_;refine y4 11 ?_;refine pe 0 (zw ql rfl rfl rfl za) ?_;refine lr 8 (XU yI rfl .here hcx) ?_;refine C1 ge rfl .h1 (fun m' hm he => wS (s := sg.1) (hw.mono hm) hp hai.1 hai.2) ?_;rintro _ _ (⟨hk1, hp1, rfl, rfl⟩ | ⟨hk1, rfl, rfl⟩)
  rotate_left
  ·refine vr 7 ?_;refine Pa 2 ?_;exact QR (i + 1) (.cons .h1 .pp) ⟨hli, hnext hk1⟩ za
  have hl1 := yG hk1;rw [hfa hk1] at hF;dsimp only at hF;refine vr 6 ?_;refine Bs 0 xH fun b3 => ?_;refine Cp uK rfl .k1 (fun m' hm he => xF (s := zL) (hw.mono hm) (Rd.blk (he _ (.head _))) (qA _ rfl) zb hp1) ?_ ?_
  ·rintro _ _ ⟨e', a', h1, rfl⟩;rw [h1] at hF;refine yk ?_;refine zC ?_;exact pn ⟨e', a', hF.symm, rfl⟩
  rintro _ _ ⟨_, ts2, at2, _, h1, hp2, ⟨rfl, rfl⟩, rfl⟩;rw [h1] at hF;dsimp only [R.bind] at hF;have hl2 : 1 + ts2.length <= ts.tail.length := (zK (s := zL) (ts := ts.tail)).2 _ _ h1;clear h1;refine vr 5 ?_;refine pe 0 ((ww DT Tz rfl (w8 za za))) ?_;skip;refine pe 1 ((wO rfl rfl (w8 za za))) ?_
  refine Cp W4 rfl .k0 (fun m' hm he => cG (hw.mono hm) hp2) ?_ ?_
  ·rintro _ _ ⟨e', a', h1, rfl⟩;rw [h1] at hF;refine yk ?_;refine zC ?_;exact pn ⟨e', a', hF.symm, rfl⟩
  rintro _ _ ⟨w, ts3, at3, _, h1, hp3, ⟨rfl, rfl⟩, rfl⟩;rw [h1] at hF;dsimp only [R.bind] at hF;have hl3 : 1 + ts3.length <= ts2.length := (vU (ts := ts2)).2 _ _ h1;clear h1;refine pe 0 (zA uw da rfl rfl) ?_;refine Al 0 uw fun b4 => ?_;refine Sg 5 zT .here ?_;refine Bs 0 xH fun b5 => ?_
  refine Cp uK rfl .k2 (fun m' hm he => xF (s := zz) (hw.mono hm) (Rd.blk (he _ (.head _))) (qA _ rfl) zb hp3) ?_ ?_
  ·rintro _ _ ⟨e', a', h1, rfl⟩;rw [h1] at hF;refine yk ?_;refine zC ?_;exact pn ⟨e', a', hF.symm, rfl⟩
  rintro _ _ ⟨_, ts4, at4, _, h1, hp4, ⟨rfl, rfl⟩, rfl⟩;rw [h1] at hF;dsimp only [R.bind] at hF;have hl4 : 1 + ts4.length <= ts3.length := (zK (s := zz) (ts := ts3)).2 _ _ h1;clear h1;rw [show ((1 : Int) + (i : Nat)) = sg.2 by omega];refine vr 4 ?_;refine Lc 0 zT .h2 ?_;refine Sg 5 zT .h5 ?_;refine zu ?_;refine zp ?_;refine zD ?_
  exact yp [_] ⟨⟨b1, _, _, _, rfl, .h5, .inr ⟨rfl, rfl⟩⟩, trivial⟩ _ (.cons .here (zN.nilE (.nil _))) ⟨_, ts4, at4, _, hF.symm, hp4, ⟨⟨sg.2, 0, w, none, 0, 0⟩, yF [], rfl, rfl, fun ns _ => qv (op := sg.2) ⟨by omega, by omega⟩⟩, by show [rd b A c ws at4 d (p + 1), yF []] = [rd b A c ws at4 d (p + zV (qs sg.2 0 w)), yF []]; rw [ug]⟩
 rw [ZN (signs := gX) (ts := ts) fun j hj => hno j hj za] at hF;dsimp only at hF;refine tr 2 ?_;refine zH 6 ?_;refine zm ?_;refine zk ?_;refine qt 6 ?_;clear hno hi hli;refine C1 ge rfl .h1 (fun m' hm he => wS (s := X8) (hw.mono hm) hp (qA _ rfl) zb) ?_;rintro _ _ (⟨hk, hp1, rfl, rfl⟩ | ⟨hk, rfl, rfl⟩)
 ·have hl1 := yG hk;rw [if_pos hk] at hF;refine vr 7 ?_;refine Bs 0 xH fun b3 => ?_;refine Cp uK rfl .k1 (fun m' hm he => XF (l := [zL, ar, zz]) (hw.mono hm) (Rd.blk (he _ (.head _))) zb (OA _ rfl) hp1) ?_ ?_
  ·rintro _ _ ⟨e', a', h1, rfl⟩;rw [h1] at hF;exact pn ⟨e', a', hF.symm, rfl⟩
  rintro _ _ ⟨_, ts2, at2, _, h1, hp2, ⟨rfl, rfl⟩, rfl⟩;rw [h1] at hF;dsimp only [R.bind] at hF;clear h1;refine vr 4 ?_;refine pe 0 (zA uw da rfl rfl) ?_;refine Sg 5 zT .h3 ?_
  exact yp [_] ⟨⟨b1, _, _, _, rfl, .h3, .inr ⟨rfl, rfl⟩⟩, trivial⟩ _ (.cons .here (zN.nilE (.nil _))) ⟨_, ts2, at2, _, hF.symm, hp2, ⟨⟨5, 0, 0, none, 0, 0⟩, yF [], rfl, rfl, fun ns _ => qv (op := 5) ⟨by decide, by decide⟩⟩, by show [rd b A c ws at2 d (p + 1), yF []] = [rd b A c ws at2 d (p + zV (qs 5 0 0)), yF []]; rw [ug]⟩
 rw [if_neg (by rw [hk]; decide)] at hF;refine vr 7 ?_;refine C1 ge rfl .here (fun m' hm he => wS (s := We) (hw.mono hm) hp (qA _ rfl) zb) ?_;rintro _ _ (⟨hk, hp1, rfl, rfl⟩ | ⟨hk, rfl, rfl⟩)
 ·have hl1 := yG hk;rw [if_pos hk] at hF;refine vr 7 ?_;refine Bs 0 xH fun b3 => ?_;refine Cp uK rfl .k1 (fun m' hm he => XF (l := [zL, Gq, zL, ar, zz, zz]) (hw.mono hm) (Rd.blk (he _ (.head _))) zb (OA _ rfl) hp1) ?_ ?_
  ·rintro _ _ ⟨e', a', h1, rfl⟩;rw [h1] at hF;exact pn ⟨e', a', hF.symm, rfl⟩
  rintro _ _ ⟨_, ts2, at2, _, h1, hp2, ⟨rfl, rfl⟩, rfl⟩;rw [h1] at hF;dsimp only [R.bind] at hF;clear h1;refine vr 4 ?_;refine pe 0 (zA uw da rfl rfl) ?_;refine Sg 5 zT .h3 ?_
  exact yp [_] ⟨⟨b1, _, _, _, rfl, .h3, .inr ⟨rfl, rfl⟩⟩, trivial⟩ _ (.cons .here (zN.nilE (.nil _))) ⟨_, ts2, at2, _, hF.symm, hp2, ⟨⟨6, 0, 0, none, 0, 0⟩, yF [], rfl, rfl, fun ns _ => qv (op := 6) ⟨by decide, by decide⟩⟩, by show [rd b A c ws at2 d (p + 1), yF []] = [rd b A c ws at2 d (p + zV (qs 6 0 0)), yF []]; rw [ug]⟩
 rw [if_neg (by rw [hk]; decide)] at hF;refine vr 7 ?_;refine C1 ge rfl .here (fun m' hm he => wS (s := dH) (hw.mono hm) hp (qA _ rfl) zb) ?_;rintro _ _ (⟨hk, hp1, rfl, rfl⟩ | ⟨hk, rfl, rfl⟩)
 ·have hl1 := yG hk;rw [if_pos hk] at hF;refine vr 7 ?_;refine Bs 0 xH fun b3 => ?_;refine Cp uK rfl .k1 (fun m' hm he => XF (l := [zL, xX, zz]) (hw.mono hm) (Rd.blk (he _ (.head _))) zb (OA _ rfl) hp1) ?_ ?_
  ·rintro _ _ ⟨e', a', h1, rfl⟩;rw [h1] at hF;exact pn ⟨e', a', hF.symm, rfl⟩
  rintro _ _ ⟨_, ts2, at2, _, h1, hp2, ⟨rfl, rfl⟩, rfl⟩;rw [h1] at hF;dsimp only [R.bind] at hF;clear h1;refine vr 4 ?_;refine pe 0 (zA uw da rfl rfl) ?_;refine Sg 5 zT .h3 ?_
  exact yp [_] ⟨⟨b1, _, _, _, rfl, .h3, .inr ⟨rfl, rfl⟩⟩, trivial⟩ _ (.cons .here (zN.nilE (.nil _))) ⟨_, ts2, at2, _, hF.symm, hp2, ⟨⟨7, 0, 0, none, 0, 0⟩, yF [], rfl, rfl, fun ns _ => qv (op := 7) ⟨by decide, by decide⟩⟩, by show [rd b A c ws at2 d (p + 1), yF []] = [rd b A c ws at2 d (p + zV (qs 7 0 0)), yF []]; rw [ug]⟩
 rw [if_neg (by rw [hk]; decide)] at hF;refine vr 7 ?_;refine C1 ge rfl .here (fun m' hm he => wS (s := Xs) (hw.mono hm) hp (qA _ rfl) zb) ?_;rintro _ _ (⟨hk, hp1, rfl, rfl⟩ | ⟨hk, rfl, rfl⟩)
 ·have hl1 := yG hk;rw [if_pos hk] at hF;refine vr 7 ?_;refine Cp Og rfl .k0 (fun m' hm he => aX (two := true) (hw.mono hm) hp1 hd8 za za hse (hsum.mono hm)) ?_ ?_
  ·rintro _ _ ⟨e', a', h1, rfl⟩;rw [h1] at hF;exact pn ⟨e', a', hF.symm, rfl⟩
  rintro _ _ ⟨x, ts2, at2, _, h1, hp2, ⟨q, r, e, rfl, rfl, hx⟩, rfl⟩;rw [h1] at hF;dsimp only [R.bind] at hF;clear h1;refine vr 3 ?_;refine Al 0 uw fun b3 => ?_;refine Al 0 uw fun b4 => ?_;refine Sg 0 zT .h1 ?_;refine Sg 4 zT .here ?_;refine Lc 0 zT .h1 ?_;refine Lc 0 zT .here ?_;refine zg ((yK Oh rfl (fun m' hm he => Qb) rfl ?_)) rfl;rintro _ _ ⟨K, rfl, rfl⟩
  refine Sg 5 zT .h6 ?_
  exact yp [_] ⟨⟨b1, _, _, _, rfl, .h6, .inr ⟨rfl, rfl⟩⟩, trivial⟩ _ (.cons .h3 (zN.pack2 (.cons .here .p2))) ⟨vz 11 x.1 x.2, ts2, at2, _, hF.symm, hp2, ⟨⟨11, 0, 0, some ⟨K, 0, none⟩, 2, 2⟩, yF [cel K (q.v ++ r.v) 85, e], rfl, rfl, fun ns h => Qg (op := 11) ⟨by decide, by decide⟩ (h.1 _ (.head _)) (hx ns (h.1 _ (.tail _ (.head _)))).1 (hx ns (h.1 _ (.tail _ (.head _)))).2⟩, by show [rd b A c ws at2 d (p + 1 + (zV x.1 + zV x.2)), yF [cel K (q.v ++ r.v) 85, e]] = [rd b A c ws at2 d (p + zV (vz 11 x.1 x.2)), yF [cel K (q.v ++ r.v) 85, e]]; rw [k7]; congr 2; omega⟩
 rw [if_neg (by rw [hk]; decide)] at hF;refine vr 7 ?_;refine C1 ge rfl .here (fun m' hm he => wS (s := Xt) (hw.mono hm) hp (qA _ rfl) zb) ?_;rintro _ _ (⟨hk, hp1, rfl, rfl⟩ | ⟨hk, rfl, rfl⟩)
 ·have hl1 := yG hk;rw [if_pos hk] at hF;refine vr 7 ?_;refine Cp Og rfl .k0 (fun m' hm he => aX (two := true) (hw.mono hm) hp1 hd8 za za hse (hsum.mono hm)) ?_ ?_
  ·rintro _ _ ⟨e', a', h1, rfl⟩;rw [h1] at hF;exact pn ⟨e', a', hF.symm, rfl⟩
  rintro _ _ ⟨x, ts2, at2, _, h1, hp2, ⟨q, r, e, rfl, rfl, hx⟩, rfl⟩;rw [h1] at hF;dsimp only [R.bind] at hF;clear h1;refine vr 3 ?_;refine Al 0 uw fun b3 => ?_;refine Al 0 uw fun b4 => ?_;refine Sg 0 zT .h1 ?_;refine Sg 4 zT .here ?_;refine Lc 0 zT .h1 ?_;refine Lc 0 zT .here ?_;refine zg ((yK Oh rfl (fun m' hm he => Qb) rfl ?_)) rfl;rintro _ _ ⟨K, rfl, rfl⟩
  refine Sg 5 zT .h6 ?_
  exact yp [_] ⟨⟨b1, _, _, _, rfl, .h6, .inr ⟨rfl, rfl⟩⟩, trivial⟩ _ (.cons .h3 (zN.pack2 (.cons .here .p2))) ⟨vz 12 x.1 x.2, ts2, at2, _, hF.symm, hp2, ⟨⟨12, 0, 0, some ⟨K, 0, none⟩, 2, 2⟩, yF [cel K (q.v ++ r.v) 85, e], rfl, rfl, fun ns h => Qg (op := 12) ⟨by decide, by decide⟩ (h.1 _ (.head _)) (hx ns (h.1 _ (.tail _ (.head _)))).1 (hx ns (h.1 _ (.tail _ (.head _)))).2⟩, by show [rd b A c ws at2 d (p + 1 + (zV x.1 + zV x.2)), yF [cel K (q.v ++ r.v) 85, e]] = [rd b A c ws at2 d (p + zV (vz 12 x.1 x.2)), yF [cel K (q.v ++ r.v) 85, e]]; rw [k7]; congr 2; omega⟩
 rw [if_neg (by rw [hk]; decide)] at hF;refine vr 10 ?_;refine Cp eZ rfl .k0 (fun m' hm he => jR 120 (hw.mono hm) hp) ?_ ?_
 ·rintro _ _ rfl;exact pn ⟨120, _, hF.symm, rfl⟩
 ·rintro _ _ h;exact h.elim
end
section
open Wd Tp Kd
variable {m : Mp} {b c at_ d p : Nat} {A : Oa} {ws ts : List yf}
theorem Jv : bY qo := ⟨by decide, fun s hs => by
 simp only [qo, List.mem_cons, List.not_mem_nil, or_false] at hs
 rcases hs with rfl | rfl <;> exact ⟨qA _ rfl, by decide, by decide, by decide⟩⟩
theorem J0 : bY wj := ⟨by decide, fun s hs => by
 simp only [wj, List.mem_cons, List.not_mem_nil, or_false] at hs
 rcases hs with rfl <;> exact ⟨qA _ rfl, by decide, by decide, by decide⟩⟩
theorem Pq {sum : Nat -> List yf -> R zY} {k n : Nat} (hw : eu m A ws) (hp : jT ws at_ ts) (hd8 : d <= 8) (hb : p + ts.length <= 4611686018427387904) (hk0 : ts.length < k + 1) (hn : ts.length < n) (hse : ∀ d ts, ts.length < k -> Tp.Ends (sum d ts) zV ts.length) (hsum : K0 m b A c ws sum k) :
  UL 157 [zS b] m b A c ws at_ d p (ai sum n d ts) zV M8 := by
 refine ym [.cell 2 85] Tryz.func157 rfl rfl rfl ?_;refine tr 2 ?_;refine Al 5 uw fun b1 => ?_;refine Bs 0 xH fun b2 => ?_;refine Bs 2 Iu fun b3 => ?_
 refine zg (z8 Sy rfl .k3 (fun m' hm he => MQ (k := k + 1) (signs := wj) ET (hw.mono hm) ⟨Rd.blk (he _ (.tail _ (.head _))), Rd.blk (he _ (.head _))⟩ J0 (fun ts h => Wm hse ts h)
  (fun m2 h2 at_ p ts hp hb hk => Tf (hw.mono (hm.trans h2)) hp hd8 hb hk hse (hsum.mono (hm.trans h2))) hp hb hn hk0) rfl ?_ ?_) rfl
 ·rintro _ _ ⟨e', a', h1, rfl⟩;exact pn ⟨e', a', h1, rfl⟩
 rintro _ _ ⟨x, ts1, at1, _, h1, hp1, ⟨q, e, rfl, rfl, hx⟩, rfl⟩;refine Sg 3 zT .h4 ?_;exact yp [_] ⟨⟨b1, _, _, _, rfl, .h4, .inr ⟨rfl, rfl⟩⟩, trivial⟩ _ .pp ⟨x, ts1, at1, _, h1, hp1, ⟨q, e, rfl, rfl, hx⟩, rfl⟩
theorem dF : ∀ (n : Nat) {m : Mp}, eu m A ws -> K0 m b A c ws (xa n) n
 | 0, _, _ => fun m' hm at_ d p ts hp hd8 hb hk => by cases hk
 | n + 1, m, hw => fun m' hm at_ d p ts hp hd8 hb hk => by
   refine ym [.cell 2 85] Tryz.func140 rfl rfl rfl ?_;refine tr 2 ?_;refine Al 5 uw fun b1 => ?_;refine Bs 0 xH fun b2 => ?_;refine Bs 2 Iu fun b3 => ?_
   refine zg (z8 Sy rfl .k3 (fun m1 h1 he => MQ (k := n + 1) (n := n + 1) (signs := qo) EY (hw.mono (hm.trans h1)) ⟨Rd.blk (he _ (.tail _ (.head _))), Rd.blk (he _ (.head _))⟩ Jv
    (fun ts h => eG (k := n + 1) (fun ts h => Wm (uo n) ts h) k7 (n + 1) ts h h)
    (fun m2 h2 at_ p ts hp hb hk => Pq (k := n) (hw.mono (hm.trans (h1.trans h2))) hp hd8 hb hk hk (uo n) (dF n (hw.mono (hm.trans (h1.trans h2))))) hp hb hk hk) rfl ?_ ?_) rfl
   ·rintro _ _ ⟨e', a', h1, rfl⟩;exact pn ⟨e', a', h1, rfl⟩
   rintro _ _ ⟨x, ts1, at1, _, h1, hp1, ⟨q, e, rfl, rfl, hx⟩, rfl⟩;refine Sg 3 zT .h4 ?_;exact yp [_] ⟨⟨b1, _, _, _, rfl, .h4, .inr ⟨rfl, rfl⟩⟩, trivial⟩ _ .pp ⟨x, ts1, at1, _, h1, hp1, ⟨q, e, rfl, rfl, hx⟩, rfl⟩
end
section
open Wd Tp Kd
variable {m : Mp} {b c at_ d p : Nat} {A : Oa} {ws ts : List yf}
theorem Jm : ∀ (ws : List yf) (k : Nat), (Ya ws).drop (k * 4) = Ya (ws.drop k)
 | ws, 0 => by simp
 | [], k + 1 => by simp [Ya]
 | w :: r, k + 1 => by
   have ih := Jm r k
   have : (Ya (w :: r)).drop ((k + 1) * 4) = (Ya r).drop (k * 4) := by
    simp only [Ya, List.flatMap_cons];rw [show (k + 1) * 4 = (wV w).length + k * 4 by simp [wV]; omega, <- List.drop_drop, List.drop_left]
   rw [this, ih, List.drop_succ_cons]
def IJ (w : yf) : Bool := decide (w.text ∈ [X9, Wa, Wb, jd, uc, wo])
theorem GI (d : Int) (w : yf) (r : List yf) : uk d (w :: r) = if w.kind ≠ 3 then uk d r else if 0 < (if w.text = zL then d + 1 else if w.text = zz then d - 1 else d) then uk (if w.text = zL then d + 1 else if w.text = zz then d - 1 else d) r else if (hd r).kind ≠ 3 then true else !IJ (hd r) := by
 rw [uk]
 rfl
theorem M3 (hw : eu m A ws) (hp : jT ws at_ ts) (hcap : ws.length <= c) : CS Tryz.prog 181 [zS b] m [rd b A c ws at_ d p] (fun v L' => v = .bool (uk 0 ts) /\ L' = [rd b A c ws at_ d p]) := by
 have hsm := hp.small;have hlt := hp.lt;have hlen := hp.len;have hA := hp.isSome hw
 have hS : Rd m (Xz A at_ c 4) (Ya ts) := by
  have := hw.cut (l := at_) (mm := c) (sz := 4) ts.length za;rwa [Jm, hp.eq, List.take_of_length_le (by rw [UR]; omega)] at this
 have hS1 : (Xz A at_ c 4).isSome = true := hS.isSome (by rw [UR]; have := hp.good.ne; have : 0 < ts.length := List.length_pos_iff.2 this; omega);refine yQ [.tmp 2] Tryz.func181 rfl rfl rfl ?_;generalize hF : uk 0 ts = F;refine tr 12 ?_;refine yw (sT [0, 1, 2, 4, 5, 6, 10, 103, 107, 8, 9] .done) mixed zi (fun _ _ _ _ hq => hq) ?_;refine vt 7 ?_
 refine Vl 0 rfl gu .here ?_;refine Vl 0 rfl yl .here ?_;refine Vt 1 rfl (LR _ kC rfl rfl rfl za) ?_;refine Vm 2 ?_
 refine yv (α := Nat × Int) (fun y => [(0, zS b), (3, .int .i64 y.2), (15, .slice (Xz A at_ c 4) (ws.length - at_) (c - at_)), (16, .int .i64 ((ws.length - at_ : Nat) : Int)), (17, .int .i64 (y.1 : Nat))]) (fun _ => [rd b A c ws at_ d p]) (fun y => y.1 <= ts.length /\ -(y.1 : Int) <= y.2 /\ y.2 <= y.1 /\ uk y.2 (ts.drop y.1) = F) (fun y => ts.length - y.1) (0, 0) vX zx ⟨Nat.zero_le _, by decide, by decide, hF⟩ ?_
 rintro ⟨i, z⟩ ⟨hi, hz1, hz2, ho⟩;dsimp only at hi hz1 hz2 ho;dsimp only;by_cases hli : i < ts.length
 rotate_left
 ·rw [List.drop_eq_nil_of_le za, uk] at ho;subst ho;refine tr 2 ?_;refine zH 6 ?_;refine zm ?_;refine zk ?_;refine qt 7 ?_;exact yn [_] zj [_] .p0 ⟨rfl, rfl⟩
 have hat := hS.elem (i * 4) 4;rw [US hli] at hat;rw [List.drop_eq_getElem_cons hli, GI] at ho
 -- the next word, if this one is a mark
 have hnx : ts[i].kind = 3 -> at_ + i + 1 < ws.length /\ ∃ w, hd (ts.drop (i + 1)) = w /\ At m ((sa A).add ((at_ + i + 1) * 4)) [.int .i8 w.kind, .string (bs w.text), .int .i64 w.n, .int .i64 w.at_] := fun h3 => by
  have h1 : i + 1 < ts.length := by
   by_cases h : i + 1 < ts.length
   ·exact h
   ·have hg := hp.good;have hl : i = ts.length - 1 := by omega
    exfalso
    have key : ∀ {l : List yf}, gm l -> ∀ (h : l.length - 1 < l.length), l[l.length - 1].kind = 0 := fun {l} hg => by
     induction hg with
     | last h => intro _; exact h
     | @cons w r h _ _ hr ih =>
       intro _;have hr0 : 0 < r.length := List.length_pos_iff.2 hr.ne;have := ih za;simp only [List.length_cons, Nat.add_sub_cancel];rw [List.getElem_cons]
       split
       ·omega
       ·exact this
    have := key hg za;subst hl;omega
  have h2 : at_ + i + 1 < ws.length := by omega
  refine ⟨h2, ts[i + 1], ?_, ?_⟩
  ·rw [List.drop_eq_getElem_cons h1]; rfl
  ·have h3 := hw.elem ((at_ + i + 1) * 4) 4;rw [US h2] at h3
   have h4 : ws[at_ + i + 1] = ts[i + 1] := by
    have := hp.eq;subst this;rw [List.getElem_drop]
    congr 1
   rw [h4] at h3;exact h3
 generalize hw0 : ts[i] = w at hat ho hnx;unfold wV at hat;by_cases h3 : w.kind = 3
 rotate_left
 ·rw [if_pos h3] at ho;refine tr 2 ?_;refine y4 11 ?_;refine pe 0 (zo kC rfl rfl hS1 za) ?_;refine La 0 wN hat ?_;refine Al 1 uS fun b1 => ?_;refine Sg 6 wN .here ?_;refine Lb 0 ze .here ?_;refine yr 8 ?_;refine Pa 2 ?_;exact QR (i + 1, z) .p1 ⟨hli, by dsimp only; omega, by dsimp only; omega, ho⟩ yV
 obtain ⟨hn1, w2, hn2, hn3⟩ := hnx h3;rw [if_neg (by simp [h3]), hn2] at ho;refine tr 2 ?_;refine y4 11 ?_;refine pe 0 (zo kC rfl rfl hS1 za) ?_;refine La 0 wN hat ?_;refine Al 1 uS fun b1 => ?_;refine Sg 6 wN .here ?_;refine Lb 0 ze .here ?_;refine zH 7 ?_
 refine ac (α := Int) (fun z' => [(0, zS b), (4, .int .i64 (i : Nat)), (15, .slice (Xz A at_ c 4) (ws.length - at_) (c - at_)), (16, .int .i64 ((ws.length - at_ : Nat) : Int)), (17, .int .i64 (i : Nat)), (3, .int .i64 z')]) (fun _ => [rd b A c ws at_ d p]) (fun z' => z' = if w.text = zL then z + 1 else if w.text = zz then z - 1 else z) ?_ ?_
 ·by_cases h1 : w.text = zL
  ·rw [if_pos h1];refine tr 2 ?_;refine Lb 5 yI .here ?_;refine yr 6 ?_;refine Pa 3 ?_;exact QR (z + 1) .p1 rfl zb
  rw [if_neg h1];by_cases h2 : w.text = zz
  ·rw [if_pos h2];refine tr 2 ?_;refine Lb 5 yI .here ?_;refine zF 6 ?_;refine yr 6 ?_;refine pe 3 (bd rfl rfl (fK za za)) ?_;exact QR (z - 1) .p1 rfl zb
  rw [if_neg h2];refine tr 2 ?_;refine Lb 5 yI .here ?_;refine zF 6 ?_;refine zF 6 ?_;exact QR z .p1 rfl zb
 intro z' hz';rw [<- hz'] at ho
 have hzz : -((i : Int) + 1) <= z' /\ z' <= (i : Int) + 1 := by
  rw [hz']
  split
  ·omega
  ·split <;> omega
 clear hz';by_cases hpos : 0 < z'
 ·rw [if_pos hpos] at ho;have hgt : z' > 0 := hpos;refine tr 4 ?_;refine yr 8 ?_;refine Pa 2 ?_;exact QR (i + 1, z') .p0 ⟨hli, by dsimp only; omega, by dsimp only; omega, ho⟩ yV
 rw [if_neg hpos] at ho;have hgt : ¬ z' > 0 := hpos;by_cases hk3 : w2.kind = 3
 rotate_left
 ·rw [if_pos hk3] at ho;subst ho;refine tr 4 ?_;refine zF 6 ?_;refine yw (sT [0, 1, 2, 4, 5, 6, 8, 103, 107, 9, 10, 11, 112, 213, 314] .done) mixed zi (fun _ _ _ _ hq => hq) ?_;refine vt 7 ?_;refine Vl 0 rfl gu .here ?_;refine Vl 0 rfl yl .here ?_;refine Vt 0 rfl (xK rfl rfl za) ?_;refine Vt 0 rfl (wO rfl rfl (fK za za)) ?_
  refine Vt 0 rfl (zo kC rfl rfl hA za) ?_;refine Vu 0 rfl (zO wN rfl rfl hn3) ?_;refine y7 rfl (ua uS rfl (fun b2 => ?_)) rfl;refine zM rfl rfl (zR wN rfl rfl rfl .here rfl rfl ?_) rfl;refine Vm 5 ?_;refine Lb 0 ze .here ?_;refine yr 12 ?_;refine zu ?_;refine zp ?_;refine zD ?_
  exact yn [_] zj [_] .p1 ⟨rfl, rfl⟩
 rw [if_neg (by simp [hk3])] at ho;unfold IJ at ho;by_cases e1 : w2.text = X9
 ·have e : F = false := by rw [<- ho]; simp [e1]
  subst e;refine tr 4 ?_;refine zF 6 ?_;refine yw (sT [0, 1, 2, 4, 5, 6, 8, 103, 107, 9, 10, 11, 112, 213, 314] .done) mixed zi (fun _ _ _ _ hq => hq) ?_;refine vt 7 ?_;refine Vl 0 rfl gu .here ?_;refine Vl 0 rfl yl .here ?_;refine Vt 0 rfl (xK rfl rfl za) ?_;refine Vt 0 rfl (wO rfl rfl (fK za za)) ?_
  refine Vt 0 rfl (zo kC rfl rfl hA za) ?_;refine Vu 0 rfl (zO wN rfl rfl hn3) ?_;refine y7 rfl (ua uS rfl (fun b2 => ?_)) rfl;refine zM rfl rfl (zR wN rfl rfl rfl .here rfl rfl ?_) rfl;refine Vm 5 ?_;refine Lb 0 ze .here ?_;refine zH 9 ?_;refine Lb 6 yI .here ?_;refine yr 17 ?_;refine zu ?_;refine zp ?_
  refine zD ?_;exact yn [_] zj [_] .p1 ⟨rfl, rfl⟩
 by_cases e2 : w2.text = Wa
 ·have e : F = false := by rw [<- ho]; simp [e2]
  subst e;refine tr 4 ?_;refine zF 6 ?_;refine yw (sT [0, 1, 2, 4, 5, 6, 8, 103, 107, 9, 10, 11, 112, 213, 314] .done) mixed zi (fun _ _ _ _ hq => hq) ?_;refine vt 7 ?_;refine Vl 0 rfl gu .here ?_;refine Vl 0 rfl yl .here ?_;refine Vt 0 rfl (xK rfl rfl za) ?_;refine Vt 0 rfl (wO rfl rfl (fK za za)) ?_
  refine Vt 0 rfl (zo kC rfl rfl hA za) ?_;refine Vu 0 rfl (zO wN rfl rfl hn3) ?_;refine y7 rfl (ua uS rfl (fun b2 => ?_)) rfl;refine zM rfl rfl (zR wN rfl rfl rfl .here rfl rfl ?_) rfl;refine Vm 5 ?_;refine Lb 0 ze .here ?_;refine zH 9 ?_;refine Lb 6 yI .here ?_;refine zF 6 ?_;refine yr 17 ?_;refine zu ?_
  refine zp ?_;refine zD ?_;exact yn [_] zj [_] .p1 ⟨rfl, rfl⟩
 by_cases e3 : w2.text = Wb
 ·have e : F = false := by rw [<- ho]; simp [e3]
  subst e;refine tr 4 ?_;refine zF 6 ?_;refine yw (sT [0, 1, 2, 4, 5, 6, 8, 103, 107, 9, 10, 11, 112, 213, 314] .done) mixed zi (fun _ _ _ _ hq => hq) ?_;refine vt 7 ?_;refine Vl 0 rfl gu .here ?_;refine Vl 0 rfl yl .here ?_;refine Vt 0 rfl (xK rfl rfl za) ?_;refine Vt 0 rfl (wO rfl rfl (fK za za)) ?_
  refine Vt 0 rfl (zo kC rfl rfl hA za) ?_;refine Vu 0 rfl (zO wN rfl rfl hn3) ?_;refine y7 rfl (ua uS rfl (fun b2 => ?_)) rfl;refine zM rfl rfl (zR wN rfl rfl rfl .here rfl rfl ?_) rfl;refine Vm 5 ?_;refine Lb 0 ze .here ?_;refine zH 9 ?_;refine Lb 6 yI .here ?_;refine zF 6 ?_;refine zF 6 ?_;refine yr 17 ?_;refine zu ?_
  refine zp ?_;refine zD ?_;exact yn [_] zj [_] .p1 ⟨rfl, rfl⟩
 by_cases e4 : w2.text = jd
 ·have e : F = false := by rw [<- ho]; simp [e4]
  subst e;refine tr 4 ?_;refine zF 6 ?_;refine yw (sT [0, 1, 2, 4, 5, 6, 8, 103, 107, 9, 10, 11, 112, 213, 314] .done) mixed zi (fun _ _ _ _ hq => hq) ?_;refine vt 7 ?_;refine Vl 0 rfl gu .here ?_;refine Vl 0 rfl yl .here ?_;refine Vt 0 rfl (xK rfl rfl za) ?_;refine Vt 0 rfl (wO rfl rfl (fK za za)) ?_
  refine Vt 0 rfl (zo kC rfl rfl hA za) ?_;refine Vu 0 rfl (zO wN rfl rfl hn3) ?_;refine y7 rfl (ua uS rfl (fun b2 => ?_)) rfl;refine zM rfl rfl (zR wN rfl rfl rfl .here rfl rfl ?_) rfl;refine Vm 5 ?_;refine Lb 0 ze .here ?_;refine zH 9 ?_;refine Lb 6 yI .here ?_;refine zF 6 ?_;refine zF 6 ?_;refine zF 6 ?_;refine yr 17 ?_
  refine zu ?_;refine zp ?_;refine zD ?_;exact yn [_] zj [_] .p1 ⟨rfl, rfl⟩
 by_cases e5 : w2.text = uc
 ·have e : F = false := by rw [<- ho]; simp [e5]
  subst e;refine tr 4 ?_;refine zF 6 ?_;refine yw (sT [0, 1, 2, 4, 5, 6, 8, 103, 107, 9, 10, 11, 112, 213, 314] .done) mixed zi (fun _ _ _ _ hq => hq) ?_;refine vt 7 ?_;refine Vl 0 rfl gu .here ?_;refine Vl 0 rfl yl .here ?_;refine Vt 0 rfl (xK rfl rfl za) ?_;refine Vt 0 rfl (wO rfl rfl (fK za za)) ?_
  refine Vt 0 rfl (zo kC rfl rfl hA za) ?_;refine Vu 0 rfl (zO wN rfl rfl hn3) ?_;refine y7 rfl (ua uS rfl (fun b2 => ?_)) rfl;refine zM rfl rfl (zR wN rfl rfl rfl .here rfl rfl ?_) rfl;refine Vm 5 ?_;refine Lb 0 ze .here ?_;refine zH 9 ?_;refine Lb 6 yI .here ?_;refine zF 6 ?_;refine zF 6 ?_;refine zF 6 ?_;refine zF 6 ?_
  refine yr 17 ?_;refine zu ?_;refine zp ?_;refine zD ?_;exact yn [_] zj [_] .p1 ⟨rfl, rfl⟩
 by_cases e6 : w2.text = wo
 ·have e : F = false := by rw [<- ho]; simp [e6]
  subst e;refine tr 4 ?_;refine zF 6 ?_;refine yw (sT [0, 1, 2, 4, 5, 6, 8, 103, 107, 9, 10, 11, 112, 213, 314] .done) mixed zi (fun _ _ _ _ hq => hq) ?_;refine vt 7 ?_;refine Vl 0 rfl gu .here ?_;refine Vl 0 rfl yl .here ?_;refine Vt 0 rfl (xK rfl rfl za) ?_;refine Vt 0 rfl (wO rfl rfl (fK za za)) ?_
  refine Vt 0 rfl (zo kC rfl rfl hA za) ?_;refine Vu 0 rfl (zO wN rfl rfl hn3) ?_;refine y7 rfl (ua uS rfl (fun b2 => ?_)) rfl;refine zM rfl rfl (zR wN rfl rfl rfl .here rfl rfl ?_) rfl;refine Vm 5 ?_;refine Lb 0 ze .here ?_;refine zH 9 ?_;refine Lb 6 yI .here ?_;refine zF 6 ?_;refine zF 6 ?_;refine zF 6 ?_;refine zF 6 ?_
  refine zF 5 ?_;refine yr 14 ?_;refine zu ?_;refine zp ?_;refine zD ?_;exact yn [_] zj [_] .p1 ⟨rfl, rfl⟩
 have e : F = true := by rw [<- ho]; simp [e1, e2, e3, e4, e5, e6]
 subst e;refine tr 4 ?_;refine zF 6 ?_;refine yw (sT [0, 1, 2, 4, 5, 6, 8, 103, 107, 9, 10, 11, 112, 213, 314] .done) mixed zi (fun _ _ _ _ hq => hq) ?_;refine vt 7 ?_;refine Vl 0 rfl gu .here ?_;refine Vl 0 rfl yl .here ?_;refine Vt 0 rfl (xK rfl rfl za) ?_;refine Vt 0 rfl (wO rfl rfl (fK za za)) ?_
 refine Vt 0 rfl (zo kC rfl rfl hA za) ?_;refine Vu 0 rfl (zO wN rfl rfl hn3) ?_;refine y7 rfl (ua uS rfl (fun b2 => ?_)) rfl;refine zM rfl rfl (zR wN rfl rfl rfl .here rfl rfl ?_) rfl;refine Vm 5 ?_;refine Lb 0 ze .here ?_;refine zH 9 ?_;refine Lb 6 yI .here ?_;refine zF 6 ?_;refine zF 6 ?_;refine zF 6 ?_;refine zF 6 ?_
 refine zF 5 ?_;refine zF 15 ?_;refine zu ?_;refine zp ?_;refine zD ?_;exact yn [_] zj [_] .p1 ⟨rfl, rfl⟩
end
section
open Wd Tp Kd
theorem EW : yX Tryz.prog 161 = true := zi
structure dA where
 op : Int
 who : Int
 name : Bt
 N : Oa
 n : Nat
 nc : Nat
 K : Oa
 k : Nat
 kc : Nat
abbrev dA.v (q : dA) : Lv := [.int .i8 q.op, .int .i8 q.who, .string (bs q.name), .slice q.N q.n q.nc, .slice q.K q.k q.kc]
abbrev Kw : zI -> Value -> List yb -> Prop := fun x v Es => ∃ (q : dA) (e : yb), v = .agg q.v.toArray /\ Es = [e] /\ ∀ ns, e.inv ns -> yP ns q.v x
variable {m : Mp} {op : Int} {q r : dA}
theorem N9 {K : Nat} {x y : zI} (ho : Gd op) (h : (cel K (q.v ++ r.v) 88).inv m) (hx : yP m q.v x) (hy : yP m r.v y) : yP m [.int .i8 op, .int .i8 0, .string (bs []), .slice none 0 0, .slice (some ⟨K, 0, none⟩) 2 2] (qL op x y) :=
 .mk (vs := []) (us := q.v ++ r.v) ho ⟨by decide, by decide⟩ zb rfl zb (Rd.nil _ _) rfl (fun i h => by cases h) rfl zb (Rd.blk h) rfl fun i hi => by
  have : i = 0 \/ i = 1 := by have : i < 2 := hi; omega
  rcases this with rfl | rfl
  ·exact hx
  ·exact hy
theorem PT : CS Tryz.prog 161 [.int .i8 op, .agg q.v.toArray, .agg r.v.toArray] m [] (fun v L' => ∃ K, v = .agg [.int .i8 op, .int .i8 0, .string (bs []), .slice none 0 0, .slice (some ⟨K, 0, none⟩) 2 2].toArray /\ L' = [cel K (q.v ++ r.v) 88]) := by
 refine yQ [.cell 6 88] Tryz.func161 rfl rfl rfl ?_;refine tr 2 ?_;refine Bx 0 rfl fun b1 => ?_;refine Bx 0 rfl fun b2 => ?_;refine Al 5 gr fun b3 => ?_;refine Lc 0 xP .h2 ?_;refine Lc 0 xP .h1 ?_;refine Bs 0 F3 fun b4 => ?_;refine pe 0 (zA gr VB rfl rfl) ?_;refine Sg 3 xP .h1 ?_;exact yn [_] ⟨⟨b3, _, _, _, rfl, .h1, .inr ⟨rfl, rfl⟩⟩, trivial⟩ _ .p0 ⟨b4, rfl, rfl⟩
theorem MP {b c at_ d p : Nat} {A : Oa} {ws ts : List yf} {g : FuncId} {one : List yf -> R zI} {signs : List (Bt × Int)} {X Y : Oa} {xc yc n k : Nat} (hcl : yX Tryz.prog g = true) (hw : eu m A ws) (hsg : Vi m X Y signs) (hso : bY signs) (he1 : ∀ ts, ts.length < k -> Tp.Ends (one ts) zX ts.length) (hone : ∀ m', Le m m' -> ∀ (at_ p : Nat) (ts : List yf), jT ws at_ ts -> p + ts.length <= 4611686018427000000 -> ts.length < k -> UL g [zS b] m' b A c ws at_ d p (one ts) zX Kw) (hp : jT ws at_ ts) (hb : p + ts.length <= 4611686018427000000) (hn : ts.length < n) (hk : ts.length < k) :
  UL 159 [zS b, .slice X signs.length xc, .slice Y signs.length yc, .func (.func g) [zS b].toArray [].toArray, .func (.func 161) [].toArray [].toArray] m b A c ws at_ d p (qk one signs qL n ts) zX Kw := by
 generalize hF : qk one signs qL n ts = F;unfold qk at hF;obtain ⟨hsl, hs8⟩ := hso;refine ym [.cell 10 88] Tryz.func159 rfl rfl rfl ?_;refine tr 2 ?_;refine Al 2 gr fun b1 => ?_
 refine TS_scopeJ' (α := LP zI dA) 0 rfl (fun y => [(0, zS b), (1, .slice X signs.length xc), (2, .slice Y signs.length yc), (3, .func (.func g) [zS b].toArray [].toArray), (4, .func (.func 161) [].toArray [].toArray), (10, zS b1), (11, zS y.bx)]) (fun y => [rd b A c ws y.at_ d y.p, y.e, cel y.bx y.q.v 88, cel b1 [.int .i8 0, .int .i8 0, .string (bs []), .slice none 0 0, .slice none 0 0] 88])
  (fun y => wM one signs qL y.n y.x y.ts = F /\ jT ws y.at_ y.ts /\ y.p + y.ts.length <= 4611686018427000000 /\ y.ts.length < y.n /\ y.ts.length < k /\ y.p = p + zX y.x /\ ∀ ns, y.e.inv ns -> yP ns y.q.v y.x) (fun y => y.n) ?_ (fun hpass => ?_)
 ·rintro ⟨n, bx, a, p1, ts, x, q, e⟩ ⟨hF, hp, hb, hn, hk, hpw, hx⟩;dsimp only at hF hp hb hn hk hpw hx;dsimp only;obtain ⟨n, rfl⟩ : ∃ n', n = n' + 1 := ⟨n - 1, by omega⟩;refine tr 9 ?_
  refine yv (α := Nat) (fun i => [(0, zS b), (1, .slice X signs.length xc), (2, .slice Y signs.length yc), (3, .func (.func g) [zS b].toArray [].toArray), (4, .func (.func 161) [].toArray [].toArray), (10, zS b1), (11, zS bx), (17, .slice X signs.length xc), (18, .int .i64 (signs.length : Nat)), (19, .int .i64 (i : Nat))]) (fun i => [rd b A c ws a d p1, e, cel bx q.v 88, cel b1 [.int .i8 0, .int .i8 0, .string (bs []), .slice none 0 0, .slice none 0 0] 88]) (fun i => i <= signs.length /\ ∀ (j : Nat) (hj : j < signs.length), j < i -> isW signs[j].1 ts = false) (fun i => signs.length - i) 0 XY zx ⟨Nat.zero_le _, fun _ _ h => by cases h⟩ ?_
  rintro i ⟨hi, hno⟩;by_cases hlt : i < signs.length
  rotate_left
  ·have hfn := ZN (signs := signs) (ts := ts) fun j hj => hno j hj za;unfold wM at hF;rw [hfn] at hF;dsimp only at hF;refine tr 2 ?_;refine zH 6 ?_;refine zm ?_;refine zk ?_;refine qt 3 ?_;refine Lc 0 xP .h2 ?_;refine Sg 3 xP .h3 ?_;refine Xm ?_
   exact yp [_] ⟨⟨b1, _, _, _, rfl, .h3, .inr ⟨rfl, rfl⟩⟩, trivial⟩ _ .pp ⟨x, ts, a, [e], hF.symm, hp, ⟨q, e, rfl, rfl, hx⟩, by rw [hpw]⟩
  have hX1 : X.isSome = true := hsg.x.isSome (by rw [List.length_map]; omega);have hY1 : Y.isSome = true := hsg.y.isSome (by rw [List.length_map]; omega);have hcx := hsg.x.at_ (show (signs.map fun s => xm s.1)[i]? = some (xm signs[i].1) by simp [hlt]);have hcy := hsg.y.at_ (show (signs.map fun s => Value.int .i8 s.2)[i]? = some (.int .i8 signs[i].2) by simp [hlt])
  have hai := hs8 signs[i] (List.getElem_mem hlt);have hfa := fun h => ZO (ts := ts) hlt h hno
  have hnext : isW signs[i].1 ts = false -> ∀ (j : Nat) (hj : j < signs.length), j < i + 1 -> isW signs[j].1 ts = false := fun h j hj h2 => by
   by_cases hji : j < i
   ·exact hno j hj hji
   ·obtain rfl : j = i := by omega
    exact h
  generalize signs[i] = sg at hcx hcy hai hfa hnext;refine tr 2 ?_;refine y4 11 ?_;refine pe 0 (zw ql rfl rfl hX1 za) ?_;refine Lo 8 yI rfl hcx ?_;refine C1 ge rfl .here (fun m' hm he => wS (s := sg.1) (hw.mono hm) hp hai.1 hai.2.1) ?_;rintro _ _ (⟨hk1, hp2, rfl, rfl⟩ | ⟨hk1, rfl, rfl⟩)
  rotate_left
  ·refine vr 7 ?_;refine Pa 2 ?_;exact QR (i + 1) zx ⟨hlt, hnext hk1⟩ za
  have hl1 := yG hk1;unfold wM at hF;rw [hfa hk1] at hF;dsimp only at hF;have hend := he1 ts.tail za;refine vr 8 ?_;refine Lb 0 yl .here ?_;refine Pa 2 ?_;refine Sr 5 fB .here .h3 ?_;refine zg (vV (p := [zS b]) (q := []) (vs := []) hcl rfl rfl .k0 (fun m' hm he => hone m' hm (a + 1) (p1 + 1) ts.tail hp2 za za) rfl ?_ ?_) rfl
  ·rintro _ _ ⟨e', a', h1, rfl⟩;rw [h1] at hF;refine yk ?_;refine zC ?_;refine yk ?_;refine ed ?_;exact pn ⟨e', a', hF.symm, rfl⟩
  rintro _ _ ⟨y, ts2, at2, _, h1, hp3, ⟨r, ey, rfl, rfl, hy⟩, rfl⟩;rw [h1] at hF;have hlen := hend.2 y ts2 h1;have hyp := vC y;change wM one signs qL n (qL sg.2 x y) ts2 = F at hF;refine Al 0 gr fun b2 => ?_;refine Sg 3 xP .here ?_;refine yw (sT [0, 1, 2, 3, 104, 105, 106, 307, 308] .done) mixed zi (fun _ _ _ _ hq => hq) ?_;refine vt 3 ?_
  refine Vt 0 rfl (zw Ss rfl rfl hY1 za) ?_;refine Vu 0 rfl (zl ze rfl hcy) ?_;refine Vu 0 rfl (wt xP rfl .h4 rfl) ?_;refine Vu 0 rfl (wt xP rfl .here rfl) ?_;refine zM rfl rfl ((uP (p := []) (q := []) (vs := [.int .i8 sg.2, .agg q.v.toArray, .agg r.v.toArray]) EW rfl rfl (fun m' hm he => PT) rfl ?_)) rfl;rintro _ _ ⟨K, rfl, rfl⟩
  refine zM rfl rfl (zR xP rfl rfl rfl .h5 rfl rfl ?_) rfl;refine Vm 1 ?_;refine Hp ?_;refine kW ?_;refine gS ?_;refine dx ?_;refine kW ?_;refine gS ?_
  exact Z6 (⟨n, bx, at2, p1 + 1 + zX y, ts2, qL sg.2 x y, ⟨sg.2, 0, [], none, 0, 0, some ⟨K, 0, none⟩, 2, 2⟩, yF [cel K (q.v ++ r.v) 88, ey, e]⟩ : LP zI dA) VX (.cons .h2 (zN.pack3 (.cons .here (.cons .h1 (.cons .h1 (.cons .h1 .p1))))))
   ⟨hF, hp3, by dsimp only; omega, by dsimp only; omega, by dsimp only; omega, by dsimp only; rw [bP]; omega, fun ns h => N9 hai.2.2 (h.1 _ (.head _)) (hx ns (h.1 _ (.tail _ (.tail _ (.head _))))) (hy ns (h.1 _ (.tail _ (.head _))))⟩ (fun k0 h => by cases h; exact Nat.lt_succ_self _)
 ·refine tr 3 ?_;refine zg (vV (p := [zS b]) (q := []) (vs := []) hcl rfl rfl .k1 (fun m' hm he => hone m' hm at_ p ts hp hb hk) rfl ?_ ?_) rfl
  ·rintro _ _ ⟨e', a', h1, rfl⟩;rw [h1] at hF;refine bc ?_;refine ed ?_;exact pn ⟨e', a', hF.symm, rfl⟩
  rintro _ _ ⟨y, ts2, at2, _, h1, hp3, ⟨r, ey, rfl, rfl, hy⟩, rfl⟩;rw [h1] at hF;have hlen := (he1 ts hk).2 y ts2 h1;have hyp := vC y;change wM one signs qL n y ts2 = F at hF;refine Al 0 gr fun b2 => ?_;refine Sg 3 xP .here ?_;refine KY ?_;refine qt 1 ?_
  exact KZ (k0 := n) (⟨n, b2, at2, p + zX y, ts2, y, r, ey⟩ : LP zI dA) (hpass _ ⟨hF, hp3, by show p + zX y + ts2.length <= 4611686018427000000; omega, by show ts2.length < n; omega, by show ts2.length < k; omega, rfl, hy⟩) VX (.cons .h1 (.cons .h1 .pp))
end
section
open Wd Tp Kd
variable {b c : Nat} {A : Oa} {ws : List yf}
variable {ts ts' : List yf} {w : Int}
theorem bq (h : j4 ts = .ok w ts') : Gd w := by
 unfold j4 at h
 split at h
 ·cases h; exact ⟨by decide, by decide⟩
 ·split at h
  ·cases h; exact ⟨by decide, by decide⟩
  ·cases h
theorem Mk (h : Xu ts = .ok w ts') : Gd w := by
 unfold Xu at h
 split at h
 ·cases h; exact ⟨by decide, by decide⟩
 ·exact bq h
variable {s : Bt}
theorem eL {at_ : Nat} (hp : jT ws at_ ts) (h : kn ts = .ok s ts') : s.length <= 65536 := by
 unfold kn at h
 split at h
 ·rename_i hk
  cases h;exact hp.good.text za
 ·cases h
variable {i : Nat}
theorem IQ (h : i < yy.length) : ([xm X9, xm Wa, xm Wb] : Lv)[i]? = some (xm yy[i].1) := by
 match i, h with
 | 0, _ => rfl
 | 1, _ => rfl
 | 2, _ => rfl
theorem IP (h : i < yy.length) : yy[i].2 = (i : Nat) := by
 match i, h with
 | 0, _ => rfl
 | 1, _ => rfl
 | 2, _ => rfl
theorem J3 (h : i < yy.length) : bj yy[i].1 /\ yy[i].1.length <= 1000 := OA (yy.map (·.1)) rfl _ (List.mem_map.2 ⟨yy[i], List.getElem_mem h, rfl⟩)
variable {K : Nat} {m : Mp}
theorem Rf {q : dA} {x : zI} (h : (cel K q.v 88).inv m) (hx : yP m q.v x) : yP m [.int .i8 3, .int .i8 0, .string (bs []), .slice none 0 0, .slice (some ⟨K, 0, none⟩) 1 1] (.mk 3 0 [] [] [x]) :=
 .mk (vs := []) (us := q.v) ⟨by decide, by decide⟩ ⟨by decide, by decide⟩ zb rfl zb (Rd.nil _ _) rfl (fun i h => by cases h) rfl zb (Rd.blk h) rfl fun i hi => by
  have : i = 0 := by have : i < 1 := hi; omega
  subst this;exact hx
theorem UA (hw : Gd w) (hs : s.length <= maxLen) : yP m [.int .i8 6, .int .i8 w, .string (bs s), .slice none 0 0, .slice none 0 0] (.mk 6 w s [] []) :=
 .mk (vs := []) (us := []) ⟨by decide, by decide⟩ hw hs rfl zb (Rd.nil _ _) rfl (fun i h => by cases h) rfl zb (Rd.nil _ _) rfl fun i h => by cases h
theorem Kx {op : Int} {q r : Vj} {x y : zY} (ho : Gd op) (h : (cel K (q.v ++ r.v) 85).inv m) (hx : xr m q.v x) (hy : xr m r.v y) : yP m [.int .i8 op, .int .i8 0, .string (bs []), .slice (some ⟨K, 0, none⟩) 2 2, .slice none 0 0] (.mk op 0 [] [x, y] []) :=
 .mk (vs := q.v ++ r.v) (us := []) ho ⟨by decide, by decide⟩ zb rfl zb (Rd.blk h) rfl (fun i hi => by
  have : i = 0 \/ i = 1 := by have : i < 2 := hi; omega
  rcases this with rfl | rfl
  ·exact hx
  ·exact hy) rfl zb (Rd.nil _ _) rfl fun i h => by cases h
def FM (m : Mp) (b : Nat) (A : Oa) (c : Nat) (ws : List yf) (cond : Nat -> List yf -> R zI) (k : Nat) : Prop :=
 ∀ m', Le m m' -> ∀ (at_ d p : Nat) (ts : List yf), jT ws at_ ts -> d <= 8 -> p + ts.length <= 4611686018427000000 -> ts.length < k -> UL 143 [zS b] m' b A c ws at_ d p (cond d ts) zX Kw
variable {cond : Nat -> List yf -> R zI} {k : Nat}
theorem FM.mono {m' : Mp} (h : FM m b A c ws cond k) (hl : Le m m') : FM m' b A c ws cond k := fun m2 h2 => h m2 (hl.trans h2)
theorem It {sum : Nat -> List yf -> R zY} (hT : xU m) (hw : eu m A ws) (hcap : ws.length <= c) (hse : ∀ d ts, ts.length < k + 1 -> Tp.Ends (sum d ts) zV ts.length) (hsum : K0 m b A c ws sum (k + 1)) (hce : ∀ d ts, ts.length < k -> Tp.Ends (cond d ts) zX ts.length) (hcond : FM m b A c ws cond k) :
  ∀ (n : Nat) (m' : Mp), Le m m' -> ∀ (at_ d p : Nat) (ts : List yf), jT ws at_ ts -> d <= 8 -> p + ts.length <= 4611686018427000000 -> ts.length < n -> ts.length < k + 1 -> UL 175 [zS b] m' b A c ws at_ d p (wL sum cond n d ts) zX Kw
 | 0, _, _, _, _, _, _, _, _, _, h, _ => by cases h
 | n + 1, m', hm, at_, d, p, ts, hp, hd8, hb, hn, hk0 => by
   generalize hF : wL sum cond (n + 1) d ts = F;unfold wL at hF;have hsm := hp.small;have hlt := hp.lt;refine ym [.cell 2 88] Tryz.func175 rfl rfl rfl ?_;refine tr 2 ?_;refine Al 7 gr fun b1 => ?_;refine C1 W3 rfl .h1 (fun m1 h1 he => WH (s := el) (hw.mono (hm.trans h1)) hp (qA _ rfl) zb) ?_;rintro _ _ ⟨rfl, rfl⟩;cases hkn : isW el ts with
   | true =>
     rw [if_pos hkn] at hF;have hl1 := yG hkn;have hp1 := hp.isW hkn;refine vr 7 ?_;refine Cp Hb rfl .k0 (fun m1 h1 he => IY (hw.mono (hm.trans h1)) hp hd8) ?_ ?_
     ·rintro _ _ ⟨h8, rfl⟩;rw [Wl, if_pos h8] at hF;exact pn ⟨121, _, hF.symm, rfl⟩
     rintro _ _ ⟨h8, rfl, rfl⟩;rw [Wl, if_neg za] at hF;dsimp only [R.bind] at hF;refine vr 7 ?_;refine Lb 0 yl .here ?_;refine Pa 2 ?_;refine Sr 7 fB .here .h1 ?_;refine Lb 0 yl .here ?_;refine Pa 2 ?_;refine Sr 5 fB .here .h3 ?_
     refine Cp Sv rfl .k0 (fun m1 h1 he => It hT hw hcap hse hsum hce hcond n m1 (hm.trans h1) (at_ + 1) (d + 1) (p + 1) ts.tail hp1 h8 za za za) ?_ ?_
     ·rintro _ _ ⟨e', a', h1, rfl⟩;rw [h1] at hF;exact pn ⟨e', a', hF.symm, rfl⟩
     rintro _ _ ⟨x, ts2, at2, _, h1, hp2, ⟨q, e, rfl, rfl, hx⟩, rfl⟩;rw [h1] at hF;dsimp only [R.bind] at hF;clear h1;refine Al 0 gr fun b2 => ?_;refine Sg 7 xP .here ?_;refine Lb 0 yl .h1 ?_;refine pe 2 (bd rfl rfl (fK za za)) ?_;refine Sr 4 fB .h1 .h2 ?_;refine Lc 0 xP .here ?_;refine Bs 0 F3 fun b3 => ?_;refine pe 0 (zA gr VB rfl rfl) ?_
     refine Sg 5 xP .h4 ?_;rw [show ((d + 1 : Nat) : Int) - 1 = (d : Nat) by omega]
     exact yp [_] ⟨⟨b1, _, _, _, rfl, .h4, .inr ⟨rfl, rfl⟩⟩, trivial⟩ _ (.cons .h2 (zN.pack2 (.cons .here .p1))) ⟨_, ts2, at2, _, hF.symm, hp2, ⟨⟨3, 0, [], none, 0, 0, some ⟨b3, 0, none⟩, 1, 1⟩, yF [cel b3 q.v 88, e], rfl, rfl, fun ns h => Rf (h.1 _ (.head _)) (hx ns (h.1 _ (.tail _ (.head _))))⟩, by show [rd b A c ws at2 d (p + 1 + zX x), yF [cel b3 q.v 88, e]] = [rd b A c ws at2 d (p + zX (.mk 3 0 [] [] [x])), yF [cel b3 q.v 88, e]]; rw [vH]; simp only [List.map_nil, List.map_cons, List.sum_nil, List.sum_cons, Nat.add_zero, Nat.add_assoc]⟩
   | false =>
   rw [if_neg (by rw [hkn]; decide)] at hF;refine vr 7 ?_;refine C1 W3 rfl .here (fun m1 h1 he => WH (s := zL) (hw.mono (hm.trans h1)) hp (qA _ rfl) zb) ?_;rintro _ _ ⟨rfl, rfl⟩;cases hko : isW zL ts with
   | true =>
     refine vr 2 ?_;refine C1 ER rfl .here (fun m1 h1 he => M3 (hw.mono (hm.trans h1)) hp hcap) ?_;rintro _ _ ⟨rfl, rfl⟩;cases hou : uk 0 ts with
     | true =>
       rw [if_pos (by rw [hko, hou]; rfl)] at hF;have hl1 := yG hko;have hp1 := hp.isW hko;refine vr 8 ?_;refine Cp Hb rfl .k0 (fun m1 h1 he => IY (hw.mono (hm.trans h1)) hp hd8) ?_ ?_
       ·rintro _ _ ⟨h8, rfl⟩;rw [Wl, if_pos h8] at hF;exact pn ⟨121, _, hF.symm, rfl⟩
       rintro _ _ ⟨h8, rfl, rfl⟩;rw [Wl, if_neg za] at hF;dsimp only [R.bind] at hF;refine vr 7 ?_;refine Lb 0 yl .here ?_;refine Pa 2 ?_;refine Sr 5 fB .here .h1 ?_;refine Cp Sz rfl .k0 (fun m1 h1 he => hcond m1 (hm.trans h1) (at_ + 1) (d + 1) p ts.tail hp1 h8 za za) ?_ ?_
       ·rintro _ _ ⟨e', a', h1, rfl⟩;rw [h1] at hF;exact pn ⟨e', a', hF.symm, rfl⟩
       rintro _ _ ⟨x, ts2, at2, _, h1, hp2, ⟨q, e, rfl, rfl, hx⟩, rfl⟩;rw [h1] at hF;dsimp only [R.bind] at hF;have hl2 := (hce (d + 1) ts.tail za).2 _ _ h1;clear h1;refine Al 0 gr fun b2 => ?_;refine Sg 5 xP .here ?_;refine Bs 0 xH fun b3 => ?_
       refine Cp uK rfl .k2 (fun m1 h1 he => xF (s := zz) (hw.mono (hm.trans h1)) (Rd.blk (he _ (.head _))) (qA _ rfl) zb hp2) ?_ ?_
       ·rintro _ _ ⟨e', a', h1, rfl⟩;rw [h1] at hF;exact pn ⟨e', a', hF.symm, rfl⟩
       rintro _ _ ⟨_, ts3, at3, _, h1, hp3, ⟨rfl, rfl⟩, rfl⟩;rw [h1] at hF;dsimp only [R.bind] at hF;have hl3 : 1 + ts3.length <= ts2.length := (zK (s := zz) (ts := ts2)).2 _ _ h1;clear h1;refine vr 7 ?_;refine Lb 0 yl .here ?_;refine pe 2 (bd rfl rfl (fK za za)) ?_;refine Sr 4 fB .here .h2 ?_;refine Lc 0 xP .h2 ?_;refine Sg 5 xP .h4 ?_
       rw [show ((d + 1 : Nat) : Int) - 1 = (d : Nat) by omega];exact yp [_] ⟨⟨b1, _, _, _, rfl, .h4, .inr ⟨rfl, rfl⟩⟩, trivial⟩ _ (.cons .here .p2) ⟨x, ts3, at3, _, hF.symm, hp3, ⟨q, e, rfl, rfl, hx⟩, rfl⟩
     | false =>
       have hF2 := hF;rw [if_neg (by rw [hko, hou]; decide)] at hF2;clear hF;have hF := hF2;clear hF2;refine vr 13 ?_;refine Lb 0 yl .here ?_;refine Pa 2 ?_;refine Sr 6 fB .here .h3 ?_;refine C1 ge rfl .here (fun m1 h1 he => wS (s := q9) (hw.mono (hm.trans h1)) hp (qA _ rfl) zb) ?_;rintro _ _ (⟨hk, hp1, rfl, rfl⟩ | ⟨hk, rfl, rfl⟩)
       ·have hl1 := yG hk;rw [if_pos hk] at hF;refine vr 6 ?_;refine Bs 0 xH fun b2 => ?_;refine Cp uK rfl .k1 (fun m1 h1 he => xF (s := zL) (hw.mono (hm.trans h1)) (Rd.blk (he _ (.head _))) (qA _ rfl) zb hp1) ?_ ?_
        ·rintro _ _ ⟨e', a', h1, rfl⟩;rw [h1] at hF;exact pn ⟨e', a', hF.symm, rfl⟩
        rintro _ _ ⟨_, ts2, at2, _, h1, hp2, ⟨rfl, rfl⟩, rfl⟩;rw [h1] at hF;dsimp only [R.bind] at hF;have hl2 : 1 + ts2.length <= ts.tail.length := (zK (s := zL) (ts := ts.tail)).2 _ _ h1;clear h1;refine vr 5 ?_;refine Cp W4 rfl .k0 (fun m1 h1 he => cG (hw.mono (hm.trans h1)) hp2) ?_ ?_
        ·rintro _ _ ⟨e', a', h1, rfl⟩;rw [h1] at hF;exact pn ⟨e', a', hF.symm, rfl⟩
        rintro _ _ ⟨w, ts3, at3, _, h1, hp3, ⟨rfl, rfl⟩, rfl⟩;rw [h1] at hF;dsimp only [R.bind] at hF;have hl3 : 1 + ts3.length <= ts2.length := (vU (ts := ts2)).2 _ _ h1;have hw8 := bq h1;clear h1;refine pe 0 (zA gr VB rfl rfl) ?_;refine Al 0 gr fun b3 => ?_;refine Sg 5 xP .here ?_;refine Bs 0 xH fun b4 => ?_
        refine Cp uK rfl .k2 (fun m1 h1 he => xF (s := y9) (hw.mono (hm.trans h1)) (Rd.blk (he _ (.head _))) (qA _ rfl) zb hp3) ?_ ?_
        ·rintro _ _ ⟨e', a', h1, rfl⟩;rw [h1] at hF;exact pn ⟨e', a', hF.symm, rfl⟩
        rintro _ _ ⟨_, ts4, at4, _, h1, hp4, ⟨rfl, rfl⟩, rfl⟩;rw [h1] at hF;dsimp only [R.bind] at hF;have hl4 : 1 + ts4.length <= ts3.length := (zK (s := y9) (ts := ts3)).2 _ _ h1;clear h1;refine vr 5 ?_;refine Cp Ln rfl .k0 (fun m1 h1 he => Yg (hT.mono (hm.trans h1)) (hw.mono (hm.trans h1)) hp4) ?_ ?_
        ·rintro _ _ ⟨e', a', h1, rfl⟩;rw [h1] at hF;exact pn ⟨e', a', hF.symm, rfl⟩
        rintro _ _ ⟨s, ts5, at5, _, h1, hp5, ⟨rfl, rfl⟩, rfl⟩;rw [h1] at hF;dsimp only [R.bind] at hF;have hl5 : 1 + ts5.length <= ts4.length := (uq (ts := ts4)).2 _ _ h1;have hs5 := eL hp4 h1;clear h1;refine vr 1 ?_;refine Sr 5 Pm .h2 .h2 ?_;refine Bs 0 xH fun b5 => ?_
        refine Cp uK rfl .k1 (fun m1 h1 he => xF (s := zz) (hw.mono (hm.trans h1)) (Rd.blk (he _ (.head _))) (qA _ rfl) zb hp5) ?_ ?_
        ·rintro _ _ ⟨e', a', h1, rfl⟩;rw [h1] at hF;exact pn ⟨e', a', hF.symm, rfl⟩
        rintro _ _ ⟨_, ts6, at6, _, h1, hp6, ⟨rfl, rfl⟩, rfl⟩;rw [h1] at hF;dsimp only [R.bind] at hF;have hl6 : 1 + ts6.length <= ts5.length := (zK (s := zz) (ts := ts5)).2 _ _ h1;clear h1;refine vr 4 ?_;refine Lc 0 xP .h3 ?_;refine Sg 4 xP .h5 ?_
        exact yp [_] ⟨⟨b1, _, _, _, rfl, .h5, .inr ⟨rfl, rfl⟩⟩, trivial⟩ _ (.cons .here (zN.nilE (.nil _))) ⟨_, ts6, at6, _, hF.symm, hp6, ⟨⟨6, w, s, none, 0, 0, none, 0, 0⟩, yF [], rfl, rfl, fun ns _ => UA (s := s) hw8 (by unfold maxLen; omega)⟩, by show [rd b A c ws at6 d (p + 1), yF []] = [rd b A c ws at6 d (p + zX (.mk 6 w s [] [])), yF []]; rw [vH]; rfl⟩
       rw [if_neg (by rw [hk]; decide)] at hF;refine vr 8 ?_;refine Cp aW rfl .k0 (fun m1 h1 he => hsum m1 (hm.trans h1) at_ d (p + 1) ts hp hd8 za za) ?_ ?_
       ·rintro _ _ ⟨e', a', h1, rfl⟩;rw [h1] at hF;exact pn ⟨e', a', hF.symm, rfl⟩
       rintro _ _ ⟨a, ts1, at1, _, h1, hp1, ⟨q, ea, rfl, rfl, ha⟩, rfl⟩;rw [h1] at hF;dsimp only [R.bind] at hF;have hl1 := (hse d ts za).2 _ _ h1;clear h1;have hap := Zu a;refine Al 0 uw fun b2 => ?_;refine Sg 5 zT .here ?_;refine Bs 5 xH fun b3 => ?_
       refine yv (α := Nat) (fun i => [(0, zS b), (2, zS b1), (6, zS b2), (97, .slice (some ⟨b3, 0, none⟩) 3 3), (98, .int .i64 3), (99, .int .i64 (i : Nat))]) (fun i => [cel b3 [xm X9, xm Wa, xm Wb] 9, cel b2 q.v 85, rd b A c ws at1 d (p + 1 + zV a), ea, cel b1 [.int .i8 0, .int .i8 0, .string (bs []), .slice none 0 0, .slice none 0 0] 88]) (fun i => i <= yy.length /\ ∀ (j : Nat) (hj : j < yy.length), j < i -> isW yy[j].1 ts1 = false) (fun i => yy.length - i) 0 gB zx ⟨Nat.zero_le _, fun _ _ h => by cases h⟩ ?_
       rintro i ⟨hi, hno⟩;have hwl : yy.length = 3 := rfl;by_cases hli : i < yy.length
       ·have hcx : ([xm X9, xm Wa, xm Wb] : Lv)[i]? = some (xm yy[i].1) := IQ hli;have hfa := fun h => ZO (ts := ts1) hli h hno;have hw2 := IP hli;have hai := J3 hli
        have hnext : isW yy[i].1 ts1 = false -> ∀ (j : Nat) (hj : j < yy.length), j < i + 1 -> isW yy[j].1 ts1 = false := fun h j hj h2 => by
         by_cases hji : j < i
         ·exact hno j hj hji
         ·obtain rfl : j = i := by omega
          exact h
        generalize yy[i] = sg at hcx hfa hw2 hai hnext;refine tr 2 ?_;refine y4 11 ?_;refine pe 0 (zw ql rfl rfl rfl za) ?_;refine lr 8 (XU yI rfl .here hcx) ?_;refine C1 ge rfl .h2 (fun m1 h1 he => wS (s := sg.1) (hw.mono (hm.trans h1)) hp1 hai.1 hai.2) ?_;rintro _ _ (⟨hk1, hp2, rfl, rfl⟩ | ⟨hk1, rfl, rfl⟩)
        rotate_left
        ·refine vr 7 ?_;refine Pa 2 ?_;exact QR (i + 1) (.cons .h1 (.cons .h1 (.cons .here .pp))) ⟨hli, hnext hk1⟩ za
        have hl2 := yG hk1;rw [hfa hk1] at hF;dsimp only at hF;refine vr 6 ?_;refine Cp aW rfl .k0 (fun m1 h1 he => hsum m1 (hm.trans h1) (at1 + 1) d (p + 1 + zV a) ts1.tail hp2 hd8 za za) ?_ ?_
        ·rintro _ _ ⟨e', a', h1, rfl⟩;rw [h1] at hF;refine yk ?_;refine zC ?_;exact pn ⟨e', a', hF.symm, rfl⟩
        rintro _ _ ⟨y, ts3, at3, _, h1, hp3, ⟨r, ey, rfl, rfl, hy⟩, rfl⟩;rw [h1] at hF;dsimp only [R.bind] at hF;clear h1;refine Al 0 uw fun b4 => ?_;refine Sg 5 zT .here ?_;refine pe 0 ((ww DT Tz rfl (w8 za za))) ?_;skip;refine pe 0 ((wO rfl rfl (w8 za za))) ?_;rw [show ((0 : Int) + (i : Nat)) = sg.2 by omega];refine Lc 0 zT .h4 ?_
        refine Lc 0 zT .here ?_;refine Bs 0 S3 fun b5 => ?_;refine pe 0 (zA gr VB rfl rfl) ?_;refine Sg 5 xP .h7 ?_;refine zu ?_;refine zp ?_;refine zD ?_
        exact yp [_] ⟨⟨b1, _, _, _, rfl, .h7, .inr ⟨rfl, rfl⟩⟩, trivial⟩ _ (.cons .h2 (zN.pack3 (.cons .here (.cons .h4 .p1)))) ⟨_, ts3, at3, _, hF.symm, hp3, ⟨⟨sg.2, 0, [], some ⟨b5, 0, none⟩, 2, 2, none, 0, 0⟩, yF [cel b5 (q.v ++ r.v) 85, ea, ey], rfl, rfl, fun ns h => Kx (op := sg.2) ⟨by omega, by omega⟩ (h.1 _ (.head _)) (ha ns (h.1 _ (.tail _ (.head _)))) (hy ns (h.1 _ (.tail _ (.tail _ (.head _)))))⟩, by show [rd b A c ws at3 d (p + 1 + zV a + zV y), yF [cel b5 (q.v ++ r.v) 85, ea, ey]] = [rd b A c ws at3 d (p + zX (.mk sg.2 0 [] [a, y] [])), yF [cel b5 (q.v ++ r.v) 85, ea, ey]]; rw [vH]; simp only [List.map_nil, List.map_cons, List.sum_nil, List.sum_cons, Nat.add_zero, Nat.add_assoc]⟩
       rw [ZN (signs := yy) (ts := ts1) fun j hj => hno j hj za] at hF;dsimp only at hF;refine tr 2 ?_;refine zH 6 ?_;refine zm ?_;refine zk ?_;refine qt 4 ?_;refine Cp eZ rfl .k2 (fun m1 h1 he => jR 120 (hw.mono (hm.trans h1)) hp1) ?_ ?_
       ·rintro _ _ rfl;exact pn ⟨120, _, hF.symm, rfl⟩
       ·rintro _ _ h;exact h.elim
   | false =>
   rw [if_neg (by rw [hko]; simp)] at hF;refine vr 16 ?_;refine Lb 0 yl .here ?_;refine Pa 2 ?_;refine Sr 6 fB .here .h3 ?_;refine C1 ge rfl .here (fun m1 h1 he => wS (s := q9) (hw.mono (hm.trans h1)) hp (qA _ rfl) zb) ?_;rintro _ _ (⟨hk, hp1, rfl, rfl⟩ | ⟨hk, rfl, rfl⟩)
   ·have hl1 := yG hk;rw [if_pos hk] at hF;refine vr 6 ?_;refine Bs 0 xH fun b2 => ?_;refine Cp uK rfl .k1 (fun m1 h1 he => xF (s := zL) (hw.mono (hm.trans h1)) (Rd.blk (he _ (.head _))) (qA _ rfl) zb hp1) ?_ ?_
    ·rintro _ _ ⟨e', a', h1, rfl⟩;rw [h1] at hF;exact pn ⟨e', a', hF.symm, rfl⟩
    rintro _ _ ⟨_, ts2, at2, _, h1, hp2, ⟨rfl, rfl⟩, rfl⟩;rw [h1] at hF;dsimp only [R.bind] at hF;have hl2 : 1 + ts2.length <= ts.tail.length := (zK (s := zL) (ts := ts.tail)).2 _ _ h1;clear h1;refine vr 5 ?_;refine Cp W4 rfl .k0 (fun m1 h1 he => cG (hw.mono (hm.trans h1)) hp2) ?_ ?_
    ·rintro _ _ ⟨e', a', h1, rfl⟩;rw [h1] at hF;exact pn ⟨e', a', hF.symm, rfl⟩
    rintro _ _ ⟨w, ts3, at3, _, h1, hp3, ⟨rfl, rfl⟩, rfl⟩;rw [h1] at hF;dsimp only [R.bind] at hF;have hl3 : 1 + ts3.length <= ts2.length := (vU (ts := ts2)).2 _ _ h1;have hw8 := bq h1;clear h1;refine pe 0 (zA gr VB rfl rfl) ?_;refine Al 0 gr fun b3 => ?_;refine Sg 5 xP .here ?_;refine Bs 0 xH fun b4 => ?_
    refine Cp uK rfl .k2 (fun m1 h1 he => xF (s := y9) (hw.mono (hm.trans h1)) (Rd.blk (he _ (.head _))) (qA _ rfl) zb hp3) ?_ ?_
    ·rintro _ _ ⟨e', a', h1, rfl⟩;rw [h1] at hF;exact pn ⟨e', a', hF.symm, rfl⟩
    rintro _ _ ⟨_, ts4, at4, _, h1, hp4, ⟨rfl, rfl⟩, rfl⟩;rw [h1] at hF;dsimp only [R.bind] at hF;have hl4 : 1 + ts4.length <= ts3.length := (zK (s := y9) (ts := ts3)).2 _ _ h1;clear h1;refine vr 5 ?_;refine Cp Ln rfl .k0 (fun m1 h1 he => Yg (hT.mono (hm.trans h1)) (hw.mono (hm.trans h1)) hp4) ?_ ?_
    ·rintro _ _ ⟨e', a', h1, rfl⟩;rw [h1] at hF;exact pn ⟨e', a', hF.symm, rfl⟩
    rintro _ _ ⟨s, ts5, at5, _, h1, hp5, ⟨rfl, rfl⟩, rfl⟩;rw [h1] at hF;dsimp only [R.bind] at hF;have hl5 : 1 + ts5.length <= ts4.length := (uq (ts := ts4)).2 _ _ h1;have hs5 := eL hp4 h1;clear h1;refine vr 1 ?_;refine Sr 5 Pm .h2 .h2 ?_;refine Bs 0 xH fun b5 => ?_
    refine Cp uK rfl .k1 (fun m1 h1 he => xF (s := zz) (hw.mono (hm.trans h1)) (Rd.blk (he _ (.head _))) (qA _ rfl) zb hp5) ?_ ?_
    ·rintro _ _ ⟨e', a', h1, rfl⟩;rw [h1] at hF;exact pn ⟨e', a', hF.symm, rfl⟩
    rintro _ _ ⟨_, ts6, at6, _, h1, hp6, ⟨rfl, rfl⟩, rfl⟩;rw [h1] at hF;dsimp only [R.bind] at hF;have hl6 : 1 + ts6.length <= ts5.length := (zK (s := zz) (ts := ts5)).2 _ _ h1;clear h1;refine vr 4 ?_;refine Lc 0 xP .h3 ?_;refine Sg 4 xP .h5 ?_
    exact yp [_] ⟨⟨b1, _, _, _, rfl, .h5, .inr ⟨rfl, rfl⟩⟩, trivial⟩ _ (.cons .here (zN.nilE (.nil _))) ⟨_, ts6, at6, _, hF.symm, hp6, ⟨⟨6, w, s, none, 0, 0, none, 0, 0⟩, yF [], rfl, rfl, fun ns _ => UA (s := s) hw8 (by unfold maxLen; omega)⟩, by show [rd b A c ws at6 d (p + 1), yF []] = [rd b A c ws at6 d (p + zX (.mk 6 w s [] [])), yF []]; rw [vH]; rfl⟩
   rw [if_neg (by rw [hk]; decide)] at hF;refine vr 8 ?_;refine Cp aW rfl .k0 (fun m1 h1 he => hsum m1 (hm.trans h1) at_ d (p + 1) ts hp hd8 za za) ?_ ?_
   ·rintro _ _ ⟨e', a', h1, rfl⟩;rw [h1] at hF;exact pn ⟨e', a', hF.symm, rfl⟩
   rintro _ _ ⟨a, ts1, at1, _, h1, hp1, ⟨q, ea, rfl, rfl, ha⟩, rfl⟩;rw [h1] at hF;dsimp only [R.bind] at hF;have hl1 := (hse d ts za).2 _ _ h1;clear h1;have hap := Zu a;refine Al 0 uw fun b2 => ?_;refine Sg 5 zT .here ?_;refine Bs 5 xH fun b3 => ?_
   refine yv (α := Nat) (fun i => [(0, zS b), (2, zS b1), (6, zS b2), (97, .slice (some ⟨b3, 0, none⟩) 3 3), (98, .int .i64 3), (99, .int .i64 (i : Nat))]) (fun i => [cel b3 [xm X9, xm Wa, xm Wb] 9, cel b2 q.v 85, rd b A c ws at1 d (p + 1 + zV a), ea, cel b1 [.int .i8 0, .int .i8 0, .string (bs []), .slice none 0 0, .slice none 0 0] 88]) (fun i => i <= yy.length /\ ∀ (j : Nat) (hj : j < yy.length), j < i -> isW yy[j].1 ts1 = false) (fun i => yy.length - i) 0 gB zx ⟨Nat.zero_le _, fun _ _ h => by cases h⟩ ?_
   rintro i ⟨hi, hno⟩;have hwl : yy.length = 3 := rfl;by_cases hli : i < yy.length
   ·have hcx : ([xm X9, xm Wa, xm Wb] : Lv)[i]? = some (xm yy[i].1) := IQ hli;have hfa := fun h => ZO (ts := ts1) hli h hno;have hw2 := IP hli;have hai := J3 hli
    have hnext : isW yy[i].1 ts1 = false -> ∀ (j : Nat) (hj : j < yy.length), j < i + 1 -> isW yy[j].1 ts1 = false := fun h j hj h2 => by
     by_cases hji : j < i
     ·exact hno j hj hji
     ·obtain rfl : j = i := by omega
      exact h
    generalize yy[i] = sg at hcx hfa hw2 hai hnext;refine tr 2 ?_;refine y4 11 ?_;refine pe 0 (zw ql rfl rfl rfl za) ?_;refine lr 8 (XU yI rfl .here hcx) ?_;refine C1 ge rfl .h2 (fun m1 h1 he => wS (s := sg.1) (hw.mono (hm.trans h1)) hp1 hai.1 hai.2) ?_;rintro _ _ (⟨hk1, hp2, rfl, rfl⟩ | ⟨hk1, rfl, rfl⟩)
    rotate_left
    ·refine vr 7 ?_;refine Pa 2 ?_;exact QR (i + 1) (.cons .h1 (.cons .h1 (.cons .here .pp))) ⟨hli, hnext hk1⟩ za
    have hl2 := yG hk1;rw [hfa hk1] at hF;dsimp only at hF;refine vr 6 ?_;refine Cp aW rfl .k0 (fun m1 h1 he => hsum m1 (hm.trans h1) (at1 + 1) d (p + 1 + zV a) ts1.tail hp2 hd8 za za) ?_ ?_
    ·rintro _ _ ⟨e', a', h1, rfl⟩;rw [h1] at hF;refine yk ?_;refine zC ?_;exact pn ⟨e', a', hF.symm, rfl⟩
    rintro _ _ ⟨y, ts3, at3, _, h1, hp3, ⟨r, ey, rfl, rfl, hy⟩, rfl⟩;rw [h1] at hF;dsimp only [R.bind] at hF;clear h1;refine Al 0 uw fun b4 => ?_;refine Sg 5 zT .here ?_;refine pe 0 ((ww DT Tz rfl (w8 za za))) ?_;skip;refine pe 0 ((wO rfl rfl (w8 za za))) ?_;rw [show ((0 : Int) + (i : Nat)) = sg.2 by omega];refine Lc 0 zT .h4 ?_
    refine Lc 0 zT .here ?_;refine Bs 0 S3 fun b5 => ?_;refine pe 0 (zA gr VB rfl rfl) ?_;refine Sg 5 xP .h7 ?_;refine zu ?_;refine zp ?_;refine zD ?_
    exact yp [_] ⟨⟨b1, _, _, _, rfl, .h7, .inr ⟨rfl, rfl⟩⟩, trivial⟩ _ (.cons .h2 (zN.pack3 (.cons .here (.cons .h4 .p1)))) ⟨_, ts3, at3, _, hF.symm, hp3, ⟨⟨sg.2, 0, [], some ⟨b5, 0, none⟩, 2, 2, none, 0, 0⟩, yF [cel b5 (q.v ++ r.v) 85, ea, ey], rfl, rfl, fun ns h => Kx (op := sg.2) ⟨by omega, by omega⟩ (h.1 _ (.head _)) (ha ns (h.1 _ (.tail _ (.head _)))) (hy ns (h.1 _ (.tail _ (.tail _ (.head _)))))⟩, by show [rd b A c ws at3 d (p + 1 + zV a + zV y), yF [cel b5 (q.v ++ r.v) 85, ea, ey]] = [rd b A c ws at3 d (p + zX (.mk sg.2 0 [] [a, y] [])), yF [cel b5 (q.v ++ r.v) 85, ea, ey]]; rw [vH]; simp only [List.map_nil, List.map_cons, List.sum_nil, List.sum_cons, Nat.add_zero, Nat.add_assoc]⟩
   rw [ZN (signs := yy) (ts := ts1) fun j hj => hno j hj za] at hF;dsimp only at hF;refine tr 2 ?_;refine zH 6 ?_;refine zm ?_;refine zk ?_;refine qt 4 ?_;refine Cp eZ rfl .k2 (fun m1 h1 he => jR 120 (hw.mono (hm.trans h1)) hp1) ?_ ?_
   ·rintro _ _ rfl;exact pn ⟨120, _, hF.symm, rfl⟩
   ·rintro _ _ h;exact h.elim
end
section
open Wd Tp Kd
variable {m : Mp} {b c at_ d p : Nat} {A : Oa} {ws ts : List yf}
theorem KR : bY wE := ⟨by decide, fun s hs => by
 simp only [wE, List.mem_cons, List.not_mem_nil, or_false] at hs
 rcases hs with rfl <;> exact ⟨qA _ rfl, by decide, by decide, by decide⟩⟩
theorem GJ : bY kP := ⟨by decide, fun s hs => by
 simp only [kP, List.mem_cons, List.not_mem_nil, or_false] at hs
 rcases hs with rfl <;> exact ⟨qA _ rfl, by decide, by decide, by decide⟩⟩
theorem Rv {cond : Nat -> List yf -> R zI} {k : Nat} (hT : xU m) (hw : eu m A ws) (hcap : ws.length <= c) (hp : jT ws at_ ts) (hd8 : d <= 8) (hb : p + ts.length <= 4611686018427000000) (hk0 : ts.length < k + 1) (hce : ∀ d ts, ts.length < k -> Tp.Ends (cond d ts) zX ts.length) (hcond : FM m b A c ws cond k) :
  UL 160 [zS b] m b A c ws at_ d p (aj cond (k + 1) d ts) zX Kw := by
 refine ym [.cell 2 88] Tryz.func160 rfl rfl rfl ?_;refine tr 2 ?_;refine Al 5 gr fun b1 => ?_;refine Bs 0 xH fun b2 => ?_;refine Bs 2 Iu fun b3 => ?_
 refine zg (z8 Sx rfl .k3 (fun m' hm he => MP (k := k + 1) (n := k + 1) (signs := wE) Sv (hw.mono hm) ⟨Rd.blk (he _ (.tail _ (.head _))), Rd.blk (he _ (.head _))⟩ KR
  (fun ts h => bp (uo (k + 1)) hce (k + 1) d ts h h)
  (fun m2 h2 at_ p ts hp hb hk => It (hT.mono (hm.trans h2)) (hw.mono (hm.trans h2)) hcap (uo (k + 1)) (dF (k + 1) (hw.mono (hm.trans h2))) hce (hcond.mono (hm.trans h2)) (k + 1) m2 (Le.refl _) at_ d p ts hp hd8 hb hk hk) hp hb hk0 hk0) rfl ?_ ?_) rfl
 ·rintro _ _ ⟨e', a', h1, rfl⟩;exact pn ⟨e', a', h1, rfl⟩
 rintro _ _ ⟨x, ts1, at1, _, h1, hp1, ⟨q, e, rfl, rfl, hx⟩, rfl⟩;refine Sg 3 xP .h4 ?_;exact yp [_] ⟨⟨b1, _, _, _, rfl, .h4, .inr ⟨rfl, rfl⟩⟩, trivial⟩ _ .pp ⟨x, ts1, at1, _, h1, hp1, ⟨q, e, rfl, rfl, hx⟩, rfl⟩
theorem I9 (hcap : ws.length <= c) : ∀ (n : Nat) {m : Mp}, xU m -> eu m A ws -> FM m b A c ws (xL n) n
 | 0, _, _, _ => fun m' hm at_ d p ts hp hd8 hb hk => by cases hk
 | n + 1, m, hT, hw => fun m' hm at_ d p ts hp hd8 hb hk => by
   refine ym [.cell 2 88] Tryz.func143 rfl rfl rfl ?_;refine tr 2 ?_;refine Al 5 gr fun b1 => ?_;refine Bs 0 xH fun b2 => ?_;refine Bs 2 Iu fun b3 => ?_
   refine zg (z8 Sx rfl .k3 (fun m1 h1 he => MP (k := n + 1) (n := n + 1) (signs := kP) EX (hw.mono (hm.trans h1)) ⟨Rd.blk (he _ (.tail _ (.head _))), Rd.blk (he _ (.head _))⟩ GJ
    (fun ts h => eG (k := n + 1) (fun ts h => bp (uo (n + 1)) (eY n) (n + 1) d ts h h) bP (n + 1) ts h h)
    (fun m2 h2 at_ p ts hp hb hk => Rv (k := n) (hT.mono (hm.trans (h1.trans h2))) (hw.mono (hm.trans (h1.trans h2))) hcap hp hd8 hb hk (eY n) (I9 hcap n (hT.mono (hm.trans (h1.trans h2))) (hw.mono (hm.trans (h1.trans h2))))) hp hb hk hk) rfl ?_ ?_) rfl
   ·rintro _ _ ⟨e', a', h1, rfl⟩;exact pn ⟨e', a', h1, rfl⟩
   rintro _ _ ⟨x, ts1, at1, _, h1, hp1, ⟨q, e, rfl, rfl, hx⟩, rfl⟩;refine Sg 3 xP .h4 ?_;exact yp [_] ⟨⟨b1, _, _, _, rfl, .h4, .inr ⟨rfl, rfl⟩⟩, trivial⟩ _ .pp ⟨x, ts1, at1, _, h1, hp1, ⟨q, e, rfl, rfl, hx⟩, rfl⟩
end
end Go.Proofs.YtgohljjedlpccaaGreatDoor
