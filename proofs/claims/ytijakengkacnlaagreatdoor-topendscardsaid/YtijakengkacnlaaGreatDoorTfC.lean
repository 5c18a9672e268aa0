/- The contracts of the upper levels; the law lives() is true. No condition. -/
import Derived.Test.YtijakengkacnlaaGreatDoorTfM10a
import Derived.Test.YtijakengkacnlaaGreatDoorTfM250a
import Derived.Test.YtijakengkacnlaaGreatDoorTfM510a
import Derived.Test.YtijakengkacnlaaGreatDoorTfM510b
import Derived.Test.YtijakengkacnlaaGreatDoorTfM510c
import Derived.Test.YtijakengkacnlaaGreatDoorTfM376a
import Derived.Test.YtijakengkacnlaaGreatDoorTfM377a
import Derived.Test.YtijakengkacnlaaGreatDoorTfM377b
import Derived.Test.YtijakengkacnlaaGreatDoorTfM377c
import Derived.Test.YtijakengkacnlaaGreatDoorTfM377d
set_option linter.all false
set_option maxRecDepth 1000000
noncomputable section
namespace Go.Ev
open Go.Eng Go.Proofs Go.Proofs.YtijakengkacnlaaGreatDoor
def s10 : List (Nat × Ct) := [(6, yI Tx)]
theorem FI : yZ tP 10 (ez s10) := yZ.sel cl10 (zp Cp j9)
def CN : List (Nat × Ct) := [(701, yI V4), (706, yI V3), (782, yI V2), (787, yI V1), (1344, yI Xw), (1349, yI Xv), (1425, yI Xu), (1430, yI Xt)]
theorem Pi : yZ tP 250 (ez CN) := yZ.sel Ar (zp Ly (zp Lx (zp Lw (zp Lu (zp IM (zp IL (zp IK (zp IJ j9))))))))
def CK : List (Nat × Ct) := [(2069, yI Xb), (2073, yI Xa), (2172, yI Y9), (2231, yI Y8), (2495, yI Y7), (2499, yI Y6), (2598, yI Y5), (2657, yI Y4), (3893, yI Y3), (3897, yI Y2), (3984, yI Y1), (4043, yI Y0), (4059, yI YZ), (4063, yI YY), (4156, yI YX), (4215, yI YW), (4898, yI YV), (4902, yI YU), (4905, yI YT), (4907, yI YS), (4947, yI YR), (5006, yI YQ), (7047, yI YP), (7051, yI YO), (7054, yI YN), (7160, yI YM), (7219, yI YL)]
theorem Pe : yZ tP 510 (ez CK) := yZ.sel BV (zp Iq (zp Ip (zp Io (zp In (zp Im (zp Il (zp Ik (zp Ij (zp Ii (zp Ih (zp Ig (zp If (zp Ie (zp Id (zp Ic (zp Ib (zp Ia (zp G9 (zp G8 (zp G7 (zp G6 (zp G5 (zp G4 (zp G3 (zp G2 (zp G1 (zp G0 j9)))))))))))))))))))))))))))
def CM : List (Nat × Ct) := [(4253, yI Xr), (6751, yI Xq)]
theorem Ph : yZ tP 376 (ez CM) := yZ.sel B3 (zp IH (zp IG j9))
def CL : List (Nat × Ct) := [(4278, yI Xp), (4336, yI Xo), (4394, yI Xn), (4452, yI Xm), (4510, yI Xl), (4568, yI Xk), (4626, yI Xj), (4684, yI Xi), (4742, yI Xh), (4800, yI Xg), (6776, yI Xf), (6834, yI Xe), (6892, yI Xd), (6950, yI Xc)]
theorem Pg : yZ tP 377 (ez CL) := yZ.sel B0 (zp IF (zp IE (zp ID (zp IC (zp IB (zp IA (zp Iz (zp Iy (zp Ix (zp Iw (zp Iu (zp It (zp Is (zp Ir j9))))))))))))))
def xC : ki := a1 510 (ez CK) (a1 377 (ez CL) (a1 376 (ez CM) (a1 250 (ez CN) (a1 10 (ez s10) xB))))
theorem Ko : kN tP xC := xZ Pe (xZ Pg (xZ Ph (xZ Pi (xZ FI Tj))))
def D1 (X : ki) (g : Nat) : Ct := fun vs s k => oB (tD g) fun d => TZ tP X tD (run tP X tD 5000) zE d s k vs
variable {X : ki} {g : Nat}
theorem ZP (hX : kN tP X) (hc : z7 tP g = true) : yZ tP g (D1 X g) := ⟨hc, fun {vs s k r} h hr => by
 obtain ⟨d, h1, h2⟩ := zt h hr
 exact (NH hX Yo (LZ hX Yo Yn kp 5000) Yn Cj h1 h2 hr).2⟩
def xD : ki := a1 295 (D1 xC 295) (a1 265 (D1 xC 265) (a1 252 (D1 xC 252) xC))
theorem dK : kN tP xD := xZ (ZP Ko B9) (xZ (ZP Ko Ap) (xZ (ZP Ko Aq) Ko))
def runX (X : ki) (g : Nat) (r : MR) : Rs := H4 (r.sm ++ r.cg) fun t => Ni t r.cg (qA tP X tD 5000 g r.vs ⟨t, r.n0⟩ (E4 r.v r.sm r.outs r.n1))
variable {r : MR}
theorem qp (hX : kN tP X) (h : runX X g r = done) (h2 : okM r = true) : yZ tP g (yI r) := KY hX Yo Yn kp h h2
def fbC (X : ki) (g : Nat) (r : MR) : Ct := fun vs s k => Bool.rec (motive := fun _ => Rs) (qA tP X tD 5000 g vs s k) (yI r vs s k) (Nat.beq r.n0 s.nx)
theorem JN (hX : kN tP X) (h : yZ tP g (yI r)) : yZ tP g (fbC X g r) := ⟨h.1, fun {vs s k r'} h1 hr => by
 replace h1 : Bool.rec (motive := fun _ => Rs) (qA tP X tD 5000 g vs s k) (yI r vs s k) (Nat.beq r.n0 s.nx) = r' := h1
 cases hb : Nat.beq r.n0 s.nx with
 | true => rw [hb] at h1; exact h.2 h1 hr
 | false => rw [hb] at h1; exact (gS hX Yo Yn kp h1 hr).2⟩
def p0 : Lv := y1 [0, 48, 1, 0, 45, 3, 97, 110, 110, 0, 0, 0, 1, 0, 0, 0, 0, 0, 81, 65, 237, 102, 213, 167, 180, 73, 98, 78, 61, 105, 157, 89, 107, 220, 78, 241, 162, 32, 196, 13, 142, 243, 233, 175, 80, 183, 81, 176, 95, 111]
def p1 : Lv := y1 [0, 48, 1, 0, 45, 3, 98, 111, 98, 0, 0, 0, 1, 0, 0, 0, 0, 0, 154, 252, 73, 232, 120, 230, 250, 255, 81, 230, 100, 14, 87, 130, 150, 184, 209, 206, 32, 149, 111, 203, 64, 124, 221, 88, 237, 126, 0, 199, 79, 59]
def p2 : Lv := y1 [0, 41, 3, 0, 0, 0, 0, 0, 0, 0, 0, 0, 5, 0, 4, 66, 111, 108, 116, 0, 4, 66, 111, 108, 116, 0, 4, 66, 111, 108, 116, 0, 4, 66, 111, 108, 116, 0, 4, 66, 111, 108, 116]
def p3 : Lv := y1 [0, 0, 0, 0, 0, 0, 0, 0, 0, 1, 1, 1, 1, 1, 0, 0, 0, 0, 0, 0, 0, 0, 0, 0, 0, 0, 0, 0, 0, 0, 0, 0, 1, 0, 0, 0, 0, 0, 0, 0, 0, 0, 0, 0, 0, 0, 0, 0, 0, 0, 0, 0, 0, 0, 0, 0, 0, 0, 0, 0, 0, 0, 0, 0, 0, 0, 0, 0, 0, 0, 0, 0, 0, 0, 0, 0, 0, 0, 0, 0, 0, 0, 0, 0, 0, 0, 0, 0, 0, 0, 0, 0, 0, 0, 0, 0, 0, 0, 0, 0, 0, 0, 0, 0, 0, 0, 0, 0, 0, 0, 0, 0, 0, 0, 0, 0, 0, 0, 0, 0, 0, 0, 0, 0, 0, 0, 0, 0, 0, 0, 0, 0, 0, 0, 0, 0, 0, 0, 0, 0, 0, 0, 0, 0, 0, 0, 0, 0, 0, 0, 0, 0, 0, 0, 0, 0, 0, 0, 0, 0, 0, 0, 0, 0, 0, 0, 0, 0, 0, 0, 0, 0, 0, 0, 0, 0, 0, 0, 0, 0, 0, 0, 0, 0, 0, 0, 0, 0, 0, 0, 0, 0, 0, 0, 0, 0, 0, 0, 0, 0, 0, 0, 0, 0, 0, 0, 0, 0, 0, 0, 0, 0, 0, 0, 0, 0, 0, 0, 0, 0, 0, 0, 0, 0, 0, 0, 0, 0, 0, 0, 0, 0, 0, 0, 0, 0, 0, 0, 0, 0, 0, 0, 0, 0, 0, 0, 0, 0, 0, 0, 0, 0, 0, 0, 0, 0]
def p4 : Lv := y1 [0, 0, 0, 194, 233, 63, 192, 77, 0, 0, 0, 0, 0, 0, 0, 0, 51, 55, 230, 194, 96, 35, 2, 89, 18, 11, 19, 159, 94, 102, 195, 59, 21, 201, 146, 250, 4, 7, 199, 89, 204, 203, 186, 13, 82, 224, 185, 137, 232, 15, 154, 225, 247, 109, 181, 203, 187, 188, 213, 246, 36, 201, 13, 186, 146, 134, 30, 118, 67, 208, 61, 252, 225, 58, 112, 18, 17, 9, 38, 39, 127, 117, 216, 171, 29, 122, 16, 103, 166, 241, 230, 103, 86, 14, 106, 62, 213, 180, 106, 234, 10, 40, 9, 241, 91, 56, 214, 127, 27, 103, 34, 75, 89, 163, 255, 48, 92, 63, 218, 219, 97, 108, 7, 231, 40, 165, 71, 175, 131, 109, 203, 60, 79, 170, 16, 103, 92, 118, 189, 59, 215, 255, 190, 100, 166, 112, 108, 228, 5, 114, 199, 41, 37, 211, 120, 151, 101, 4, 149, 114, 150, 115, 67, 148, 20, 71, 83, 141, 200, 39, 169, 144, 144, 191, 82, 115, 22, 204, 25, 189, 181, 79, 93, 129, 222, 235, 0, 9, 253, 91, 200, 212, 255, 169, 227, 241, 115, 71, 77, 227, 137, 4]
def p5 : Lv := y1 [117, 23, 193, 122, 182, 210, 36, 221, 149, 58, 221, 48, 166, 82, 69, 127, 146, 182, 194, 240, 56, 84, 212, 204, 118, 255, 119, 159, 82, 222, 77, 91, 226, 116, 142, 60, 120, 226, 214, 158, 113, 49, 199, 38, 54, 110, 192, 222]
def p6 : Lv := y1 [0, 97, 66, 0, 0, 0, 0, 0, 0, 0, 0, 0, 2, 0, 0, 0, 0, 0, 0, 0, 0, 0, 0, 0, 0, 0, 0, 0, 0, 0, 0, 0, 0, 0, 0, 0, 0, 0, 0, 0, 0, 0, 0, 0, 0, 0, 0, 0, 0, 0, 0, 0, 0, 1, 0, 0, 3, 0, 0, 0, 0, 0, 0, 0, 0, 0, 0, 0, 0, 0, 0, 0, 1, 0, 0, 0, 0, 0, 0, 0, 0, 0, 0, 0, 0, 0, 0, 0, 0, 0, 0, 0, 0, 0, 0, 0, 0, 0, 0]
def p7 : Lv := y1 [0, 97, 66, 0, 0, 0, 0, 0, 0, 0, 0, 0, 2, 0, 0, 0, 0, 0, 0, 0, 0, 0, 0, 0, 0, 0, 0, 0, 0, 0, 0, 0, 0, 0, 0, 0, 0, 0, 0, 0, 0, 0, 0, 0, 0, 0, 0, 0, 0, 0, 0, 0, 0, 1, 0, 0, 3, 0, 0, 0, 0, 0, 0, 0, 0, 255, 255, 255, 255, 255, 255, 255, 254, 0, 0, 0, 0, 0, 0, 0, 0, 0, 0, 0, 0, 0, 0, 0, 0, 0, 0, 0, 0, 0, 0, 0, 0, 0, 0]
def p8 : Lv := y1 [0, 38, 4, 0, 0, 0, 0, 0, 0, 0, 0, 0, 0, 0, 0, 0, 0, 0, 0, 0, 0, 0, 0, 0, 0, 0, 0, 0, 255, 255, 255, 255, 255, 255, 255, 255, 0, 0, 0, 0]
def p9 : Lv := y1 [0, 97, 66, 0, 0, 0, 0, 0, 0, 0, 0, 0, 2, 1, 0, 0, 0, 0, 0, 0, 0, 0, 0, 0, 0, 0, 0, 0, 0, 1, 0, 0, 0, 0, 0, 0, 0, 0, 255, 255, 255, 255, 255, 255, 255, 255, 0, 0, 0, 0, 0, 0, 0, 0, 0, 0, 5, 0, 0, 0, 0, 0, 0, 0, 1, 0, 0, 0, 0, 0, 0, 0, 0, 0, 0, 0, 0, 0, 0, 0, 0, 0, 0, 0, 0, 0, 0, 0, 0, 0, 0, 0, 0, 0, 0, 0, 3, 0, 0]
end Go.Ev
end
