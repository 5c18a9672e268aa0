/- Closed facts about the types and functions of this seat's program. No condition. -/
import Derived.Test.YtijakengkacnlaaGreatDoorProg
import Derived.Test.YtijakengkacnlaaGreatDoorEng2
import Derived.KernelRfl
set_option linter.all false
namespace Go.Proofs.YtijakengkacnlaaGreatDoor
open Go.Eng
set_option maxRecDepth 100000
abbrev cc (t : Nat) : Prop := z7 Tryz.prog t = true
abbrev sn (t : Nat) : Prop := single Tryz.prog t = true
abbrev c1 (t : Nat) : Prop := kK Tryz.prog t = true
abbrev az (t q : Nat) : Prop := xb Tryz.prog t = some q
theorem mixed : Tryz.prog.follows .mixedOrders = true := zn
theorem gt : az 25 2 := zk
theorem cl4 : cc 4 := zk
theorem di : yi Tryz.prog 27 = some (2, 26, 1) := zn
theorem N8 : sn 26 := zk
theorem wg : sn 26 := zk
theorem EH : xu Tryz.prog 26 = true := zn
theorem BW : cc 5 := zk
theorem Dz : az 27 2 := zk
theorem cl6 : cc 6 := zk
theorem qX : yB Tryz.prog 36 = some [.int .i64 0, .int .i64 0, .int .i8 0, .bool false, .int .i8 0, .slice none 0 0, .int .i64 0, .int .i64 0, .int .i64 0, .int .i64 0, .slice none 0 0, .slice none 0 0, .slice none 0 0, .slice none 0 0, .slice none 0 0, .int .i64 0, .int .i64 0, .int .i64 0, .slice none 0 0, .slice none 0 0, .slice none 0 0, .slice none 0 0, .slice none 0 0] := zn
theorem yn : az 36 23 := zk
theorem zD : sn 30 := zk
theorem yH : sn 3 := zk
theorem zl44 : yB Tryz.prog 44 = some [.int .i8 0, .int .i64 0, .int .i64 0, .int .i64 0, .slice none 0 0, .slice none 0 0] := zn
theorem pl44 : xl Tryz.prog 44 = some [(0, 1), (1, 1), (2, 1), (3, 1), (4, 1), (5, 1)] := zn
theorem cl7 : cc 7 := zk
theorem Pc : sn 23 := zk
theorem EQ : de Tryz.prog 23 = some 7 := zn
theorem O8 : sn 46 := zk
theorem QU : sn 22 := zk
theorem cl8 : cc 8 := zk
theorem cl10 : cc 10 := zk
theorem cl14 : cc 14 := zk
theorem vO : yi Tryz.prog 34 = some (2, 33, 8) := zn
theorem E3 : cc 16 := zk
theorem JK : foff Tryz.prog 73 0 = some 0 := zn
theorem JH : bi Tryz.prog 73 0 = some 38 := zn
theorem JI : sn 38 := zk
theorem FY : xl Tryz.prog 36 = some [(0, 1), (1, 1), (2, 1), (3, 1), (4, 1), (5, 1), (6, 1), (7, 16)] := zn
theorem cl18 : cc 18 := zk
theorem AF : cc 17 := zk
theorem Ay : cc 19 := zk
theorem ac : de Tryz.prog 26 = some 1 := zn
theorem ah : cc 20 := zk
theorem Cb : yB Tryz.prog 33 = some [.int .i64 0, .int .i64 0, .int .i64 0, .slice none 0 0, .slice none 0 0, .slice none 0 0, .slice none 0 0, .slice none 0 0] := zn
theorem C2 : xl Tryz.prog 33 = some [(0, 1), (1, 1), (2, 1), (3, 1), (4, 1), (5, 1), (6, 1), (7, 1)] := zn
theorem zag : az 33 8 := zk
theorem E2 : cc 21 := zk
theorem zae : az 44 6 := zk
theorem cl22 : cc 22 := zk
theorem ZT : cc 23 := zk
theorem zl86 : yB Tryz.prog 86 = some [.slice none 0 0, .slice none 0 0, .int .i64 0, .int .i64 0, .int .i8 0, .bool false, .int .i8 0, .slice none 0 0, .int .i64 0, .int .i64 0, .int .i64 0, .int .i64 0, .slice none 0 0, .slice none 0 0, .slice none 0 0, .slice none 0 0, .slice none 0 0, .int .i64 0, .int .i64 0, .int .i64 0, .slice none 0 0, .slice none 0 0, .slice none 0 0, .slice none 0 0, .slice none 0 0, .int .i8 0, .int .i64 0, .int .i64 0, .int .i64 0, .slice none 0 0, .slice none 0 0, .slice none 0 0, .int .i64 0] := zn
theorem pl86 : xl Tryz.prog 86 = some [(0, 2), (2, 23), (25, 6), (31, 1), (32, 1)] := zn
theorem jP : c1 26 := zk
theorem cl27 : cc 27 := zk
theorem D4 : yB Tryz.prog 88 = some [.nilFunc, .nilFunc, .nilFunc, .nilFunc, .nilFunc] := zn
theorem A4 : yi Tryz.prog 88 = some (5, 87, 1) := zn
theorem ag88 : az 88 5 := zk
theorem sg87 : sn 87 := zk
theorem Pb : sn 37 := zk
theorem il22 : xu Tryz.prog 22 = true := zn
theorem dd : de Tryz.prog 22 = some 12 := zn
theorem eO : az 92 12 := zk
theorem cl29 : cc 29 := zk
theorem ey : sn 9 := zk
theorem Tn : xz Tryz.prog 9 = true := zn
theorem ql : yB Tryz.prog 73 = some [.int .i64 0, .int .i64 0] := zn
theorem uu : az 73 2 := zk
theorem Ci : yB Tryz.prog 110 = some [.string ByteArray.empty, .int .i8 0, .int .i64 0] := zn
theorem dQ : (Tryz.prog.underlying 30).isSome = true := zn
theorem Nj : qu Tryz.prog 3 .i64 = true := zn
theorem O9 : sn 4 := zk
theorem cl43 : cc 43 := zk
theorem cl45 : cc 45 := zk
theorem cl47 : cc 47 := zk
theorem Ch : yB Tryz.prog 114 = some [.nilFunc, .nilFunc, .nilFunc] := zn
theorem GH : yi Tryz.prog 114 = some (3, 113, 1) := zn
theorem J4 : sn 113 := zk
theorem IS : sn 38 := zk
theorem Zd : xl Tryz.prog 73 = some [(0, 1), (1, 1)] := zn
theorem cl49 : cc 49 := zk
theorem zl3 : yB Tryz.prog 3 = some [.int .i64 0] := zn
theorem Yw : c1 3 := zk
theorem cl50 : cc 50 := zk
theorem cl51 : cc 51 := zk
theorem fO : wO Tryz.prog 26 = some (3, 1, 8, [.int .i64 0]) := zn
theorem E1 : cc 52 := zk
theorem co4 : c1 4 := zk
theorem dV : sn 31 := zk
theorem il31 : xu Tryz.prog 31 = true := zn
theorem cl53 : cc 53 := zk
theorem uw : yB Tryz.prog 127 = some [.int .i8 0, .int .i64 0, .int .i64 0, .int .i64 0, .int .i64 0, .int .i64 0, .slice none 0 0] := zn
theorem xS : az 127 7 := zk
theorem RC : foff Tryz.prog 92 10 = some 10 := zn
theorem uQ : sn 90 := zk
theorem il90 : xu Tryz.prog 90 = true := zn
theorem Th : yB Tryz.prog 132 = some [.int .i64 0, .int .i64 0, .bool false] := zn
theorem CB : wO Tryz.prog 130 = some (132, 3, 24, [.int .i64 0, .int .i64 0, .bool false]) := zn
theorem cl54 : cc 54 := zk
theorem bJ : xl Tryz.prog 127 = some [(0, 1), (1, 1), (2, 1), (3, 1), (4, 1), (5, 1), (6, 1)] := zn
theorem VQ : wO Tryz.prog 37 = some (127, 7, 72, [.int .i8 0, .int .i64 0, .int .i64 0, .int .i64 0, .int .i64 0, .int .i64 0, .slice none 0 0]) := zn
theorem BR : cc 55 := zk
theorem cl56 : cc 56 := zk
theorem BQ : cc 57 := zk
theorem BM : c1 31 := zk
theorem GW : yB Tryz.prog 92 = some [.string ByteArray.empty, .bool false, .int .i64 0, .int .i64 0, .int .i64 0, .int .i64 0, .int .i64 0, .int .i64 0, .slice none 0 0, .slice none 0 0, .slice none 0 0, .int .i64 0] := zn
theorem cl62 : cc 62 := zk
theorem sg42 : sn 42 := zk
theorem EM : foff Tryz.prog 92 8 = some 8 := zn
theorem NP : cc 70 := zk
theorem EL : foff Tryz.prog 92 9 = some 9 := zn
theorem cl71 : cc 71 := zk
theorem DV : sn 2 := zk
theorem BE : de Tryz.prog 46 = some 1 := zn
theorem DT : (Tryz.prog.underlying 3).isSome = true := zn
theorem zai : az 110 3 := zk
theorem UM : qu Tryz.prog 165 .u64 = true := zn
theorem Ln : (Tryz.prog.underlying 2).isSome = true := zn
theorem cl89 : cc 89 := zk
theorem cl44 : cc 44 := zk
theorem uj : ky Tryz.prog 197 = some 4 := zn
theorem gH : Ti Tryz.prog 4 (.bool false) := Ld (i := _) rfl zn
theorem WH : foff Tryz.prog 92 11 = some 11 := zn
theorem cl95 : cc 95 := zk
theorem cl46 : cc 46 := zk
theorem bz : yB Tryz.prog 203 = some [.int .i8 0] := zn
theorem KN : xl Tryz.prog 203 = some [(0, 1)] := zn
theorem xY : az 203 1 := zk
theorem NO : cc 96 := zk
theorem cl48 : cc 48 := zk
theorem zac : az 48 7 := zk
theorem zl48 : yB Tryz.prog 48 = some [.string ByteArray.empty, .int .i64 0, .int .i64 0, .int .i64 0, .slice none 0 0, .slice none 0 0, .int .i64 0] := zn
theorem BP : cc 97 := zk
theorem Cg : yB Tryz.prog 206 = some [.slice none 0 0, .slice none 0 0] := zn
theorem Fe : yi Tryz.prog 206 = some (2, 46, 1) := zn
theorem Ds : sn 46 := zk
theorem cl98 : cc 98 := zk
theorem cl99 : cc 99 := zk
theorem RX : c1 30 := zk
theorem NX : cc 100 := zk
theorem Mu : cT Tryz.prog 209 = true := zn
theorem Gw : cc 101 := zk
theorem Gv : cc 102 := zk
theorem Of : az 132 3 := zk
theorem zl37 : yB Tryz.prog 37 = some [.slice none 0 0] := zn
theorem Ce : yB Tryz.prog 217 = some [.slice none 0 0] := zn
theorem C4 : xl Tryz.prog 217 = some [(0, 1)] := zn
theorem AR : cc 103 := zk
theorem AQ : cc 105 := zk
theorem BK : c1 37 := zk
theorem AP : cc 108 := zk
theorem AN : cc 109 := zk
theorem AM : cc 110 := zk
theorem T7 : cc 111 := zk
theorem AL : cc 112 := zk
theorem AK : cc 113 := zk
theorem AJ : cc 114 := zk
theorem Fd : yi Tryz.prog 234 = some (5, 233, 1) := zn
theorem Dr : sn 233 := zk
theorem Cd : yB Tryz.prog 237 = some [.pointer none, .pointer none, .pointer none] := zn
theorem C3 : xl Tryz.prog 237 = some [(0, 1), (1, 1), (2, 1)] := zn
theorem aa : de Tryz.prog 90 = some 14 := zn
theorem yw : foff Tryz.prog 262 0 = some 0 := zn
theorem AI : cc 126 := zk
theorem Gd : foff Tryz.prog 262 2 = some 2 := zn
theorem gV : az 257 4 := zk
theorem NW : cc 127 := zk
theorem RG : foff Tryz.prog 262 4 = some 7 := zn
theorem XX : az 260 5 := zk
theorem T6 : cc 128 := zk
theorem RF : foff Tryz.prog 262 5 = some 12 := zn
theorem RE : foff Tryz.prog 262 6 = some 13 := zn
theorem LV : sn 184 := zk
theorem AH : cc 141 := zk
theorem T5 : cc 161 := zk
theorem Ca : yB Tryz.prog 333 = some [.int .i64 0, .int .i64 0, .int .i64 0, .int .i64 0, .int .i64 0, .int .i64 0] := zn
theorem GG : yi Tryz.prog 333 = some (6, 3, 1) := zn
theorem J3 : sn 3 := zk
theorem AG : cc 167 := zk
theorem Te : yB Tryz.prog 336 = some [.map none, .bool false] := zn
theorem TC : xl Tryz.prog 336 = some [(0, 1), (1, 1)] := zn
theorem bT : cc 168 := zk
theorem Td : yB Tryz.prog 339 = some [.nilFunc, .nilFunc, .nilFunc, .nilFunc, .nilFunc, .nilFunc, .nilFunc, .nilFunc, .nilFunc] := zn
theorem eh : yi Tryz.prog 339 = some (9, 338, 1) := zn
theorem zaf : az 339 9 := zk
theorem AE : cc 173 := zk
theorem NV : cc 175 := zk
theorem AD : cc 176 := zk
theorem AB : cc 178 := zk
theorem AC : cc 177 := zk
theorem Cf : yB Tryz.prog 212 = some [.pointer none, .int .i64 0, .int .i64 0, .int .i8 0, .bool false, .int .i8 0, .slice none 0 0, .int .i64 0, .int .i64 0, .int .i64 0, .int .i64 0, .slice none 0 0, .slice none 0 0, .slice none 0 0, .slice none 0 0, .slice none 0 0, .int .i64 0, .int .i64 0, .int .i64 0, .slice none 0 0, .slice none 0 0, .slice none 0 0, .slice none 0 0, .slice none 0 0] := zn
theorem C5 : xl Tryz.prog 212 = some [(0, 1), (1, 23)] := zn
theorem Tv : sn 130 := zk
theorem BN : c1 130 := zk
theorem D9 : yB Tryz.prog 346 = some [.int .i64 0, .int .i64 0] := zn
theorem Qi : yi Tryz.prog 346 = some (2, 3, 1) := zn
theorem bo4 : u7 Tryz.prog 4 = true := zn
theorem AA : cc 185 := zk
theorem zah : az 234 5 := zk
theorem Tg : yB Tryz.prog 234 = some [.nilFunc, .nilFunc, .nilFunc, .nilFunc, .nilFunc] := zn
theorem gf : az 262 14 := zk
theorem RK : foff Tryz.prog 257 3 = some 3 := zn
theorem wK : sn 255 := zk
theorem TN : xu Tryz.prog 255 = true := zn
theorem bR : de Tryz.prog 255 = some 4 := zn
theorem RI : foff Tryz.prog 260 3 = some 3 := zn
theorem RH : foff Tryz.prog 260 4 = some 4 := zn
theorem kX : sn 258 := zk
theorem BB : xu Tryz.prog 258 = true := zn
theorem Gi : de Tryz.prog 258 = some 5 := zn
theorem zl26 : yB Tryz.prog 26 = some [.slice none 0 0] := zn
theorem Aw : cc 229 := zk
theorem Tm : (Tryz.prog.underlying 303).isSome = true := zn
theorem Av : cc 248 := zk
theorem Tc : yB Tryz.prog 406 = some [.int .u32 0, .int .u32 0, .int .u32 0, .int .u32 0, .int .u32 0, .int .u32 0, .int .u32 0, .int .u32 0] := zn
theorem Fi : az 406 8 := zk
theorem Au : cc 249 := zk
theorem Fh : az 408 64 := zk
theorem Ar : cc 250 := zk
theorem A6 : yi Tryz.prog 406 = some (8, 405, 1) := zn
theorem Aq : cc 252 := zk
theorem CD : sn 265 := zk
theorem Ap : cc 265 := zk
theorem An : cc 270 := zk
theorem Ao : cc 269 := zk
theorem Am : cc 271 := zk
theorem NU : cc 272 := zk
theorem NT : cc 273 := zk
theorem ec : cc 274 := zk
theorem Ky : sn 197 := zk
theorem T4 : cc 275 := zk
theorem dy : foff Tryz.prog 203 0 = some 0 := zn
theorem Kx : sn 201 := zk
theorem Gu : cc 277 := zk
theorem af : cc 276 := zk
theorem Gt : cc 278 := zk
theorem Ak : cc 279 := zk
theorem NR : cc 280 := zk
theorem Aj : cc 281 := zk
theorem eZ : sn 338 := zk
theorem Ai : cc 282 := zk
theorem Af : cc 283 := zk
theorem Ac : cc 284 := zk
theorem Ab : cc 285 := zk
theorem CF : sn 121 := zk
theorem Vw : yB Tryz.prog 461 = some [.slice none 0 0, .int .i64 0] := zn
theorem KM : xl Tryz.prog 461 = some [(0, 1), (1, 1)] := zn
theorem D8 : yB Tryz.prog 462 = some [.slice none 0 0, .int .i64 0, .slice none 0 0, .int .i64 0, .slice none 0 0, .int .i64 0, .slice none 0 0, .int .i64 0] := zn
theorem Fc : yi Tryz.prog 462 = some (4, 461, 2) := zn
theorem Dv : az 461 2 := zk
theorem zad : az 461 2 := zk
theorem Aa : cc 286 := zk
theorem Tf : yB Tryz.prog 257 = some [.int .i8 0, .int .i64 0, .int .i8 0, .slice none 0 0] := zn
theorem B9 : cc 295 := zk
theorem Ax : cc 215 := zk
theorem CE : sn 180 := zk
theorem CZ : cT Tryz.prog 265 = true := zn
theorem B8 : cc 314 := zk
theorem RD : foff Tryz.prog 390 1 = some 1 := zn
theorem Tu : sn 387 := zk
theorem T3 : cc 327 := zk
theorem Gh : de Tryz.prog 505 = some 1 := zn
theorem Kw : sn 303 := zk
theorem T2 : cc 328 := zk
theorem TO : qu Tryz.prog 405 .u32 = true := zn
theorem A5 : yi Tryz.prog 408 = some (64, 405, 1) := zn
theorem B6 : cc 329 := zk
theorem C0 : cT Tryz.prog 184 = true := zn
theorem D7 : yB Tryz.prog 544 = some [.slice none 0 0, .slice none 0 0, .slice none 0 0] := zn
theorem GF : yi Tryz.prog 544 = some (3, 90, 1) := zn
theorem J2 : sn 90 := zk
theorem YC : yB Tryz.prog 547 = some [.pointer none] := zn
theorem Ul : xl Tryz.prog 547 = some [(0, 1)] := zn
theorem bA : (Tryz.prog.underlying 547).isSome = true := zn
theorem bL : yQ Tryz.prog 547 = false := zn
theorem Gr : cc 349 := zk
theorem kD : foff Tryz.prog 257 0 = some 0 := zn
theorem Ge : foff Tryz.prog 260 0 = some 0 := zn
theorem RJ : foff Tryz.prog 260 1 = some 1 := zn
theorem B5 : cc 350 := zk
theorem Fa : yi Tryz.prog 549 = some (4, 548, 4) := zn
theorem Du : az 548 4 := zk
theorem Fb : yi Tryz.prog 548 = some (4, 201, 1) := zn
theorem Dq : sn 201 := zk
theorem Cc : yB Tryz.prog 260 = some [.int .i8 0, .int .i8 0, .string ByteArray.empty, .slice none 0 0, .slice none 0 0] := zn
theorem B4 : cc 351 := zk
theorem B3 : cc 376 := zk
theorem B0 : cc 377 := zk
theorem B7 : cc 315 := zk
theorem BZ : cc 380 := zk
theorem Tq : wO Tryz.prog 505 = some (303, 1, 8, [.int .u64 0]) := zn
theorem NQ : cc 393 := zk
theorem T1 : cc 394 := zk
theorem zab : az 547 1 := zk
theorem bE : sn 446 := zk
theorem Km : yB Tryz.prog 554 = some [.pointer none] := zn
theorem Mw : xl Tryz.prog 554 = some [(0, 1)] := zn
theorem VE : (Tryz.prog.underlying 554).isSome = true := zn
theorem Ur : yQ Tryz.prog 554 = false := zn
theorem jy : wO Tryz.prog 636 = some (444, 1, 16, [.nilIface]) := zn
theorem H9 : yB Tryz.prog 638 = some [.pointer none] := zn
theorem TB : xl Tryz.prog 638 = some [(0, 1)] := zn
theorem Lm : (Tryz.prog.underlying 638).isSome = true := zn
theorem MI : yQ Tryz.prog 638 = false := zn
theorem D5 : yB Tryz.prog 639 = some [.slice none 0 0, .slice none 0 0] := zn
theorem N9 : yi Tryz.prog 639 = some (2, 90, 1) := zn
theorem N7 : sn 90 := zk
theorem zaa : az 554 1 := zk
theorem Tt : sn 449 := zk
theorem A9 : az 638 1 := zk
theorem Kv : sn 451 := zk
theorem BD : de Tryz.prog 636 = some 1 := zn
theorem CC : sn 444 := zk
theorem Fg : az 549 16 := zk
theorem Ta : yB Tryz.prog 549 = some [.int .i8 0, .int .i8 0, .int .i8 0, .int .i8 0, .int .i8 0, .int .i8 0, .int .i8 0, .int .i8 0, .int .i8 0, .int .i8 0, .int .i8 0, .int .i8 0, .int .i8 0, .int .i8 0, .int .i8 0, .int .i8 0] := zn
theorem D6 : yB Tryz.prog 548 = some [.int .i8 0, .int .i8 0, .int .i8 0, .int .i8 0] := zn
theorem BY : cc 435 := zk
theorem BX : cc 436 := zk
theorem qz : cc 456 := zk
theorem BV : cc 510 := zk
theorem BU : cc 514 := zk
theorem jk : cc 517 := zk
theorem BT : cc 516 := zk
end Go.Proofs.YtijakengkacnlaaGreatDoor
namespace Go.Proofs.YtijakengkacnlaaGreatDoor
open Go.Eng
set_option maxRecDepth 100000
def tz : Vc := ⟨[(25, 0, 0), (25, 1, 1), (33, 0, 0), (33, 1, 1), (33, 2, 2), (33, 3, 3), (33, 4, 4), (33, 5, 5), (33, 6, 6), (33, 7, 7), (36, 0, 0), (36, 1, 1), (36, 2, 2), (36, 3, 3), (36, 4, 4), (36, 5, 5), (36, 6, 6), (36, 7, 7), (44, 0, 0), (44, 1, 1), (44, 2, 2), (44, 3, 3), (44, 4, 4), (44, 5, 5), (48, 0, 0), (48, 1, 1), (48, 2, 2), (48, 3, 3), (48, 4, 4), (48, 5, 5), (48, 6, 6), (58, 0, 0), (58, 1, 1), (58, 2, 2), (58, 3, 3), (58, 4, 4), (58, 5, 5), (58, 6, 11), (58, 7, 12), (58, 8, 13), (61, 0, 0), (61, 1, 1), (61, 2, 2), (61, 3, 3), (61, 4, 4), (61, 5, 5), (61, 6, 6), (71, 0, 0), (73, 0, 0), (86, 0, 0), (86, 1, 2), (86, 2, 25), (86, 3, 31), (86, 4, 32), (92, 0, 0), (92, 1, 1), (92, 2, 2), (92, 3, 3), (92, 4, 4), (92, 5, 5), (92, 6, 6), (92, 7, 7), (92, 8, 8), (92, 9, 9), (92, 10, 10), (92, 11, 11), (99, 0, 0), (99, 1, 2), (99, 2, 3), (99, 3, 4), (99, 4, 5), (99, 5, 6), (99, 6, 7), (99, 7, 8), (99, 8, 9), (99, 9, 10), (104, 0, 0), (104, 1, 1), (104, 2, 2), (104, 3, 3), (104, 4, 4), (110, 0, 0), (110, 1, 1), (110, 2, 2), (125, 0, 0), (125, 1, 1), (125, 2, 2), (125, 3, 3), (127, 0, 0), (127, 1, 1), (127, 2, 2), (127, 3, 3), (127, 4, 4), (127, 5, 5), (127, 6, 6), (132, 0, 0), (132, 1, 1), (132, 2, 2), (144, 0, 0), (144, 1, 1), (173, 0, 0), (173, 1, 1), (189, 0, 0), (189, 1, 1), (189, 2, 2), (189, 3, 4), (189, 4, 6), (189, 5, 8), (194, 0, 0), (194, 1, 2), (194, 2, 3), (194, 3, 4), (194, 4, 5), (194, 5, 77), (194, 6, 78), (196, 0, 0), (196, 1, 1), (196, 2, 2), (196, 3, 4), (196, 4, 27), (203, 0, 0), (212, 0, 0), (212, 1, 1), (217, 0, 0), (237, 0, 0), (237, 1, 1), (237, 2, 2), (242, 0, 0), (242, 1, 2), (242, 2, 25), (242, 3, 27), (242, 4, 28), (242, 5, 29), (250, 0, 0), (250, 1, 1), (257, 0, 0), (257, 1, 1), (257, 2, 2), (257, 3, 3), (260, 0, 0), (260, 1, 1), (260, 2, 2), (260, 3, 3), (260, 4, 4), (262, 0, 0), (262, 1, 1), (262, 2, 2), (262, 3, 6), (262, 4, 7), (262, 5, 12), (262, 6, 13), (271, 0, 0), (271, 1, 1), (271, 2, 2), (271, 3, 3), (271, 4, 4), (271, 5, 5), (276, 0, 0), (276, 1, 1), (276, 2, 2), (276, 3, 3), (276, 4, 4), (276, 5, 6), (276, 6, 8), (276, 7, 9), (295, 0, 0), (295, 1, 1), (295, 2, 2), (295, 3, 3), (297, 0, 0), (297, 1, 1), (297, 2, 2), (297, 3, 3), (309, 0, 0), (309, 1, 1), (309, 2, 2), (309, 3, 3), (309, 4, 4), (309, 5, 5), (318, 0, 0), (318, 1, 1), (318, 2, 15), (327, 0, 0), (327, 1, 1), (332, 0, 0), (332, 1, 1), (336, 0, 0), (336, 1, 1), (371, 0, 0), (371, 1, 1), (373, 0, 0), (373, 1, 2), (373, 2, 3), (377, 0, 0), (377, 1, 1), (390, 0, 0), (390, 1, 1), (390, 2, 2), (420, 0, 0), (420, 1, 1), (427, 0, 0), (427, 1, 1), (427, 2, 2), (427, 3, 5), (427, 4, 6), (427, 5, 7), (427, 6, 8), (429, 0, 0), (461, 0, 0), (461, 1, 1), (474, 0, 0), (477, 0, 0), (490, 0, 0), (490, 1, 16), (492, 0, 0), (492, 1, 48), (504, 0, 0), (504, 1, 1), (510, 0, 0), (513, 0, 0), (513, 1, 1), (513, 2, 2), (518, 0, 0), (518, 1, 1), (520, 0, 0), (520, 1, 1), (522, 0, 0), (522, 1, 1), (524, 0, 0), (525, 0, 0), (526, 0, 0), (528, 0, 0), (528, 1, 1), (530, 0, 0), (530, 1, 1), (532, 0, 0), (532, 1, 1), (534, 0, 0), (534, 1, 1), (547, 0, 0), (554, 0, 0), (559, 0, 0), (559, 1, 1), (566, 0, 0), (566, 1, 1), (566, 2, 2), (626, 0, 0), (626, 1, 1), (626, 2, 2), (626, 3, 3), (626, 4, 4), (626, 5, 5), (626, 6, 6), (626, 7, 7), (626, 8, 8), (626, 9, 9), (629, 0, 0), (629, 1, 1), (629, 2, 2), (629, 3, 3), (629, 4, 4), (629, 5, 5), (629, 6, 6), (629, 7, 7), (635, 0, 0), (635, 1, 1), (635, 2, 2), (638, 0, 0), (656, 0, 0), (656, 1, 256), (656, 2, 512), (668, 0, 0), (688, 0, 0), (701, 0, 0), (701, 1, 1), (713, 0, 0), (718, 0, 0), (718, 1, 1), (729, 0, 0), (729, 1, 1), (731, 0, 0), (750, 0, 0), (750, 1, 1), (750, 2, 2), (753, 0, 0), (753, 1, 1), (753, 2, 2), (756, 0, 0), (756, 1, 1), (756, 2, 2), (759, 0, 0), (759, 1, 8), (759, 2, 9), (759, 3, 10)], [22, 23, 26, 31, 37, 42, 46, 54, 59, 64, 65, 90, 130, 146, 156, 180, 191, 192, 255, 258, 290, 505, 617, 636, 680, 697, 716, 743, 747, 748, 760, 763]⟩
theorem qD : jl Tryz.prog tz := ⟨by kernel_rfl, by kernel_rfl⟩
variable {L : List ya} {Q Q0 : yd} {env env' : Env} {fs fs' : List Fm} {g' : GU} {m : Mp} {n : Nat}
theorem tr (k : Nat) {c : Code} [r : Reif Tryz.prog n Q fs Q0] (hk : xH Tryz.prog n g' fs' env' m L Q0) (h : vW tz n k (.code c) fs env = (g', fs', env') := by exact rfl) : TS Tryz.prog n c env m L Q := CO qD k h hk
variable {l l0 : List Oper}
theorem vr (k : Nat) [r : Reif Tryz.prog n Q fs Q0] (hk : xH Tryz.prog n g' fs' env' m L Q0) (h : vW tz n k (.ops l0 l) fs env = (g', fs', env') := by exact rfl) : VS Tryz.prog n l0 l env m L Q := bF qD k h hk
variable {d : Nat} {o : Oper} {v : Value}
theorem lr (k : Nat) [r : Reif Tryz.prog n Q fs Q0] (hr : ∀ h, HS m L h -> xM Tryz.prog n o env h v) (hk : xH Tryz.prog n g' fs' env' m L Q0) (hd : o.dst = some d := by exact rfl) (hn : Nat.blt d n = true := by exact rfl) (hw : wanted l0 env o = some true := by exact rfl) (h : vW tz n k (.ops l0 l) fs ((d, v) :: env) = (g', fs', env') := by exact rfl) : VS Tryz.prog n l0 (o :: l) env m L Q := FO qD k hr hk hd hn hw h
theorem pe (k : Nat) [r : Reif Tryz.prog n Q fs Q0] (hr : zP Tryz.prog n o env v) (hk : xH Tryz.prog n g' fs' env' m L Q0) (hd : o.dst = some d := by exact rfl) (hn : Nat.blt d n = true := by exact rfl) (hw : wanted l0 env o = some true := by exact rfl) (h : vW tz n k (.ops l0 l) fs ((d, v) :: env) = (g', fs', env') := by exact rfl) : VS Tryz.prog n l0 (o :: l) env m L Q := eF qD k hr hk hd hn hw h
theorem ct (k : Nat) {p : Prop} [r : Reif Tryz.prog n Q fs Q0] (hc : WR env o.op = some p) (hp : p) (hk : xH Tryz.prog n g' fs' env' m L Q0) (hd : o.dst = some d := by exact rfl) (hn : Nat.blt d n = true := by exact rfl) (hw : wanted l0 env o = some true := by exact rfl) (h : vW tz n k (.ops l0 l) fs ((d, .bool true) :: env) = (g', fs', env') := by exact rfl) : VS Tryz.prog n l0 (o :: l) env m L Q := eF qD k ((uW hc).1 hp) hk hd hn hw h
section
variable {n d b i q : Nat} {v : Value} {l0 l : List Oper} {env : Env} {m : Mp} {L r L' : List ya} {Q Q0 : yd} {fs : List Fm} {g' : GU} {fs' : List Fm} {env' : Env} {ty t yt e : TypeId} {pos : String} {aft : Array Edge} {gd : Option (Nat × Bool)} {x y : Operand} {a : Addr} {vl vl' vs : Lv}
theorem Lo (k : Nat) [Reif Tryz.prog n Q fs Q0] (ht : single Tryz.prog t = true) (hx : ev env x = some (.pointer (some a))) (hc : mc m a = some v) (hk : xH Tryz.prog n g' fs' env' m L Q0) (hn : Nat.blt d n = true := by exact rfl) (hw : wanted l0 env ⟨some d, .load t x, ty, pos, aft, gd⟩ = some true := by exact rfl) (h : vW tz n k (.ops l0 l) fs ((d, v) :: env) = (g', fs', env') := by exact rfl) : VS Tryz.prog n l0 (⟨some d, .load t x, ty, pos, aft, gd⟩ :: l) env m L Q := lr k (zw ht hx hc) hk rfl hn hw h
theorem Lb (k : Nat) [Reif Tryz.prog n Q fs Q0] (ht : single Tryz.prog t = true) (hT : Tk L (cel b vl e) r) (hk : xH Tryz.prog n g' fs' env' m L Q0) (hx : ev env x = some (.pointer (some ⟨b, i, none⟩)) := by exact rfl) (hv : qZ vl i = some v := by exact rfl) (hn : Nat.blt d n = true := by exact rfl) (hw : wanted l0 env ⟨some d, .load t x, ty, pos, aft, gd⟩ = some true := by exact rfl) (h : vW tz n k (.ops l0 l) fs ((d, v) :: env) = (g', fs', env') := by exact rfl) : VS Tryz.prog n l0 (⟨some d, .load t x, ty, pos, aft, gd⟩ :: l) env m L Q := lr k (au ht hx hT hv) hk rfl hn hw h
theorem Lc (k : Nat) [Reif Tryz.prog n Q fs Q0] (ht : xb Tryz.prog t = some q) (hT : Tk L (cel b vl e) r) (hk : xH Tryz.prog n g' fs' env' m L Q0) (hx : ev env x = some (.pointer (some ⟨b, 0, none⟩)) := by exact rfl) (hl : vl.length = q := by exact rfl) (hn : Nat.blt d n = true := by exact rfl) (hw : wanted l0 env ⟨some d, .load t x, ty, pos, aft, gd⟩ = some true := by exact rfl) (h : vW tz n k (.ops l0 l) fs ((d, .agg vl.toArray) :: env) = (g', fs', env') := by exact rfl) : VS Tryz.prog n l0 (⟨some d, .load t x, ty, pos, aft, gd⟩ :: l) env m L Q := lr k (aq ht hx hT hl) hk rfl hn hw h
theorem La (k : Nat) [Reif Tryz.prog n Q fs Q0] (ht : xb Tryz.prog t = some q) (hc : At m a vl) (hk : xH Tryz.prog n g' fs' env' m L Q0) (hx : ev env x = some (.pointer (some a)) := by exact rfl) (hl : vl.length = q := by exact rfl) (hn : Nat.blt d n = true := by exact rfl) (hw : wanted l0 env ⟨some d, .load t x, ty, pos, aft, gd⟩ = some true := by exact rfl) (h : vW tz n k (.ops l0 l) fs ((d, .agg vl.toArray) :: env) = (g', fs', env') := by exact rfl) : VS Tryz.prog n l0 (⟨some d, .load t x, ty, pos, aft, gd⟩ :: l) env m L Q := lr k (yg ht hx hl hc) hk rfl hn hw h
theorem Pa (k : Nat) {a1 b1 : Int} [Reif Tryz.prog n Q fs Q0] (hk : xH Tryz.prog n g' fs' env' m L Q0) (hx : ev env x = some (.int .i64 a1) := by exact rfl) (hy : ev env y = some (.int .i64 b1) := by exact rfl) (h1 : -9223372036854775808 <= a1 + b1 := by omega) (h2 : a1 + b1 <= 9223372036854775807 := by omega) (hn : Nat.blt d n = true := by exact rfl) (hw : wanted l0 env ⟨some d, .binOp .add t x y yt, ty, pos, aft, gd⟩ = some true := by exact rfl) (h : vW tz n k (.ops l0 l) fs ((d, .int .i64 (a1 + b1)) :: env) = (g', fs', env') := by exact rfl) : VS Tryz.prog n l0 (⟨some d, .binOp .add t x y yt, ty, pos, aft, gd⟩ :: l) env m L Q := pe k (yp hx hy (qx h1 h2)) hk rfl hn hw h
theorem Sg (k : Nat) [Reif Tryz.prog n Q fs Q0] (ht : xb Tryz.prog t = some q) (hT : qB L (cel b vl e) (cel b vs e) L') (hk : xH Tryz.prog n g' fs' env' m L' Q0) (hx : ev env x = some (.pointer (some ⟨b, 0, none⟩)) := by exact rfl) (hy : ev env y = some (.agg vs.toArray) := by exact rfl) (hq : Nat.beq vs.length q = true := by exact rfl) (hl : Nat.beq vl.length q = true := by exact rfl) (h1 : vs.all uI = true := by exact rfl) (hw : wanted l0 env ⟨none, .store t x y, ty, pos, aft, gd⟩ = some true := by exact rfl) (h : vW tz n k (.ops l0 l) fs env = (g', fs', env') := by exact rfl) : VS Tryz.prog n l0 (⟨none, .store t x y, ty, pos, aft, gd⟩ :: l) env m L Q := zg (yh ht hx hy hq hT hl h1 (bF qD k h hk)) hw
theorem Sr (k : Nat) [Reif Tryz.prog n Q fs Q0] (ht : kK Tryz.prog t = true) (hT : qB L (cel b vl e) (cel b vl' e) L') (hu : USet vl i v vl') (hk : xH Tryz.prog n g' fs' env' m L' Q0) (hx : ev env x = some (.pointer (some ⟨b, i, none⟩)) := by exact rfl) (hy : ev env y = some v := by exact rfl) (hv : uI v = true := by exact rfl) (hw : wanted l0 env ⟨none, .store t x y, ty, pos, aft, gd⟩ = some true := by exact rfl) (h : vW tz n k (.ops l0 l) fs env = (g', fs', env') := by exact rfl) : VS Tryz.prog n l0 (⟨none, .store t x y, ty, pos, aft, gd⟩ :: l) env m L Q := zg (yx ht hx hy hv hT hu (bF qD k h hk)) hw
variable {z : Lv}
theorem Al (k : Nat) {g' : Nat -> GU} {fs' : Nat -> List Fm} {env' : Nat -> Env} [Reif Tryz.prog n Q fs Q0] (hz : yB Tryz.prog t = some z) (hk : ∀ b, xH Tryz.prog n (g' b) (fs' b) (env' b) m (cel b z t :: L) Q0) (hn : Nat.blt d n = true := by exact rfl) (hw : wanted l0 env ⟨some d, .alloc t, ty, pos, aft, gd⟩ = some true := by exact rfl) (h : ∀ b, vW tz n k (.ops l0 l) fs ((d, .pointer (some ⟨b, 0, none⟩)) :: env) = (g' b, fs' b, env' b) := by exact fun _ => rfl) : VS Tryz.prog n l0 (⟨some d, .alloc t, ty, pos, aft, gd⟩ :: l) env m L Q := zg (Ve hz hn fun b => bF qD k (h b) (hk b)) hw
theorem Bx (k : Nat) {g' : Nat -> GU} {fs' : Nat -> List Fm} {env' : Nat -> Env} [Reif Tryz.prog n Q fs Q0] (hx : ev env x = some v) (hk : ∀ b, xH Tryz.prog n (g' b) (fs' b) (env' b) m (cel b v.cells.toList t :: L) Q0) (hn : Nat.blt d n = true := by exact rfl) (hw : wanted l0 env ⟨some d, .box t x, ty, pos, aft, gd⟩ = some true := by exact rfl) (h : ∀ b, vW tz n k (.ops l0 l) fs ((d, .pointer (some ⟨b, 0, none⟩)) :: env) = (g' b, fs' b, env' b) := by exact fun _ => rfl) : VS Tryz.prog n l0 (⟨some d, .box t x, ty, pos, aft, gd⟩ :: l) env m L Q := zg (Fp hx hn fun b => bF qD k (h b) (hk b)) hw
theorem Bs (k : Nat) {len sz xn : Nat} {cs : Lv} {parts : List (Nat × Operand)} {ps : List (Nat × Value)} {g' : Nat -> GU} {fs' : Nat -> List Fm} {env' : Nat -> Env} [Reif Tryz.prog n Q fs Q0] (hs : wO Tryz.prog t = some (e, sz, xn, z)) (hk : ∀ b, xH Tryz.prog n (g' b) (fs' b) (env' b) m (cel b cs e :: L) Q0) (hx : evp env parts = some ps := by exact rfl) (hsmall : Nat.ble (len * sz) 16777216 = true := by exact rfl) (hf : fillS sz (jc (if len * sz = 0 then [] else z) (len * sz)) ps = some cs := by exact rfl) (hn : Nat.blt d n = true := by exact rfl) (hw : wanted l0 env ⟨some d, .buildSlice t len parts.toArray, ty, pos, aft, gd⟩ = some true := by exact rfl) (h : ∀ b, vW tz n k (.ops l0 l) fs ((d, .slice (some ⟨b, 0, none⟩) len len) :: env) = (g' b, fs' b, env' b) := by exact fun _ => rfl) : VS Tryz.prog n l0 (⟨some d, .buildSlice t len parts.toArray, ty, pos, aft, gd⟩ :: l) env m L Q := zg (wb hs hx hsmall hf hn fun b => bF qD k (h b) (hk b)) hw
variable {f : FuncId} {args : List Operand} {ats : Array TypeId} {pre : List ya} {post ppost : Value -> List ya -> Prop} {ee : ya} {R : Value -> Prop}
theorem C1 (hcl : z7 Tryz.prog f = true) (hx : evs env args = some vs) (hT : Tk L ee r) (hc : ∀ m', Le m m' -> HE r m' -> CS Tryz.prog f vs m' [ee] post) (hk : ∀ v L', post v L' -> VS Tryz.prog n l0 l ((d, v) :: env) m (L' ++ r) Q) (hn : Nat.blt d n = true := by exact rfl) (hw : wanted l0 env ⟨some d, .call ⟨.value (.func f), args.toArray, ats⟩, ty, pos, aft, gd⟩ = some true := by exact rfl) : VS Tryz.prog n l0 (⟨some d, .call ⟨.value (.func f), args.toArray, ats⟩, ty, pos, aft, gd⟩ :: l) env m L Q := zg (SY hcl hx hT hc hn hk) hw
theorem Cr (hcl : z7 Tryz.prog f = true) (hx : evs env args = some vs) (hc : ∀ m', Le m m' -> HE L m' -> CS Tryz.prog f vs m' [] fun v L' => R v /\ L' = []) (hk : ∀ v, R v -> VS Tryz.prog n l0 l ((d, v) :: env) m L Q) (hn : Nat.blt d n = true := by exact rfl) (hw : wanted l0 env ⟨some d, .call ⟨.value (.func f), args.toArray, ats⟩, ty, pos, aft, gd⟩ = some true := by exact rfl) : VS Tryz.prog n l0 (⟨some d, .call ⟨.value (.func f), args.toArray, ats⟩, ty, pos, aft, gd⟩ :: l) env m L Q := zg (kS hcl hx hc hn hk) hw
variable {o : Oper} {tB tB' : OB} {tT tT' : OT} {wild : Nat -> Bool}
theorem vB (k : Nat) (hk : Z7 Tryz.prog n l tB' env' m L Q) (h : bG tz n l k tB env = (tB', env') := by exact rfl) : Z7 Tryz.prog n l tB env m L Q := gz qD k h hk
theorem Vb (k : Nat) (ho : nth l i = some o) (hr : zP Tryz.prog n o env v) (hk : Z7 Tryz.prog n l tB' env' m L Q) (hd : o.dst = some d := by exact rfl) (hn : Nat.blt d n = true := by exact rfl) (hw : wanted l env o = some true := by exact rfl) (h : bG tz n l k tB ((d, v) :: env) = (tB', env') := by exact rfl) : Z7 Tryz.prog n l (.step i true tB) env m L Q := Qq ho hr hd hn hw (gz qD k h hk)
theorem Vr (k : Nat) (ho : nth l i = some o) (hr : ∀ h, HS m [] h -> xM Tryz.prog n o env h v) (hk : Z7 Tryz.prog n l tB' env' m L Q) (hd : o.dst = some d := by exact rfl) (hn : Nat.blt d n = true := by exact rfl) (hw : wanted l env o = some true := by exact rfl) (h : bG tz n l k tB ((d, v) :: env) = (tB', env') := by exact rfl) : Z7 Tryz.prog n l (.step i true tB) env m L Q := Om ho hr hd hn hw (gz qD k h hk)
theorem vt (k : Nat) (hk : aB Tryz.prog n l wild tT' env' m L Q) (h : ci tz n l k tT env = (tT', env') := by exact rfl) : aB Tryz.prog n l wild tT env m L Q := gy qD k h hk
theorem Vt (k : Nat) (ho : nth l i = some o) (hr : zP Tryz.prog n o env v) (hk : aB Tryz.prog n l wild tT' env' m L Q) (hd : o.dst = some d := by exact rfl) (hn : Nat.blt d n = true := by exact rfl) (hw : wanted l env o = some true := by exact rfl) (h : ci tz n l k tT ((d, v) :: env) = (tT', env') := by exact rfl) : aB Tryz.prog n l wild (.step i .pure tT) env m L Q := Qp ho hr hd hn hw (gy qD k h hk)
theorem Vu (k : Nat) (ho : nth l i = some o) (hr : ∀ h, HS m L h -> xM Tryz.prog n o env h v) (hk : aB Tryz.prog n l wild tT' env' m L Q) (hd : o.dst = some d := by exact rfl) (hn : Nat.blt d n = true := by exact rfl) (hw : wanted l env o = some true := by exact rfl) (h : ci tz n l k tT ((d, v) :: env) = (tT', env') := by exact rfl) : aB Tryz.prog n l wild (.step i .read tT) env m L Q := Oj ho hr hd hn hw (gy qD k h hk)
theorem Vn (k : Nat) [Reif Tryz.prog n Q fs Q0] (hk : xH Tryz.prog n g' fs' env' m L Q0) (h : vW tz n k (.exit .normal) fs env = (g', fs', env') := by exact rfl) : Z7 Tryz.prog n l .done env m L Q := SK (L0 qD k h hk)
theorem Vm (k : Nat) [Reif Tryz.prog n Q fs Q0] (hk : xH Tryz.prog n g' fs' env' m L Q0) (h : vW tz n k (.exit .normal) fs env = (g', fs', env') := by exact rfl) : aB Tryz.prog n l wild .done env m L Q := SH (L0 qD k h hk)
theorem qt (k : Nat) {c : Code} {ex : Exit} [Reif Tryz.prog n Q fs Q0] (hk : xH Tryz.prog n g' fs' env' m L Q0) (h : vW tz n k (.exit ex) (.thn c :: fs) env = (g', fs', env') := by exact rfl) : QS (xJ Tryz.prog n c Q) ex env m L := L0 (Q := xJ Tryz.prog n c Q) qD k h hk
theorem Db {id : Nat} (t : OB) (hv : Z7 Tryz.prog n l t env m L Q) (hQ : ∀ c env env' h, Q (.panic c) env h -> Q (.panic c) env' h := by exact fun _ _ _ _ hq => hq) (hck : JT l t = true := by kernel_rfl) : TS Tryz.prog n (.region id l.toArray true) env m L Q := Ot t mixed hck hQ hv
variable {p : Prop}
theorem xI (k : Nat) {o : Oper} [r : Reif Tryz.prog n Q fs Q0] (hk : xH Tryz.prog n g' fs' env' m L Q0) (hc : WR env o.op = some p := by exact rfl) (hp : p := by omega) (hd : o.dst = some d := by exact rfl) (hn : Nat.blt d n = true := by exact rfl) (hw : wanted l0 env o = some true := by exact rfl) (h : vW tz n k (.ops l0 l) fs ((d, .bool true) :: env) = (g', fs', env') := by exact rfl) : VS Tryz.prog n l0 (o :: l) env m L Q := eF qD k ((uW hc).1 hp) hk hd hn hw h
theorem yy (k : Nat) {o : Oper} [r : Reif Tryz.prog n Q fs Q0] (hk : xH Tryz.prog n g' fs' env' m L Q0) (hc : WR env o.op = some p := by exact rfl) (hp : p := by assumption) (hd : o.dst = some d := by exact rfl) (hn : Nat.blt d n = true := by exact rfl) (hw : wanted l0 env o = some true := by exact rfl) (h : vW tz n k (.ops l0 l) fs ((d, .bool true) :: env) = (g', fs', env') := by exact rfl) : VS Tryz.prog n l0 (o :: l) env m L Q := eF qD k ((uW hc).1 hp) hk hd hn hw h
theorem NI (k : Nat) {o : Oper} [r : Reif Tryz.prog n Q fs Q0] (hk : xH Tryz.prog n g' fs' env' m L Q0) (hc : WR env o.op = some p := by exact rfl) (hp : p := by exact rfl) (hd : o.dst = some d := by exact rfl) (hn : Nat.blt d n = true := by exact rfl) (hw : wanted l0 env o = some true := by exact rfl) (h : vW tz n k (.ops l0 l) fs ((d, .bool true) :: env) = (g', fs', env') := by exact rfl) : VS Tryz.prog n l0 (o :: l) env m L Q := eF qD k ((uW hc).1 hp) hk hd hn hw h
theorem ym (k : Nat) {o : Oper} [r : Reif Tryz.prog n Q fs Q0] (hk : xH Tryz.prog n g' fs' env' m L Q0) (hc : WR env o.op = some p := by exact rfl) (hp : ¬ p := by omega) (hd : o.dst = some d := by exact rfl) (hn : Nat.blt d n = true := by exact rfl) (hw : wanted l0 env o = some true := by exact rfl) (h : vW tz n k (.ops l0 l) fs ((d, .bool false) :: env) = (g', fs', env') := by exact rfl) : VS Tryz.prog n l0 (o :: l) env m L Q := eF qD k ((uW hc).2 hp) hk hd hn hw h
theorem zA (k : Nat) {o : Oper} [r : Reif Tryz.prog n Q fs Q0] (hk : xH Tryz.prog n g' fs' env' m L Q0) (hc : WR env o.op = some p := by exact rfl) (hp : ¬ p := by assumption) (hd : o.dst = some d := by exact rfl) (hn : Nat.blt d n = true := by exact rfl) (hw : wanted l0 env o = some true := by exact rfl) (h : vW tz n k (.ops l0 l) fs ((d, .bool false) :: env) = (g', fs', env') := by exact rfl) : VS Tryz.prog n l0 (o :: l) env m L Q := eF qD k ((uW hc).2 hp) hk hd hn hw h
theorem Vl (k : Nat) (ho : nth l i = some ⟨some d, .load t x, ty, pos, aft, gd⟩) (ht : single Tryz.prog t = true) (hT : Tk L (cel b vl e) r) (hk : aB Tryz.prog n l wild tT' env' m L Q) (hx : ev env x = some (.pointer (some ⟨b, q, none⟩)) := by exact rfl) (hv : qZ vl q = some v := by exact rfl) (hn : Nat.blt d n = true := by exact rfl) (hw : wanted l env ⟨some d, .load t x, ty, pos, aft, gd⟩ = some true := by exact rfl) (h : ci tz n l k tT ((d, v) :: env) = (tT', env') := by exact rfl) : aB Tryz.prog n l wild (.step i .read tT) env m L Q := Vu k ho (au ht hx hT hv) hk rfl hn hw h
end
end Go.Proofs.YtijakengkacnlaaGreatDoor
